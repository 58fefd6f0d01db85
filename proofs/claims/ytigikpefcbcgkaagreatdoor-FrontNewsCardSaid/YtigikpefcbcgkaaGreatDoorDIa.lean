/- A data-level reading of the code of a program, and that it is sound, part 1. No condition. -/
import Derived.WalkKit
import Derived.KernelRfl
set_option linter.all false
namespace Go.DI
open Go Go.RowKit

inductive Dat where
 | bool (b : Bool)
 | int (k : IntKind) (n : Int)
 | str (s : ByteArray)
 | nilp
 | fro (sz n : Nat) (get : Nat -> List Dat)

inductive Cl where
 | d (v : Dat)
 | own (nm : Nat)
 | vw (nm off len : Nat)
 | nils
 | ptr (nm off : Nat)
 | rp (nm el off : Nat)
 | pf (cs : List Dat)
 | z
 | u

inductive TV where
 | c (c : Cl)
 | agg (cs : List Cl)
 | tup (vs : List TV)

inductive RK where | own | win | frz

inductive Ob where
 | box (cs : List Cl)
 | row (k : RK) (e sz n : Nat) (get : Nat -> List Dat)
 | iter (s : ByteArray) (pos : Nat)
 | bld (s : ByteArray)

abbrev Env := List (Nat × TV)
abbrev Obs := List (Nat × Option Ob)

def look : Env -> Nat -> TV
 | [], _ => .c .u
 | (s, v) :: e, t => bif Nat.beq s t then v else look e t
def lookO : Obs -> Nat -> Option Ob
 | [], _ => none
 | (s, v) :: e, t => bif Nat.beq s t then v else lookO e t
def put (d : Option Tmp) (v : TV) (e : Env) : Env := match d with | some d => (d, v) :: e | none => e

def ofCell : Value -> Cl
 | .bool b => .d (.bool b)
 | .int k n => .d (.int k n)
 | .string s => .d (.str s)
 | .pointer none => .d .nilp
 | .slice none 0 0 => .nils
 | _ => .u
def ofConst : Value -> TV
 | .agg cs => bif cs.toList.all (·.oneCell') then .agg (cs.toList.map ofCell) else .c .u
 | .tuple vs => match vs.toList with | [] => .tup [] | _ => .c .u
 | v => .c (ofCell v)
class Tabs where
 tab : List (Nat × List Dat)
 /-- the types strings.Builder and uint8 -/
 bT : Nat
 bE : Nat
def tabOf (g : Nat) : List (Nat × List Dat) -> Option (List Dat)
 | [] => none
 | (h, ds) :: r => bif Nat.beq h g then some ds else tabOf g r
variable [Tabs]
def evalO (env : Env) : Operand -> TV
 | .tmp t => look env t
 | .const v => ofConst v
 | .global g => match tabOf g Tabs.tab with | some ds => .c (.pf ds) | none => .c .u
 | _ => .c .u
def cellsOf : TV -> Option (List Cl)
 | .c .u => none
 | .c .z => none
 | .c c => some [c]
 | .agg cs => some cs
 | .tup _ => none

def datOf (obs : Obs) : Cl -> Option Dat
 | .d v => some v
 | .nils => some (.fro 0 0 fun _ => [])
 | .own nm => match lookO obs nm with
  | some (.row _ _ sz n get) => some (.fro sz n get)
  | _ => none
 | _ => none
def datsOf (obs : Obs) : List Cl -> Option (List Dat)
 | [] => some []
 | c :: cs => match datOf obs c, datsOf obs cs with | some d, some ds => some (d :: ds) | _, _ => none
def rowsIn (obs : Obs) : List Cl -> Obs
 | [] => []
 | .own nm :: cs => match lookO obs nm with
  | some (.row .own e sz n get) => (nm, some (.row .frz e sz n get)) :: rowsIn obs cs
  | _ => rowsIn obs cs
 | _ :: cs => rowsIn obs cs
def isWin (obs : Obs) : List Cl -> Bool
 | [] => false
 | .own nm :: cs => match lookO obs nm with
  | some (.row .win _ _ _ _) => true
  | _ => isWin obs cs
 | _ :: cs => isWin obs cs
def frz (obs : Obs) : TV -> Option (TV × Obs)
 | .c c => match datOf obs c with | some d => bif isWin obs [c] then none else some (.c (.d d), rowsIn obs [c]) | none => none
 | .agg cs => match datsOf obs cs with | some ds => bif isWin obs cs then none else some (.agg (ds.map .d), rowsIn obs cs) | none => none
 | .tup _ => none

def wr (k : IntKind) (n : Int) : Int := match k with | .i64 => wrap64 n | k => k.wrap n
def mxI (a b : Int) : Int := if a < b then b else a
def mnI (a b : Int) : Int := if b < a then b else a
def shlI (k : IntKind) (x y : Int) : Int := k.wrap (x * 2 ^ min y.toNat k.bits)
def shrI (k : IntKind) (x y : Int) : Int := x / 2 ^ min y.toNat k.bits
def btI (s : ByteArray) (i : Int) : Int := if h : i.toNat < s.size then ((s[i.toNat]'h).toNat : Int) else 0

inductive DSim : Dat -> Dat -> Prop
 | refl (d : Dat) : DSim d d
 | nil (sz sz' : Nat) (g g' : Nat -> List Dat) : DSim (.fro sz 0 g) (.fro sz' 0 g')
def LSim : List Dat -> List Dat -> Prop
 | [], [] => True
 | a :: as, b :: bs => DSim a b /\ LSim as bs
 | _, _ => False
theorem LSim.rfl : ∀ (l : List Dat), LSim l l
 | [] => trivial
 | a :: l => ⟨.refl a, LSim.rfl l⟩
def Same (n : Nat) (f g : Nat -> List Dat) : Prop := ∀ j, j < n -> LSim (f j) (g j)

structure Eff where
 val : TV
 upd : Obs
 rd : List Nat
 req : Option Prop

inductive Sup where
 | b (t : Bool)
 | v (x : TV)
 | r (n : Nat) (get : Nat -> List Dat)
 | call (exp : List (Nat × TV)) (lend : List Nat) (r : TV) (new : Option Ob) (back : Obs) (full : List (Nat × Nat × (Nat -> List Dat)))

def eff (v : TV) (rd : List Nat := []) : Option Eff := some ⟨v, [], rd, none⟩
def effR (v : TV) (q : Prop) (rd : List Nat := []) : Option Eff := some ⟨v, [], rd, some q⟩

def dInt (k : IntKind) (n : Int) : TV := .c (.d (.int k n))
def dBool (b : Bool) : TV := .c (.d (.bool b))
def dStr (s : ByteArray) : TV := .c (.d (.str s))

def eqFlat (P : Program) : List Field -> Nat -> List Cl -> List Cl -> Option Bool
 | [], _, [], [] => some true
 | f :: fs, off, .d (.int k x) :: a, .d (.int k' y) :: b => if f.offset = off /\ f.name ≠ "_" /\ k = k' then (match P.underlying f.type, eqFlat P fs (off + 1) a b with | some (.int _), some r => some ((x == y) && r) | _, _ => none) else none
 | f :: fs, off, .d (.bool x) :: a, .d (.bool y) :: b => if f.offset = off /\ f.name ≠ "_" then (match P.underlying f.type, eqFlat P fs (off + 1) a b with | some .bool, some r => some ((x == y) && r) | _, _ => none) else none
 | f :: fs, off, .d (.str x) :: a, .d (.str y) :: b => if f.offset = off /\ f.name ≠ "_" then (match P.underlying f.type, eqFlat P fs (off + 1) a b with | some .string, some r => some ((x.toList == y.toList) && r) | _, _ => none) else none
 | _, _, _, _ => none

def bin (P : Program) (t : TypeId) (op : BinOp) (x y : TV) : Option (TV × Option Prop) :=
 match x, y with
 | .c (.d (.int k a)), .c (.d (.int k' b)) =>
  match op with
  | .shl => some (dInt k (shlI k a b), some (0 <= b))
  | .shr => some (dInt k (shrI k a b), some (0 <= b))
  | _ => if k = k' then
   match op with
   | .add => some (dInt k (wr k (a + b)), none)
   | .sub => some (dInt k (wr k (a - b)), none)
   | .mul => some (dInt k (wr k (a * b)), none)
   | .quo => some (dInt k (wr k (a.tdiv b)), some (b ≠ 0))
   | .rem => some (dInt k (a.tmod b), some (b ≠ 0))
   | .and => some (dInt k (Go.bits .and k a b), none)
   | .or => some (dInt k (Go.bits .or k a b), none)
   | .xor => some (dInt k (Go.bits .xor k a b), none)
   | .eql => some (dBool (a == b), none)
   | .neq => some (dBool (a != b), none)
   | .lss => some (dBool (decide (a < b)), none)
   | .leq => some (dBool (decide (a <= b)), none)
   | .gtr => some (dBool (decide (a > b)), none)
   | .geq => some (dBool (decide (a >= b)), none)
   | _ => none
   else none
 | .c (.d (.bool a)), .c (.d (.bool b)) =>
  match op, P.underlying t with
  | .eql, some .bool => some (dBool (a == b), none)
  | .neq, some .bool => some (dBool (!(a == b)), none)
  | _, _ => none
 | .c (.d (.str a)), .c (.d (.str b)) =>
  match op with
  | .add => some (dStr (a ++ b), some (a.size + b.size <= 9223372036854775807))
  | .eql => some (dBool (a.toList == b.toList), none)
  | .neq => some (dBool (!(a.toList == b.toList)), none)
  | _ => none
 | .agg a, .agg b =>
  match P.underlying t with
  | some (.struct fs) => if P.eqGuardType P.depth t = false /\ P.stoodInHeld t = false then
   match op, eqFlat P fs.toList 0 a b with
   | .eql, some r => some (dBool r, none)
   | .neq, some r => some (dBool (!r), none)
   | _, _ => none
   else none
  | _ => none
 | _, _ => none

def fieldOf (P : Program) (t f : Nat) : Option Field := match P.underlying t with | some (.struct fs) => fs[f]? | _ => none
def isAggT (P : Program) (t : Nat) : Bool := match P.underlying t with | some (.struct _) | some (.array _ _) => true | _ => false
def elemT (P : Program) (t : Nat) : Option Nat := match P.underlying t with | some (.slice e) => some e | _ => none

def partOf (P : Program) (t : Nat) (cs : List Cl) (off : Nat) : Option TV :=
 if isAggT P t then (if off + P.cellsOf t <= cs.length then some (.agg ((cs.drop off).take (P.cellsOf t))) else none)
 else match cs.drop off with | c :: _ => some (.c c) | [] => none

def over (off : Nat) (new cs : List Cl) : List Cl := cs.take off ++ new ++ cs.drop (off + new.length)
def overD (off : Nat) (new cs : List Dat) : List Dat := cs.take off ++ new ++ cs.drop (off + new.length)

def zeroT (P : Program) (t : Nat) : Option (List Cl) := match P.info? t with
 | some i => match i.zero with | some z => (if z.cells.size = i.size /\ z.cells.toList.all (·.oneCell') = true then some (z.cells.toList.map ofCell) else none) | none => none
 | none => none
def zeroD (P : Program) (t : Nat) : Option (List Dat) := match zeroT P t with | some cs => datsOf [] cs | none => none

def fillL (P : Program) (fs : Array Field) : List (Nat × TV) -> List Cl -> Option (List Cl)
 | [], cs => some cs
 | (i, v) :: r, cs => match fs[i]?, cellsOf v with
  | some f, some new => if new.length = P.cellsOf f.type /\ f.offset + new.length <= cs.length then fillL P fs r (over f.offset new cs) else none
  | _, _ => none

def partsL (sz : Nat) (obs : Obs) : Nat -> List (Nat × TV) -> Option (List (List Dat))
 | _, [] => some []
 | i, (j, v) :: r => if i = j then match cellsOf v with
  | some cs => if cs.length = sz then match datsOf obs cs, partsL sz obs (i + 1) r with | some ds, some l => some (ds :: l) | _, _ => none else none
  | none => none
  else none
def partRows (obs : Obs) : List (Nat × TV) -> Obs
 | [] => []
 | (_, v) :: r => match cellsOf v with | some cs => rowsIn obs cs ++ partRows obs r | none => partRows obs r
def partWin (obs : Obs) : List (Nat × TV) -> Bool
 | [] => false
 | (_, v) :: r => match cellsOf v with | some cs => isWin obs cs || partWin obs r | none => partWin obs r

def hasSelf (nm : Nat) : List Cl -> Bool
 | [] => false
 | .own m :: r => bif Nat.beq m nm then true else hasSelf nm r
 | _ :: r => hasSelf nm r
def lim : Nat := 140737488355328
def keepB : Prop -> Prop := id

def bytesIn (obs : Obs) : TV -> Option (Nat × (Nat -> List Dat) × List Nat)
 | .c .nils => some (0, fun _ => [], [])
 | .c (.d (.fro 1 n get)) => some (n, get, [])
 | .c (.own nm) => match lookO obs nm with
  | some (.row _ _ 1 n get) => some (n, get, [nm])
  | _ => none
 | .c (.vw nm off len) => match lookO obs nm with
  | some (.row _ _ 1 _ get) => some (len, fun j => get (j + off), [nm])
  | _ => none
 | _ => none
def alive (obs : Obs) : TV -> Bool
 | .c (.ptr nm _) => match lookO obs nm with | some _ => true | none => false
 | _ => false
def appSrc (obs : Obs) (size : Nat) (x : TV) : Option (Nat × (Nat -> List Dat) × List Nat) := match x with
 | .c (.d (.fro sz m g)) => if sz = size \/ m = 0 then some (m, g, []) else none
 | .c (.own nm) => (match lookO obs nm with | some (.row _ _ sz m g) => if sz = size then some (m, g, [nm]) else none | _ => none)
 | .c .nils => some (0, fun _ => [], [])
 | _ => none
def exec (P : Program) (env : Env) (obs : Obs) (o : Oper) (sup : Option Sup) : Option Eff :=
 let ev := evalO env
 match o.op with
 | .move x | .assign x => eff (ev x)
 | .pick c a b => match ev c with
  | .c (.d (.bool true)) => eff (ev a)
  | .c (.d (.bool false)) => eff (ev b)
  | _ => none
 | .alloc t => match o.dst, zeroT P t with
  | some d, some cs => match lookO obs d with
   | none => (bif Nat.beq t Tabs.bT then (match cs with | [.d .nilp, .nils] => some ⟨.c (.ptr d 0), [(d, some (.bld .empty))], [], none⟩ | _ => none) else some ⟨.c (.ptr d 0), [(d, some (.box cs))], [], none⟩)
   | some _ => none
  | _, _ => none
 | .box _ x => match o.dst, cellsOf (ev x) with
  | some d, some cs => match lookO obs d with | none => some ⟨.c (.ptr d 0), [(d, some (.box cs))], [], none⟩ | some _ => none
  | _, _ => none
 | .load t a => match P.underlying t with
  | none => none
  | some _ => match ev a with
   | .c (.ptr nm off) => match lookO obs nm with
    | some (.box cs) => match partOf P t cs off with | some v => eff v [nm] | none => none
    | _ => none
   | .c (.pf ds) => match partOf P t (ds.map .d) 0 with | some v => eff v | none => none
   | .c (.rp nm el off) => match lookO obs nm with
    | some (.row _ _ _ _ get) => match partOf P t ((get el).map .d) off with | some v => eff v [nm] | none => none
    | _ => none
   | _ => none
 | .store t a x => match ev a, cellsOf (ev x) with
  | .c (.ptr nm off), some new => match lookO obs nm with
   | some (.box cs) => if new.length = P.cellsOf t /\ off + new.length <= cs.length /\ (P.info? t).isSome = true then some ⟨.c .u, [(nm, some (.box (over off new cs)))], [nm], none⟩ else none
   | _ => none
  | .c (.rp nm el off), some new => match lookO obs nm, datsOf obs new, sup with
   | some (.row k e sz n get), some ds, some (.r n' get') =>
    match k with
    | .frz => none
    | k => if ds.length = P.cellsOf t /\ off + ds.length <= sz /\ (P.info? t).isSome = true then bif isWin obs new || hasSelf nm new then none else
     some ⟨.c .u, (nm, some (.row k e sz n' get')) :: rowsIn obs new, [nm], some (n' = n /\ el < n /\ Same n get' fun j => if j = el then overD off ds (get j) else get j)⟩ else none
   | _, _, _ => none
  | _, _ => none
 | .nilCheck x => match ev x with
  | .c (.ptr nm off) => match lookO obs nm with | some _ => eff (.c (.ptr nm off)) [nm] | none => none
  | _ => none
 | .fieldAddr t x f => match fieldOf P t f with
  | some fd => if P.cellsOf fd.type = 0 then none else match ev x with
   | .c (.ptr nm off) => match lookO obs nm with | some _ => eff (.c (.ptr nm (off + fd.offset))) [nm] | none => none
   | .c (.pf ds) => if fd.offset <= ds.length then eff (.c (.pf (ds.drop fd.offset))) else none
   | .c (.rp nm el off) => match lookO obs nm with | some (.row _ _ _ _ _) => eff (.c (.rp nm el (off + fd.offset))) [nm] | _ => none
   | _ => none
  | none => none
 | .field t x f => match fieldOf P t f, ev x with
  | some fd, .agg cs => match P.underlying fd.type with
   | none => none
   | some _ => match partOf P fd.type cs fd.offset with | some v => eff v | none => none
  | _, _ => none
 | .indexAddr t x i => match P.underlying t with
  | some (.array n e) => (match ev x, ev i with
   | .c (.pf ds), .c (.d (.int _ i)) => if P.cellsOf e = 1 /\ ds.length = n then effR (.c (.pf [ds.getD i.toNat .nilp])) (0 <= i /\ i < n) else none
   | _, _ => none)
  | _ => match elemT P t, ev x, ev i with
   | some e, .c (.d (.fro sz n get)), .c (.d (.int _ i)) => if sz = P.cellsOf e /\ sz ≠ 0 then effR (.c (.pf (get i.toNat))) (0 <= i /\ i < n) else none
   | some e, .c (.own nm), .c (.d (.int _ i)) => match lookO obs nm with
    | some (.row .frz _ sz n get) => if sz = P.cellsOf e /\ sz ≠ 0 then effR (.c (.pf (get i.toNat))) (0 <= i /\ i < n) [nm] else none
    | some (.row _ _ sz n _) => if sz = P.cellsOf e /\ sz ≠ 0 then effR (.c (.rp nm i.toNat 0)) (0 <= i /\ i < n) [nm] else none
    | _ => none
   | _, _, _ => none
 | .index t x i => match P.underlying t, ev x, ev i with
  | some .string, .c (.d (.str s)), .c (.d (.int _ i)) => effR (dInt .u8 (btI s i)) (0 <= i /\ i < s.size)
  | _, _, _ => none
 | .build t ps => match P.underlying t, zeroT P t with
  | some (.struct fs), some z => match (if fs.all (fun f => (P.info? f.type).isSome) = true then fillL P fs (ps.toList.map fun (i, x) => (i, ev x)) z else none) with
   | some cs => eff (.agg cs)
   | none => none
  | _, _ => none
 | .buildSlice t n ps => match o.dst, elemT P t, sup with
  | some d, some e, some (.r n' get') =>
   let l := ps.toList.map fun (i, x) => (i, ev x)
   match partsL (P.cellsOf e) obs 0 l, lookO obs d with
   | some els, none => if els.length = n /\ 0 < P.cellsOf e /\ n * P.cellsOf e <= 65536 /\ (zeroT P e).isSome = true then bif partWin obs l then none else
    some ⟨.c (.own d), (d, some (.row .own e (P.cellsOf e) n' get')) :: partRows obs l, [], some (n' = n /\ Same n get' fun j => els.getD j [])⟩ else none
   | _, _ => none
  | _, _, _ => none
 | .makeSlice t l c => match o.dst, elemT P t, ev l, ev c, sup with
  | some d, some e, .c (.d (.int _ l)), .c (.d (.int _ c)), some (.r n get) => match zeroD P e, lookO obs d, P.info? e with
   | some z, none, some i => if 0 < i.size /\ 0 < i.bytes then
    some ⟨.c (.own d), [(d, some (.row .own e i.size n get))], [], some (0 <= l /\ c = l /\ l = (n : Int) /\ n * i.bytes <= 281474976710656 /\ Same n get fun _ => z)⟩ else none
   | _, _, _ => none
  | _, _, _, _, _ => none
 | .slice t x lo hi mx => match P.underlying t, ev x, mx with
  | some .string, .c (.d (.str s)), none =>
   match lo.map ev, hi.map ev with
   | none, none => eff (dStr (s.extract 0 s.size))
   | some (.c (.d (.int _ l))), none => effR (dStr (s.extract l.toNat s.size)) (0 <= l /\ l <= s.size)
   | none, some (.c (.d (.int _ h))) => effR (dStr (s.extract 0 h.toNat)) (0 <= h /\ h <= s.size)
   | some (.c (.d (.int _ l))), some (.c (.d (.int _ h))) => effR (dStr (s.extract l.toNat h.toNat)) (0 <= l /\ l <= h /\ h <= s.size)
   | _, _ => none
  | some (.slice e), .c (.d (.fro sz n get)), none =>
   if sz = P.cellsOf e /\ (P.info? e).isSome = true then
   match lo.map ev, hi.map ev, sup with
   | some (.c (.d (.int _ l))), none, some (.r n' get') => effR (.c (.d (.fro sz n' get'))) (0 <= l /\ l <= n /\ n' = n - l.toNat /\ Same n' get' fun j => get (j + l.toNat))
   | none, some (.c (.d (.int _ h))), some (.r n' get') => effR (.c (.d (.fro sz n' get'))) (0 <= h /\ h <= n /\ n' = h.toNat /\ Same n' get' get)
   | some (.c (.d (.int _ l))), some (.c (.d (.int _ h))), some (.r n' get') => effR (.c (.d (.fro sz n' get'))) (0 <= l /\ l <= h /\ h <= n /\ n' = h.toNat - l.toNat /\ Same n' get' fun j => get (j + l.toNat))
   | _, _, _ => none
   else none
  | some (.slice e), .c (.own nm), none => match lookO obs nm with
   | some (.row k e' sz n get) => if sz = P.cellsOf e /\ (P.info? e).isSome = true then
    match lo.map ev, hi.map ev, sup with
    | some (.c (.d (.int _ l))), some (.c (.d (.int _ h))), none => effR (.c (.vw nm l.toNat (h.toNat - l.toNat))) (0 <= l /\ l < h /\ h <= n) [nm]
    | some (.c (.d (.int _ l))), none, none => effR (.c (.vw nm l.toNat (n - l.toNat))) (0 <= l /\ l < n) [nm]
    | none, some (.c (.d (.int _ h))), some (.r n' get') => match k, o.dst with
     | .own, some d => match lookO obs d with
      | none => some ⟨.c (.own d), [(d, some (.row .own e' sz n' get')), (nm, none)], [nm], some (0 <= h /\ h <= n /\ n' = h.toNat /\ Same n' get' get)⟩
      | some _ => none
     | _, _ => none
    | _, _, _ => none
    else none
   | _ => none
  | _, _, _ => none
 | .binOp op t x y _ => match P.underlying t, op, ev x, ev y, alive obs (ev x) with
  | some (.pointer _), .eql, .c (.ptr _ _), .c (.d .nilp), true => eff (dBool false)
  | some (.pointer _), .neq, .c (.ptr _ _), .c (.d .nilp), true => eff (dBool true)
  | _, _, vx, vy, _ => match bin P t op vx vy with
   | some (v, some q) => effR v q
   | some (v, none) => eff v
   | none => none
 | .unOp op _ x => match op, ev x with
  | .not, .c (.d (.bool b)) => eff (dBool (!b))
  | .neg, .c (.d (.int k n)) => eff (dInt k (wr k (0 - n)))
  | _, _ => none
 | .convert src dst x => match P.underlying src, P.underlying dst, ev x with
  | some _, some (.int k), .c (.d (.int _ n)) => eff (dInt k (wr k n))
  | some _, some .string, .c (.d (.str s)) => eff (dStr s)
  | some (.slice e), some .string, v => match P.underlying e, bytesIn obs v, sup with
   | some (.int .u8), some (n, get, rd), some (.v (.c (.d (.str s)))) => some ⟨dStr s, [], rd, some (s.size = n /\ Same n get fun j => [.int .u8 (btI s j)])⟩
   | _, _, _ => none
  | some .string, some (.slice e), .c (.d (.str s)) => match o.dst, P.underlying e, P.cellsOf e, sup with
   | some d, some (.int .u8), 1, some (.r n get) => (match lookO obs d with
    | none => some ⟨.c (.own d), [(d, some (.row .frz e 1 n get))], [], some (n = s.size /\ n <= lim /\ Same n get fun j => [.int .u8 (btI s j)])⟩
    | some _ => none)
   | _, _, _, _ => none
  | _, _, _ => none
 | .extract x i => match ev x with
  | .tup vs => match vs[i]? with | some v => eff v | none => none
  | _ => none
 | .call { callee := .builtin b, args, argTypes } => match b, args.toList.map ev, argTypes.toList with
  | .len, [.c (.d (.str s))], [t] => (match P.underlying t with | some .string => eff (dInt .i64 s.size) | _ => none)
  | .len, [.c (.d (.fro _ n _))], [t] => (match P.underlying t with | some (.slice _) => eff (dInt .i64 n) | _ => none)
  | .len, [.c (.own nm)], [t] => (match P.underlying t, lookO obs nm with | some (.slice _), some (.row _ _ _ n _) => eff (dInt .i64 n) [nm] | _, _ => none)
  | .len, [.c .nils], [t] => (match P.underlying t with | some (.slice _) => eff (dInt .i64 0) | _ => none)
  | .min, [.c (.d (.int k a)), .c (.d (.int k' b))], _ => if k = k' then eff (dInt k (mnI a b)) else none
  | .max, [.c (.d (.int k a)), .c (.d (.int k' b))], _ => if k = k' then eff (dInt k (mxI a b)) else none
  | .append, [s, x], [t, t'] => match o.dst, elemT P t, sup with
   | some d, some e, some (.r n' get') =>
    match P.info? e, lookO obs d with
    | some i, none =>
     if t = t' /\ 0 < i.size /\ 0 < i.bytes /\ (zeroT P e).isSome = true then
     match s, appSrc obs i.size x with
     | .c .nils, some (m, g, rd) => some ⟨.c (.own d), [(d, some (.row .own e i.size n' get'))], rd, some (n' = m /\ n' * i.bytes <= lim /\ Same m get' g)⟩
     | .c (.own nm), some (m, g, rd) => (match lookO obs nm with
      | some (.row .own e' sz len get) => if e' = e /\ sz = i.size /\ rd.all (fun x => !(x == nm)) then
       some ⟨.c (.own d), [(d, some (.row .own e i.size n' get')), (nm, none)], nm :: rd,
        some (n' = len + m /\ n' * i.bytes <= lim /\ Same len get' get /\ Same m (fun j => get' (len + j)) g)⟩ else none
      | _ => none)
     | _, _ => none
     else none
    | _, _ => none
   | _, _, _ => none
  | _, _, _ => none
 | .next it true => match ev it, sup with
  | .c (.ptr nm 0), some (.b t) => match lookO obs nm, t with
   | some (.iter s pos), true => some ⟨.tup [dBool true, dInt .i64 pos, dInt .i32 (Utf8.decode s pos).1], [(nm, some (.iter s (pos + (Utf8.decode s pos).2)))], [nm], some (pos < s.size)⟩
   | some (.iter s pos), false => some ⟨.tup [dBool false], [], [nm], some (¬ pos < s.size)⟩
   | _, _ => none
  | _, _ => none
 | .range t x => match o.dst, P.underlying t, ev x with
  | some d, some .string, .c (.d (.str s)) => (match lookO obs d with | none => some ⟨.c (.ptr d 0), [(d, some (.iter s 0))], [], none⟩ | some _ => none)
  | _, _, _ => none
 | _ => none
end Go.DI
namespace Go.DI
open Go Go.RowKit
variable [Tabs]

inductive DRel (w : World) (F : Nat -> Prop) : Dat -> Value -> Prop
 | bool (b : Bool) : DRel w F (.bool b) (.bool b)
 | int (k : IntKind) (n : Int) : DRel w F (.int k n) (.int k n)
 | str (s : ByteArray) : DRel w F (.str s) (.string s)
 | nilp : DRel w F .nilp (.pointer none)
 | fro0 (sz : Nat) (get : Nat -> List Dat) (a : Option Addr) (cap : Nat) : DRel w F (.fro sz 0 get) (.slice a 0 cap)
 | fro (sz n : Nat) (get : Nat -> List Dat) (A : Addr) (cap : Nat) (cell : Nat -> Nat -> Value) (hF : F A.block) (hc : n <= cap)
  (hl : ∀ j, j < n -> (get j).length = sz) (hcell : ∀ j i, j < n -> i < sz -> w.cell? (A.add (j * sz + i)) = some (cell j i))
  (hrel : ∀ j i d, j < n -> (get j)[i]? = some d -> DRel w F d (cell j i)) : DRel w F (.fro sz n get) (.slice (some A) n cap)

def TabOk (w : World) (F : Nat -> Prop) : Prop := ∀ g ds, tabOf g Tabs.tab = some ds -> F g /\ ∃ cell : Nat -> Value, ∀ i d, ds[i]? = some d -> w.cell? ((⟨g, 0, none⟩ : Addr).add i) = some (cell i) /\ DRel w F d (cell i)

section
variable (w : World) (F : Nat -> Prop) (β : Nat -> Option (Nat × Nat)) (γ : Nat -> Option Nat) (ob : Nat -> Option Ob)

def RowRef (nm off len : Nat) (k : RK) (sz n : Nat) (v : Value) : Prop :=
 (β nm = none /\ len = 0 /\ n = 0 /\ v = .slice none 0 0) \/
 ∃ b o cap, β nm = some (b, o) /\ v = .slice (some ⟨b, o + off * sz, none⟩) len cap /\ len <= cap /\ cap <= maxLen /\
  (k = .own -> ∀ cur e fr, w.heap[b]? = some (.cells cur e fr) -> (off + cap) * sz = cur.size)

def CRel : Cl -> Value -> Prop
 | .d d, v => DRel w F d v
 | .nils, v => v = .slice none 0 0
 | .own nm, v => v.oneCell' = true /\ match ob nm with
  | some (.row k _ sz n _) => RowRef w β nm 0 n k sz n v
  | _ => True
 | .vw nm off len, v => v.oneCell' = true /\ match ob nm with
  | some (.row k _ sz n _) => off + len <= n /\ RowRef w β nm off len k sz n v
  | _ => True
 | .ptr nm off, v => v.oneCell' = true /\ match ob nm with
  | some _ => ∃ b, β nm = some (b, 0) /\ v = .pointer (some ⟨b, off, none⟩)
  | none => True
 | .rp nm el off, v => v.oneCell' = true /\ match ob nm with
  | some (.row _ _ sz n _) => el < n /\ ∃ b o, β nm = some (b, o) /\ v = .pointer (some ⟨b, o + el * sz + off, none⟩)
  | _ => True
 | .pf cs, v => ∃ (A : Addr) (cell : Nat -> Value), v = .pointer (some A) /\ F A.block /\ ∀ i d, cs[i]? = some d -> w.cell? (A.add i) = some (cell i) /\ DRel w F d (cell i)
 | .z, v => v = undef
 | .u, _ => True

def CsRel : List Cl -> List Value -> Prop
 | [], [] => True
 | c :: cs, v :: vs => CRel w F β ob c v /\ CsRel cs vs
 | _, _ => False

mutual
def TRel : TV -> Value -> Prop
 | .c c, v => CRel w F β ob c v
 | .agg cs, v => ∃ vs, v = .agg vs /\ CsRel w F β ob cs vs.toList /\ ∀ u ∈ vs.toList, u.oneCell' = true
 | .tup ts, v => ∃ vs, v = .tuple vs /\ TsRel ts vs.toList
def TsRel : List TV -> List Value -> Prop
 | [], [] => True
 | t :: ts, v :: vs => TRel t v /\ TsRel ts vs
 | _, _ => False
end

def Live (nm : Nat) : Prop := ob nm ≠ none

def Owns (nm b : Nat) : Prop := match ob nm with
 | none => False
 | some (.row .frz _ _ _ _) => False
 | some (.bld _) => β nm = some (b, 0) \/ γ nm = some b
 | some _ => ∃ o, β nm = some (b, o)

def RowIn (o sz n : Nat) (get : Nat -> List Dat) (cur : Array Value) : Prop :=
 o + n * sz <= cur.size /\ ∀ j, j < n -> (get j).length = sz /\ ∀ i d, (get j)[i]? = some d -> ∃ u, cur[o + j * sz + i]? = some u /\ DRel w F d u /\ u.oneCell' = true

def BldIn (b : Nat) (g : Option Nat) (s : ByteArray) : Prop :=
 ∃ cells el p n cap, w.heap[b]? = some (.cells cells el (0, 0)) /\ cells = #[p, .slice ((g.map fun x => ⟨x, 0, none⟩)) n cap] /\ n = s.size /\
  (el = Tabs.bT /\ (p = .pointer none \/ p = .pointer (some ⟨b, 0, none⟩))) /\ ((g = none /\ n = 0 /\ cap = 0) \/ (∃ x cur e lo hi, g = some x /\ x ≠ b /\ w.heap[x]? = some (.cells cur e (lo, hi)) /\
   n <= cap /\ cap <= maxLen /\ cur.size = cap /\ (e = Tabs.bE /\ hi <= n) /\ ∀ i, i < n -> cur[i]? = some (.int .u8 (btI s i))))

def ObRel (nm : Nat) : Ob -> Prop
 | .box cs => ∃ b cells el, β nm = some (b, 0) /\ w.heap[b]? = some (.cells cells el (0, 0)) /\ CsRel w F β ob cs cells.toList /\ ∀ u ∈ cells.toList, u.oneCell' = true
 | .row k e sz n get => (n = 0 /\ β nm = none) \/ ∃ b o cur e' fr, β nm = some (b, o) /\ w.heap[b]? = some (.cells cur e' fr) /\ RowIn w F o sz n get cur /\
  (k = .own -> o = 0 /\ e' = e /\ cur.size % sz = 0) /\ (k ≠ .frz -> fr = (0, 0)) /\ (k = .frz -> F b)
 | .iter s pos => ∃ b, β nm = some (b, 0) /\ w.heap[b]? = some (.stringIter s pos)
 | .bld s => ∃ b, β nm = some (b, 0) /\ BldIn w b (γ nm) s

structure Heap : Prop where
 flt : ∀ b, F b -> b < w.heap.size
 apart : ∀ nm b, Owns β γ ob nm b -> ¬ F b /\ b < w.heap.size
 excl : ∀ nm nm' b, Owns β γ ob nm b -> Owns β γ ob nm' b -> nm = nm'
 obs : ∀ nm o, ob nm = some o -> ObRel w F β γ ob nm o
end

def Stays : Ob -> Ob -> Prop
 | .box _, .box _ => True
 | .row .win _ sz n _, .row .win _ sz' n' _ => sz' = sz /\ n' = n
 | .row .frz _ sz n _, .row .frz _ sz' n' _ => sz' = sz /\ n' = n
 | .iter _ _, .iter _ _ => True
 | .bld _, .bld _ => True
 | _, _ => False
def NotOwn (o : Ob) : Prop := ∀ e sz n get, o ≠ .row .own e sz n get
def Given (β : Nat -> Option (Nat × Nat)) (ob : Nat -> Option Ob) (b : Nat) : Prop := ∃ nm e sz n get o, ob nm = some (.row .own e sz n get) /\ β nm = some (b, o)

structure Onto (w0 : World) (F0 : Nat -> Prop) (β0 : Nat -> Option (Nat × Nat)) (γ0 : Nat -> Option Nat) (ob0 : Nat -> Option Ob)
 (w : World) (F : Nat -> Prop) (β : Nat -> Option (Nat × Nat)) (γ : Nat -> Option Nat) (ob : Nat -> Option Ob) : Prop where
 os : w.os = w0.os
 tape : w.tape = w0.tape
 output : w.output = w0.output
 size : w0.heap.size <= w.heap.size
 keep : ∀ b, b < w0.heap.size -> (∀ nm, ¬ Owns β0 γ0 ob0 nm b) -> w.heap[b]? = w0.heap[b]?
 more : ∀ b, F0 b -> F b
 new : ∀ b, F b -> F0 b \/ w0.heap.size <= b \/ Given β0 ob0 b
 from_ : ∀ nm b, Owns β γ ob nm b -> Owns β0 γ0 ob0 nm b \/ w0.heap.size <= b \/ Given β0 ob0 b
 own : ∀ nm b o e sz n get, ob nm = some (.row .own e sz n get) -> β nm = some (b, o) -> w0.heap.size <= b \/ Given β0 ob0 b
 stay : ∀ nm o0, ob0 nm = some o0 -> NotOwn o0 -> ∃ o, ob nm = some o /\ Stays o0 o /\ β nm = β0 nm
 shape : ∀ b, b < w0.heap.size -> ∀ cur e fr, w.heap[b]? = some (.cells cur e fr) -> ∃ cur0 fr0, w0.heap[b]? = some (.cells cur0 e fr0) /\ cur0.size = cur.size
 out : ∀ nm e sz n get b o, ob0 nm = some (.row .win e sz n get) -> β0 nm = some (b, o) -> ∀ cur0 e0 fr0 cur e1 fr, w0.heap[b]? = some (.cells cur0 e0 fr0) -> w.heap[b]? = some (.cells cur e1 fr) ->
  ∀ i, (i < o \/ o + n * sz <= i) -> cur[i]? = cur0[i]?

def newName : Nat := 1000000

def Can (P : Program) (f : FuncId) : Prop := ∃ fn c, P.funcs[f]? = some fn /\ (fn.name == "runtime.NumGoroutine") = false /\ fn.body = some c
def Does (P : Program) (f : FuncId) (args : List TV) (lent : Obs) (r : TV) (new : Option Ob) (back : Obs) : Prop :=
 Can P f /\ ∀ (w : World) (F : Nat -> Prop) (β : Nat -> Option (Nat × Nat)) (γ : Nat -> Option Nat) (cargs : Array Value),
  Heap w F β γ (lookO lent) -> TabOk w F -> TsRel w F β (lookO lent) args cargs.toList ->
  Calls P f cargs w fun e w' => ∃ v F' β' γ', e = .returned v /\
   Heap w' F' β' γ' (lookO ((newName, new) :: back)) /\ Onto w F β γ (lookO lent) w' F' β' γ' (lookO ((newName, new) :: back)) /\
   TRel w' F' β' (lookO ((newName, new) :: back)) r v

structure Log where
 idx : Nat
 dst : Option Nat
 ins : List Nat
 rd : List Nat
 wr : List Nat

def tmpsOf : List Operand -> List Nat
 | [] => []
 | .tmp t :: r => t :: tmpsOf r
 | _ :: r => tmpsOf r
def refsC : List Cl -> List Nat
 | [] => []
 | .own nm :: r => nm :: refsC r
 | .vw nm _ _ :: r => nm :: refsC r
 | .ptr nm _ :: r => nm :: refsC r
 | .rp nm _ _ :: r => nm :: refsC r
 | _ :: r => refsC r
mutual
def refsT : TV -> List Nat
 | .c c => refsC [c]
 | .agg cs => refsC cs
 | .tup ts => refsTs ts
def refsTs : List TV -> List Nat
 | [] => []
 | t :: ts => refsT t ++ refsTs ts
end
def refsO : Obs -> List Nat
 | [] => []
 | (_, some (.box cs)) :: r => refsC cs ++ refsO r
 | _ :: r => refsO r
def refsE : Env -> List Nat
 | [] => []
 | (_, v) :: r => refsT v ++ refsE r
def namesO : Obs -> List Nat
 | [] => []
 | (n, _) :: r => n :: namesO r
def hasN (n : Nat) : List Nat -> Bool
 | [] => false
 | m :: r => bif Nat.beq m n then true else hasN n r
def meets : List Nat -> List Nat -> Bool
 | [], _ => false
 | n :: r, l => bif hasN n l then true else meets r l
def hasD (d : Option Nat) (l : List Nat) : Bool := match d with | some d => hasN d l | none => false
def sameD (a b : Option Nat) : Bool := match a, b with | some a, some b => Nat.beq a b | _, _ => false
def clash (a b : Log) : Bool := hasD a.dst b.ins || hasD b.dst a.ins || sameD a.dst b.dst || meets a.wr b.rd || meets a.wr b.wr || meets b.wr a.rd
def inLine (bef : Array Nat) : List Log -> Bool
 | [] => true
 | b :: r => r.all (fun a => !clash a b || (bef.getD b.idx 0).testBit a.idx) && inLine bef r

def lateOk (ops : Array Oper) : Bool := ops.toList.zipIdx.all fun (o, i) => o.after.toList.all fun e => !Region.binds .any e || Nat.blt e.on i
def takeSup (pos : Nat) : List (Nat × Sup) -> Option Sup × List (Nat × Sup)
 | (p, s) :: r => bif Nat.beq p pos then (some s, r) else (none, (p, s) :: r)
 | [] => (none, [])

def dataOnly : List Cl -> Bool
 | [] => true
 | .d _ :: r => dataOnly r
 | .nils :: r => dataOnly r
 | .u :: r => dataOnly r
 | _ => false

def lookA (i : Nat) : List (Nat × TV) -> Option TV
 | [] => none
 | (j, g) :: r => bif Nat.beq j i then some g else lookA i r
def emptyC (c tgt : Cl) : Cl := match c, tgt with
 | .nils, .d (.fro sz n get) => bif Nat.beq n 0 then .d (.fro sz n get) else .nils
 | .d (.fro sz n get), .d (.fro sz' n' get') => bif Nat.beq n 0 then (bif Nat.beq n' 0 then .d (.fro sz' n' get') else .d (.fro sz n get)) else .d (.fro sz n get)
 | c, _ => c
def emptyCs : List Cl -> List Cl -> List Cl
 | c :: cs, t :: ts => emptyC c t :: emptyCs cs ts
 | cs, _ => cs
def emptyT (v : TV) (x : Option TV) : TV := match v, x with
 | .c c, some (.c t) => .c (emptyC c t)
 | .agg cs, some (.agg ts) => .agg (emptyCs cs ts)
 | v, _ => v
def keepCs : List Cl -> List Cl -> List Cl -> List Cl
 | .nils :: cs, .nils :: ts, _ :: ds => .nils :: keepCs cs ts ds
 | _ :: cs, _ :: ts, d :: ds => d :: keepCs cs ts ds
 | _, _, ds => ds
def keepT (v : TV) (x : Option TV) (a : TV) : TV := match v, x, a with
 | .agg cs, some (.agg ts), .agg ds => .agg (keepCs cs ts ds)
 | _, _, a => a
def lookF (i : Nat) : List (Nat × Nat × (Nat -> List Dat)) -> Option (Nat × (Nat -> List Dat))
 | [] => none
 | (j, g) :: r => bif Nat.beq j i then some g else lookF i r
def prep (obs : Obs) (exp : List (Nat × TV)) (lend : List Nat) (back : Obs) (full : List (Nat × Nat × (Nat -> List Dat))) : Nat -> List TV -> Option (List TV × Obs × Obs × List Nat)
 | i, [] => bif Nat.blt i newName then some ([], [], [], []) else none
 | i, a :: r => match prep obs exp lend back full (i + 1) r with
  | none => none
  | some (as, lent, upd, nms) => bif hasN i lend then
   match a with
   | .c (.ptr nm 0) => bif hasN nm nms then none else match lookO obs nm with
    | some (.box cs) => bif dataOnly cs then some (.c (.ptr i 0) :: as, (i, some (.box cs)) :: lent, upd, nm :: nms) else none
    | some (.bld s) => some (.c (.ptr i 0) :: as, (i, some (.bld s)) :: lent, upd, nm :: nms)
    | _ => none
   | .c (.own nm) => bif hasN nm nms then none else match lookO obs nm with
    | some (.row .own e sz n get) => (match lookO back i with
     | some _ => some (.c (.own i) :: as, (i, some (.row .win e sz n get)) :: lent, upd, nm :: nms)
     | none => some (.c (.own i) :: as, (i, some (.row .own e sz n get)) :: lent, upd, nm :: nms))
    | some (.row .win e sz n get) => some (.c (.own i) :: as, (i, some (.row .win e sz n get)) :: lent, upd, nm :: nms)
    | _ => none
   | .c (.vw nm off len) => bif hasN nm nms then none else match lookO obs nm with
    | some (.row .own e sz _ _) => (match lookF (i + newName) full with
     | some (m, gl) => some (.c (.own i) :: as, (i, some (.row .win e sz m gl)) :: lent, upd, nm :: nms)
     | none => none)
    | some (.row .win e sz _ _) => (match lookF (i + newName) full with
     | some (m, gl) => some (.c (.own i) :: as, (i, some (.row .win e sz m gl)) :: lent, upd, nm :: nms)
     | none => none)
    | _ => none
   | _ => none
   else match frz obs (emptyT a (lookA i exp)) with
    | some (a', u) => some (keepT a (lookA i exp) a' :: as, lent, u ++ upd, nms)
    | none => none

def takeBack (obs back : Obs) (full : List (Nat × Nat × (Nat -> List Dat))) (lend : List Nat) : Nat -> List TV -> Option (Obs × List Prop)
 | _, [] => some ([], [])
 | i, a :: r => match takeBack obs back full lend (i + 1) r with
  | none => none
  | some (u, ps) => bif hasN i lend then
   match a with
   | .c (.ptr nm _) => match lookO obs nm, lookO back i with
    | some (.box cs), some (.box cs') => bif dataOnly cs' then (if cs'.length = cs.length then some ((nm, some (.box cs')) :: u, ps) else none) else none
    | some (.bld _), some (.bld s') => some ((nm, some (.bld s')) :: u, ps)
    | _, _ => none
   | .c (.own nm) => match lookO obs nm, lookO back i with
    | some (.row k e sz n _), some (.row .win _ sz' len' get') =>
     some ((nm, some (.row k e sz len' get')) :: u, (sz' = sz /\ len' = n) :: ps)
    | some (.row .own _ _ _ _), none => some ((nm, none) :: u, ps)
    | _, _ => none
   | .c (.vw nm off len) => match lookO obs nm, lookO back i, lookF i full, lookF (i + newName) full with
    | some (.row k e sz n get), some (.row .win _ sz' len' get'), some (n', g), some (m, gl) =>
     some ((nm, some (.row k e sz n' g)) :: u, (sz' = sz /\ len' = len /\ n' = n /\ Same n g fun j => if off <= j /\ j < off + len then get' (j - off) else get j) :: (m = len /\ Same m gl fun j => get (j + off)) :: ps)
    | _, _, _, _ => none
   | _ => none
   else some (u, ps)

def conj (ps : List Prop) (q : Prop) : Prop := match ps with
 | [] => q
 | p :: ps => p /\ conj ps q

def reqd (o : Option Prop) (q : Prop) : Prop := match o with
 | none => q
 | some p => p /\ q

def dstOk (nt : Nat) (d : Option Nat) : Bool := match d with | none => true | some d => Nat.blt d nt
def freshOk (d : Option Nat) (upd : Obs) (env : Env) (obs : Obs) : Bool := match d with
 | none => true
 | some d => bif hasN d (namesO upd) then (match lookO obs d with
  | none => !hasN d (refsE env) && !hasN d (refsO obs)
  | some _ => true) else true

def guardOf (ops : Array Oper) (env : Env) (o : Oper) : Option Bool := match o.guard with
 | none => some true
 | some (j, want) => match ops[j]? with
  | some oj => match oj.dst with
   | some t => match look env t with
    | .c (.d (.bool b)) => some (b == want)
    | .c .z => some false
    | _ => none
   | none => none
  | none => none
def guardIns (ops : Array Oper) (o : Oper) : List Nat := match o.guard with
 | none => []
 | some (j, _) => match ops[j]? with
  | some oj => match oj.dst with | some t => [t] | none => []
  | none => []

def told (s : Option Sup) (v : TV) (k : TV -> Prop) : Prop := match s with
 | some (.b t) => match v with
  | .c (.d (.bool b)) => b = t /\ k (.c (.d (.bool t)))
  | v => k v
 | some (.v x) => v = x /\ k x
 | _ => k v

def noRefs (v : TV) : Bool := match refsT v with | [] => true | _ :: _ => false
def isMove : Op -> Bool
 | .move _ => true
 | _ => false
def newOk : Ob -> Bool
 | .box cs => dataOnly cs
 | _ => true
def runOps (P : Program) (nt : Nat) (ops : Array Oper) (K : Env -> Obs -> List Log -> List (Nat × Sup) -> Nat -> Prop) :
 List (Nat × Oper) -> Env -> Obs -> List Log -> List (Nat × Sup) -> Nat -> Prop
 | [], env, obs, log, sups, pos => K env obs log sups pos
 | (i, o) :: r, env, obs, log, sups, pos =>
  bif dstOk nt o.dst then
  match guardOf ops env o with
  | none => False
  | some false => runOps P nt ops K r (put o.dst (.c .z) env) obs (⟨i, o.dst, guardIns ops o, [], []⟩ :: log) sups (pos + 1)
  | some true =>
   match takeSup pos sups with
   | (s, sups) =>
    match o.op with
    | .call { callee := .value (.func f), args, .. } => match s with
     | some (.call exp lend res new back full) =>
      match prep obs exp lend back full 0 (args.toList.map (evalO env)) with
      | some (as, lent, upd, nms) =>
       match takeBack obs back full lend 0 (args.toList.map (evalO env)) with
       | some (u, ps) =>
        bif meets nms (namesO upd) then False else
        (match new, o.dst, res with
        | none, _, _ => bif noRefs res then
         Does P f as lent res none back /\ conj ps
          (runOps P nt ops K r (put o.dst res env) (u ++ upd ++ obs)
           (⟨i, o.dst, guardIns ops o ++ tmpsOf o.op.operands.toList, refsT res ++ refsO u ++ refsTs (args.toList.map (evalO env)), namesO (u ++ upd)⟩ :: log) sups (pos + 1)) else False
        | some ob, some d, .c (.own _) =>
         bif newOk ob && freshOk (some d) [(d, new)] env obs then (match lookO obs d with
         | none => Does P f as lent (.c (.own newName)) (some ob) back /\ conj ps
          (runOps P nt ops K r (put o.dst (.c (.own d)) env) ((d, some ob) :: (u ++ upd ++ obs))
           (⟨i, o.dst, guardIns ops o ++ tmpsOf o.op.operands.toList, d :: (refsO u ++ refsTs (args.toList.map (evalO env))), d :: namesO (u ++ upd)⟩ :: log) sups (pos + 1))
         | some _ => False) else False
        | some ob, some d, .tup (.c (.own _) :: rs) =>
         bif newOk ob && freshOk (some d) [(d, new)] env obs && noRefs (.tup rs) then (match lookO obs d with
         | none => Does P f as lent (.tup (.c (.own newName) :: rs)) (some ob) back /\ conj ps
          (runOps P nt ops K r (put o.dst (.tup (.c (.own d) :: rs)) env) ((d, some ob) :: (u ++ upd ++ obs))
           (⟨i, o.dst, guardIns ops o ++ tmpsOf o.op.operands.toList, d :: (refsO u ++ refsTs (args.toList.map (evalO env))), d :: namesO (u ++ upd)⟩ :: log) sups (pos + 1))
         | some _ => False) else False
        | some ob, some d, .c (.ptr _ 0) =>
         bif newOk ob && freshOk (some d) [(d, new)] env obs then (match lookO obs d with
         | none => Does P f as lent (.c (.ptr newName 0)) (some ob) back /\ conj ps
          (runOps P nt ops K r (put o.dst (.c (.ptr d 0)) env) ((d, some ob) :: (u ++ upd ++ obs))
           (⟨i, o.dst, guardIns ops o ++ tmpsOf o.op.operands.toList, d :: (refsO u ++ refsTs (args.toList.map (evalO env))), d :: namesO (u ++ upd)⟩ :: log) sups (pos + 1))
         | some _ => False) else False
        | _, _, _ => False)
       | none => False
      | none => False
     | _ => False
    | _ => match exec P env obs o s with
     | none => False
     | some e => bif freshOk o.dst e.upd env obs then reqd e.req (told s e.val fun v =>
      runOps P nt ops K r (put o.dst v env) (e.upd ++ obs)
       (⟨i, o.dst, guardIns ops o ++ (tmpsOf o.op.operands.toList ++ (bif isMove o.op then refsT v else [])), (bif isMove o.op then [] else refsTs (o.op.operands.toList.map (evalO env)) ++ refsT v) ++ refsO e.upd, namesO e.upd⟩ :: log) sups (pos + 1)) else False
  else False

def opsOf (ops : Array Oper) : List (Nat × Oper) := ops.toList.zipIdx.map fun (o, i) => (i, o)

def isStop (st : Option Nat) (id : Nat) : Bool := match st with | some n => Nat.beq n id | none => false
def runP (P : Program) (nt : Nat) (st : Option Nat) (tgt : List Item -> Env -> Obs -> Prop) : Nat -> Bool -> List Item -> Env -> Obs -> List (Nat × Sup) -> Nat -> Prop
 | 0, _, _, _, _, _, _ => False
 | _ + 1, _, [], env, obs, _, _ => tgt [] env obs
 | n + 1, go, .code c :: k, env, obs, sups, pos => match c with
  | .skip => runP P nt st tgt n go k env obs sups pos
  | .label _ => runP P nt st tgt n go k env obs sups pos
  | .seq a b => runP P nt st tgt n go (.code a :: .code b :: k) env obs sups pos
  | .cond c a b => match evalO env c with
   | .c (.d (.bool true)) => runP P nt st tgt n go (.code a :: k) env obs sups pos
   | .c (.d (.bool false)) => runP P nt st tgt n go (.code b :: k) env obs sups pos
   | _ => False
  | .block id b => runP P nt st tgt n go (.code b :: .inBlock id :: k) env obs sups pos
  | .scope b => runP P nt st tgt n go (.code b :: .inScope b :: k) env obs sups pos
  | .loop b => runP P nt st tgt n go (.code b :: .inLoop b :: k) env obs sups pos
  | .exit id => match exitTo id k with
   | some k' => runP P nt st tgt n go k' env obs sups pos
   | none => False
  | .ret => tgt (.code .ret :: k) env obs
  | .region id ops draw => bif go && isStop st id then tgt (.code (.region id ops draw) :: k) env obs else
   runOps P nt ops (fun env obs log sups pos =>
    bif draw then (bif inLine (Region.before ops) log && lateOk ops && P.follows .mixedOrders then runP P nt st tgt n true k env obs sups pos else False) else runP P nt st tgt n true k env obs sups pos) (opsOf ops) env obs [] sups pos
  | _ => False
 | n + 1, go, .inBlock _ :: k, env, obs, sups, pos => runP P nt st tgt n go k env obs sups pos
 | n + 1, go, .inScope _ :: k, env, obs, sups, pos => runP P nt st tgt n go k env obs sups pos
 | n + 1, go, .inLoop b :: k, env, obs, sups, pos => runP P nt st tgt n go (.code b :: .inLoop b :: k) env obs sups pos
 | _, _, _, _, _, _, _ => False

def backN (t : Nat) : List (Nat × Nat) -> Option Nat
 | [] => none
 | (a, b) :: r => bif Nat.beq b t then some a else backN t r
def fitC (obs : Obs) (ren : List (Nat × Nat)) (c tgt : Cl) : Cl := match tgt with
 | .own t => match c with
  | .own nm => (match backN t ren with | some m => bif Nat.beq m nm then .own t else .u | none => .u)
  | .nils => (match backN t ren with | none => .own t | some _ => .u)
  | _ => .u
 | .d (.fro sz n get) => match c with
  | .nils => bif Nat.beq n 0 then .d (.fro sz n get) else .u
  | .d v => .d v
  | c => match datOf obs c with
   | some v => bif isWin obs [c] then .u else .d v
   | none => .u
 | .u => .u
 | .ptr t _ => match c with
  | .ptr nm off' => (match backN t ren with | some m => bif Nat.beq m nm then .ptr t off' else .u | none => .u)
  | _ => .u
 | _ => match c with
  | .own _ => .u
  | .vw _ _ _ => .u
  | .ptr _ _ => .u
  | .rp _ _ _ => .u
  | c => c
def fitCs (obs : Obs) (ren : List (Nat × Nat)) : List Cl -> List Cl -> List Cl
 | c :: cs, t :: ts => fitC obs ren c t :: fitCs obs ren cs ts
 | cs, _ => cs
mutual
def fitT (obs : Obs) (ren : List (Nat × Nat)) (v : TV) : TV -> TV
 | .c t => match v with | .c c => .c (fitC obs ren c t) | _ => .c .u
 | .agg ts => match v with | .agg cs => .agg (fitCs obs ren cs ts) | _ => .c .u
 | .tup ts => match v with | .tup vs => .tup (fitTs obs ren vs ts) | _ => .c .u
def fitTs (obs : Obs) (ren : List (Nat × Nat)) (vs : List TV) : List TV -> List TV
 | t :: ts => match vs with | v :: vs => fitT obs ren v t :: fitTs obs ren vs ts | [] => []
 | [] => vs
end
def renC : Cl -> Cl -> List (Nat × Nat)
 | .own nm, .own t => [(nm, t)]
 | .ptr nm _, .ptr t _ => [(nm, t)]
 | _, _ => []
def renCs : List Cl -> List Cl -> List (Nat × Nat)
 | c :: cs, t :: ts => renC c t ++ renCs cs ts
 | _, _ => []
mutual
def renT (v : TV) : TV -> List (Nat × Nat)
 | .c t => match v with | .c c => renC c t | _ => []
 | .agg ts => match v with | .agg cs => renCs cs ts | _ => []
 | .tup ts => match v with | .tup vs => renTs vs ts | _ => []
def renTs (vs : List TV) : List TV -> List (Nat × Nat)
 | t :: ts => match vs with | v :: vs => renT v t ++ renTs vs ts | [] => []
 | [] => []
end
def renE (env : Env) : Env -> List (Nat × Nat)
 | [] => []
 | (t, v) :: r => renT (look env t) v ++ renE env r
def renO (obs : Obs) (ren : List (Nat × Nat)) : Obs -> List (Nat × Nat)
 | [] => []
 | (t, some (.box ts)) :: r => (match backN t ren with
  | some nm => (match lookO obs nm with | some (.box cs) => renCs cs ts | _ => [])
  | none => []) ++ renO obs ren r
 | _ :: r => renO obs ren r
def frzC : Cl -> Cl -> List Cl
 | .own nm, .d _ => [.own nm]
 | _, _ => []
def frzCs : List Cl -> List Cl -> List Cl
 | c :: cs, t :: ts => frzC c t ++ frzCs cs ts
 | _, _ => []
mutual
def frzT (v : TV) : TV -> List Cl
 | .c t => match v with | .c c => frzC c t | _ => []
 | .agg ts => match v with | .agg cs => frzCs cs ts | _ => []
 | .tup ts => match v with | .tup vs => frzTs vs ts | _ => []
def frzTs (vs : List TV) : List TV -> List Cl
 | t :: ts => match vs with | v :: vs => frzT v t ++ frzTs vs ts | [] => []
 | [] => []
end
def frzE (env : Env) : Env -> List Cl
 | [] => []
 | (t, v) :: r => frzT (look env t) v ++ frzE env r
def frzO (obs : Obs) (ren : List (Nat × Nat)) : Obs -> List Cl
 | [] => []
 | (t, some (.box ts)) :: r => (match backN t ren with
  | some nm => (match lookO obs nm with | some (.box cs) => frzCs cs ts | _ => [])
  | none => []) ++ frzO obs ren r
 | _ :: r => frzO obs ren r
def fitE (obs : Obs) (ren : List (Nat × Nat)) (env : Env) : Env -> Env
 | [] => []
 | (t, v) :: r => (t, fitT obs ren (look env t) v) :: fitE obs ren env r
def fitO1 (obs : Obs) (ren : List (Nat × Nat)) (t : Nat) (o : Option Ob) : Option Ob := match o with
 | some (.row k e sz n get) => (match backN t ren with
  | some nm => lookO obs nm
  | none => match k with | .own => bif Nat.beq n 0 then some (.row .own e sz n get) else none | _ => none)
 | some (.box ts) => (match backN t ren with
  | some nm => (match lookO obs nm with | some (.box cs) => some (.box (fitCs obs ren cs ts)) | o => o)
  | none => none)
 | _ => (match backN t ren with
  | some nm => lookO obs nm
  | none => none)
def fitO (obs : Obs) (ren : List (Nat × Nat)) : Obs -> Obs
 | [] => []
 | (t, o) :: r => (t, fitO1 obs ren t o) :: fitO obs ren r
def firsts : List (Nat × Nat) -> List Nat
 | [] => []
 | (a, _) :: r => a :: firsts r
def seconds : List (Nat × Nat) -> List Nat
 | [] => []
 | (_, b) :: r => b :: seconds r
def apart : List Nat -> Bool
 | [] => true
 | n :: r => !hasN n r && apart r
def keysE : Env -> List Nat
 | [] => []
 | (t, _) :: r => t :: keysE r
def heldN : Obs -> List Nat
 | [] => []
 | (_, some (.row .own _ _ _ _)) :: r => heldN r
 | (n, _) :: r => n :: heldN r
def dedup : List (Nat × Nat) -> List (Nat × Nat)
 | [] => []
 | (a, b) :: r => (a, b) :: (dedup r).filter fun x => !(Nat.beq x.1 a && Nat.beq x.2 b)
def ren1 (env : Env) (stay : List Nat) (E : Env) : List (Nat × Nat) := dedup (renE env E ++ stay.map fun n => (n, n))
def renAll (env : Env) (obs : Obs) (stay : List Nat) (E : Env) (O : Obs) : List (Nat × Nat) := dedup (ren1 env stay E ++ renO obs (ren1 env stay E) O)
def allIn : List Nat -> List Nat -> Bool
 | [], _ => true
 | n :: r, l => bif hasN n l then allIn r l else false
def endOk (env : Env) (obs : Obs) (stay : List Nat) (E : Env) (O : Obs) : Bool :=
 let ren := renAll env obs stay E O
 apart (firsts ren) && apart (seconds ren) && apart (namesO O) && apart (keysE E) && allIn stay (namesO O) && !meets (refsC (frzE env E ++ frzO obs ren O)) (firsts ren)

def resOf (P : Program) (env : Env) (obs : Obs) : List ResultVar -> Option (List TV)
 | [] => some []
 | .tmp t :: r => match resOf P env obs r with | some vs => some (look env t :: vs) | none => none
 | .cell a t :: r => match look env a, resOf P env obs r with
  | .c (.ptr nm off), some vs => match lookO obs nm with
   | some (.box cs) => match partOf P t cs off, P.underlying t with
    | some v, some _ => some (v :: vs)
    | _, _ => none
   | _ => none
  | _, _ => none
def resT (l : List TV) : TV := match l with | [v] => v | l => .tup l

def Til (P : Program) (f : FuncId) (lent : Obs) (r : TV) (new : Option Ob) (back : Obs) (k : List Item) (env : Env) (obs : Obs) : Prop :=
 ∀ (w0 : World) (F0 : Nat -> Prop) (β0 : Nat -> Option (Nat × Nat)) (γ0 : Nat -> Option Nat) (w : World) (F : Nat -> Prop) (β : Nat -> Option (Nat × Nat)) (γ : Nat -> Option Nat) (a : Act) (b : Frame) (fn : Func),
  P.funcs[f]? = some fn -> b.fn = f -> b.kind = .normal -> a.defers = [] -> a.tmps.size = fn.ntmps ->
  Heap w F β γ (lookO obs) -> Onto w0 F0 β0 γ0 (lookO lent) w F β γ (lookO obs) -> TabOk w F -> (∀ t, TRel w F β (lookO obs) (look env t) (a.tmps.getD t undef)) ->
  ∀ cs, ∃ e w' fr, (∃ v F' β' γ', e = Ending.returned v /\
   Heap w' F' β' γ' (lookO ((newName, new) :: back)) /\ Onto w0 F0 β0 γ0 (lookO lent) w' F' β' γ' (lookO ((newName, new) :: back)) /\
   TRel w' F' β' (lookO ((newName, new) :: back)) r v) /\ Comes P (lone (b.at a k) cs w) (lone fr cs w') e /\ fr.fn = f /\ fr.leaving P w' e

def midT (stay : List Nat) (K : List Item) (E : Env) (O : Obs) (k : List Item) (env : Env) (obs : Obs) : Prop :=
 k = K /\ endOk env obs stay E O = true /\ fitE obs (renAll env obs stay E O) env E = E /\ fitO obs (renAll env obs stay E O) O = O
def midT' (K : List Item) (E : Env) (O : Obs) : Prop := K = K /\ true = true /\ E = E /\ O = O
def withNew (new : Option Ob) (back : Obs) : Obs := (newName, new) :: back
def retT (P : Program) (fn : Func) (r : TV) (stay : List Nat) (O : Obs) (k : List Item) (env : Env) (obs : Obs) : Prop :=
 match resOf P env obs fn.results.toList with
 | none => False
 | some vs => endOk [(0, resT vs)] obs stay [(0, r)] O = true /\ fitT obs (renAll [(0, resT vs)] obs stay [(0, r)] O) (resT vs) r = r /\ fitO obs (renAll [(0, resT vs)] obs stay [(0, r)] O) O = O
def retT' (r : TV) (O : Obs) : Prop := true = true /\ r = r /\ O = O

def find (n : Nat) : Code -> List Item -> Option (List Item)
 | .region id ops d, k => bif Nat.beq id n then some (.code (.region id ops d) :: k) else none
 | .seq a b, k => match find n a (.code b :: k) with | some x => some x | none => find n b k
 | .cond _ a b, k => match find n a k with | some x => some x | none => find n b k
 | .block i b, k => find n b (.inBlock i :: k)
 | .loop b, k => find n b (.inLoop b :: k)
 | .scope b, k => find n b (.inScope b :: k)
 | _, _ => none
def at_ (fn : Func) (n : Nat) : List Item := match fn.body with
 | some c => (find n c []).getD []
 | none => []

theorem o {p q : Prop} (hp : p) (hq : q) : p /\ q := ⟨hp, hq⟩
def envAt : Nat -> List TV -> Env
 | _, [] => []
 | i, v :: r => (i, v) :: envAt (i + 1) r
end Go.DI
namespace Go.DI
open Go Go.RowKit
variable [Tabs]

def enc {α : Type} (c : α -> List Dat) (d : α) (xs : List α) : Nat -> List Dat := fun j => c (xs.getD j d)
def fr {α : Type} (sz : Nat) (c : α -> List Dat) (d : α) (xs : List α) : Dat := .fro sz xs.length (enc c d xs)
def rd (xs : List Int) (i : Int) : Int := xs.getD i.toNat 0
def gt {α : Type} (d : α) (xs : List α) (i : Int) : α := xs.getD i.toNat d
abbrev bt := btI
abbrev mn := mnI
abbrev mx := mxI
abbrev shl := shlI
abbrev shr := shrI
def ca (r : TV) : Sup := .call [] [] r none [] []

theorem ifp {c : Prop} [Decidable c] {α : Type} {a : Option α} {r : α} (h : (if c then a else none) = some r) : c /\ a = some r := by
 by_cases hc : c
 ·rw [if_pos hc] at h; exact ⟨hc, h⟩
 ·rw [if_neg hc] at h; cases h
theorem ifn {c : Prop} [Decidable c] {α : Type} {a : Option α} {r : α} (h : (if c then none else a) = some r) : ¬ c /\ a = some r := by
 by_cases hc : c
 ·rw [if_pos hc] at h; cases h
 ·rw [if_neg hc] at h; exact ⟨hc, h⟩
theorem bnd {α β : Type} {x : Option α} {f : α -> Option β} {r : β} (h : x.bind f = some r) : ∃ v, x = some v /\ f v = some r := Option.bind_eq_some_iff.1 h
theorem ne_f {a b : Int} (h : ¬ a ≠ b) : (a != b) = false := by simpa using h
theorem nb_t {a b : Bool} (h : a ≠ b) : (!(a == b)) = true := by simpa using h
theorem nb_f {a b : Bool} (h : ¬ a ≠ b) : (!(a == b)) = false := by simpa using h
theorem toList_inj {a b : ByteArray} (h : a.toList = b.toList) : a = b := by
 have e : ∀ s : ByteArray, s.toList = s.data.toList := fun s => ByteArray.toList_eq s
 rw [e, e] at h
 cases a; cases b
 exact congrArg ByteArray.mk (Array.toList_inj.1 h)
theorem str_t {a b : ByteArray} (h : a = b) : (a.toList == b.toList) = true := by subst h; simp
theorem str_f {a b : ByteArray} (h : ¬ a = b) : (a.toList == b.toList) = false := by
 apply Bool.eq_false_iff.2
 intro e
 exact h (toList_inj (beq_iff_eq.1 e))
theorem str_nt {a b : ByteArray} (h : a ≠ b) : (!(a.toList == b.toList)) = true := by rw [str_f h]; rfl
theorem str_nf {a b : ByteArray} (h : ¬ a ≠ b) : (!(a.toList == b.toList)) = false := by rw [str_t (Decidable.not_not.1 h)]; rfl

theorem nn (n : Nat) : (0 : Int) <= (n : Int) := Int.natCast_nonneg n
theorem lt_ok {i : Int} {n : Nat} (h1 : 0 <= i) (h2 : i < (n : Int)) : i.toNat < n := by omega
theorem same_rfl (n : Nat) (f : Nat -> List Dat) : Same n f f := fun j _ => LSim.rfl _

section
variable {α : Type} (c : α -> List Dat) (d : α)
theorem enc_eq {xs ys : List α} {i j : Nat} (h : xs.getD i d = ys.getD j d) : LSim (enc c d xs i) (enc c d ys j) := by
 unfold enc; rw [h]; exact LSim.rfl _
theorem set_okp (xs : List α) (el : Nat) (v : α) (off : Nat) (ds : List Dat) (h : el < xs.length) (hov : overD off ds (c (xs.getD el d)) = c v) :
 (xs.set el v).length = xs.length /\ el < xs.length /\ Same xs.length (enc c d (xs.set el v)) fun j => if j = el then overD off ds (enc c d xs j) else enc c d xs j := by
 refine ⟨List.length_set, h, fun j hj => ?_⟩
 by_cases e : j = el
 ·subst e
  simp only [if_true]
  unfold enc
  rw [hov, List.getD_eq_getElem?_getD, List.getElem?_set_self h]
  exact LSim.rfl _
 ·simp only [if_neg e]
  exact enc_eq c d (by rw [List.getD_eq_getElem?_getD, List.getD_eq_getElem?_getD, List.getElem?_set_ne (Ne.symm e)])
theorem set_ok (hc : ∀ x y, (c x).length = (c y).length) (xs : List α) (el : Nat) (v : α) (h : el < xs.length) :
 (xs.set el v).length = xs.length /\ el < xs.length /\ Same xs.length (enc c d (xs.set el v)) fun j => if j = el then overD 0 (c v) (enc c d xs j) else enc c d xs j :=
 set_okp c d xs el v 0 (c v) h (by
  unfold overD
  rw [List.take_zero, List.nil_append, Nat.zero_add, List.drop_of_length_le (by rw [hc v (xs.getD el d)]; exact Nat.le_refl _), List.append_nil])
theorem make_ok (z : List Dat) (hz : LSim (c d) z) (l : Int) (by_ B : Nat) (hB : B * by_ <= 281474976710656) (h1 : 0 <= l) (h2 : l.toNat <= B) :
 0 <= l /\ l = l /\ l = ((List.replicate l.toNat d).length : Int) /\ (List.replicate l.toNat d).length * by_ <= 281474976710656 /\ Same (List.replicate l.toNat d).length (enc c d (List.replicate l.toNat d)) fun _ => z := by
 refine ⟨h1, rfl, by simp; omega, ?_, fun j hj => ?_⟩
 ·rw [List.length_replicate]
  exact Nat.le_trans (Nat.mul_le_mul_right _ h2) hB
 ·rw [List.length_replicate] at hj
  unfold enc
  rw [List.getD_eq_getElem?_getD, List.getElem?_replicate, if_pos hj]
  exact hz
theorem lit_ok (l : List α) : l.length = l.length /\ Same l.length (enc c d l) fun j => (l.map c).getD j [] := by
 refine ⟨rfl, fun j hj => ?_⟩
 unfold enc
 simp only [List.getD_eq_getElem?_getD, List.getElem?_map, List.getElem?_eq_getElem hj]
 exact LSim.rfl _
def LLSim : List (List Dat) -> List (List Dat) -> Prop
 | [], [] => True
 | a :: as, b :: bs => LSim a b /\ LLSim as bs
 | _, _ => False
theorem app (xs ys : List α) (by_ B : Nat) (hB : B * by_ <= lim) (h : xs.length + ys.length < B + 1) :
 (xs ++ ys).length = xs.length + ys.length /\ (xs ++ ys).length * by_ <= lim /\ Same xs.length (enc c d (xs ++ ys)) (enc c d xs) /\ Same ys.length (fun j => enc c d (xs ++ ys) (xs.length + j)) (enc c d ys) := by
 refine ⟨List.length_append, ?_, fun j hj => enc_eq c d ?_, fun j hj => enc_eq c d ?_⟩
 ·rw [List.length_append]
  exact Nat.le_trans (Nat.mul_le_mul_right _ (by omega)) hB
 ·rw [List.getD_eq_getElem?_getD, List.getD_eq_getElem?_getD, List.getElem?_append_left hj]
 ·rw [List.getD_eq_getElem?_getD, List.getD_eq_getElem?_getD, List.getElem?_append_right (by omega)]
  congr 2
  omega
theorem app1 (xs : List α) (x : α) (by_ B : Nat) (hB : B * by_ <= lim) (h : xs.length < B) :
 (xs ++ [x]).length = xs.length + [x].length /\ (xs ++ [x]).length * by_ <= lim /\ Same xs.length (enc c d (xs ++ [x])) (enc c d xs) /\ Same [x].length (fun j => enc c d (xs ++ [x]) (xs.length + j)) (enc c d [x]) :=
 app c d xs [x] by_ B hB (by simp; omega)
theorem take_ok (xs : List α) {h : Int} (h1 : 0 <= h) (h2 : h <= (xs.length : Int)) :
 0 <= h /\ h <= (xs.length : Int) /\ (xs.take h.toNat).length = h.toNat /\ Same (xs.take h.toNat).length (enc c d (xs.take h.toNat)) (enc c d xs) := by
 refine ⟨h1, h2, by rw [List.length_take]; omega, fun j hj => enc_eq c d ?_⟩
 rw [List.length_take] at hj
 rw [List.getD_eq_getElem?_getD, List.getD_eq_getElem?_getD, List.getElem?_take_of_lt (by omega)]
theorem drop_ok (xs : List α) {l : Int} (h1 : 0 <= l) (h2 : l <= (xs.length : Int)) :
 0 <= l /\ l <= (xs.length : Int) /\ (xs.drop l.toNat).length = xs.length - l.toNat /\ Same (xs.drop l.toNat).length (enc c d (xs.drop l.toNat)) fun j => enc c d xs (j + l.toNat) := by
 refine ⟨h1, h2, List.length_drop, fun j hj => enc_eq c d ?_⟩
 rw [List.getD_eq_getElem?_getD, List.getD_eq_getElem?_getD, List.getElem?_drop, Nat.add_comm]
theorem part_ok (xs : List α) {l h : Int} (h1 : 0 <= l) (h2 : l <= h) (h3 : h <= (xs.length : Int)) :
 0 <= l /\ l <= h /\ h <= (xs.length : Int) /\ ((xs.drop l.toNat).take (h.toNat - l.toNat)).length = h.toNat - l.toNat /\
  Same ((xs.drop l.toNat).take (h.toNat - l.toNat)).length (enc c d ((xs.drop l.toNat).take (h.toNat - l.toNat))) fun j => enc c d xs (j + l.toNat) := by
 refine ⟨h1, h2, h3, by simp; omega, fun j hj => enc_eq c d ?_⟩
 simp only [List.length_take, List.length_drop] at hj
 rw [List.getD_eq_getElem?_getD, List.getD_eq_getElem?_getD, List.getElem?_take_of_lt (by omega), List.getElem?_drop, Nat.add_comm]
theorem backw_ok (sz : Nat) (xs u : List α) {l h : Int} (h1 : 0 <= l) (h2 : l <= h) (h3 : h <= (xs.length : Int)) (hu : u.length = ((xs.drop l.toNat).take (h.toNat - l.toNat)).length) :
 sz = sz /\ u.length = h.toNat - l.toNat /\ (xs.take l.toNat ++ u ++ xs.drop h.toNat).length = xs.length /\
  Same xs.length (enc c d (xs.take l.toNat ++ u ++ xs.drop h.toNat)) fun j => if l.toNat <= j /\ j < l.toNat + (h.toNat - l.toNat) then enc c d u (j - l.toNat) else enc c d xs j := by
 have hu' : u.length = h.toNat - l.toNat := by rw [hu]; simp; omega
 refine ⟨rfl, hu', by simp; omega, fun j hj => ?_⟩
 by_cases e : l.toNat <= j /\ j < l.toNat + (h.toNat - l.toNat)
 ·simp only [if_pos e]
  refine enc_eq c d ?_
  rw [List.getD_eq_getElem?_getD, List.getD_eq_getElem?_getD, List.append_assoc, List.getElem?_append_right (by simp; omega), List.length_take, Nat.min_eq_left (by omega), List.getElem?_append_left (by omega)]
 ·simp only [if_neg e]
  refine enc_eq c d ?_
  rw [List.getD_eq_getElem?_getD, List.getD_eq_getElem?_getD]
  by_cases e1 : j < l.toNat
  ·rw [List.append_assoc, List.getElem?_append_left (by simp; omega), List.getElem?_take_of_lt (by omega)]
  ·rw [List.getElem?_append_right (by simp; omega), List.getElem?_drop]
   congr 2
   simp
   omega
end
def ofBytes (xs : List Int) : ByteArray := ⟨(xs.map fun n => UInt8.ofNat n.toNat).toArray⟩
def bytesOk (xs : List Int) : Bool := xs.all fun x => decide (0 <= x) && decide (x < 256)
theorem ofBytes_size (xs : List Int) : (ofBytes xs).size = xs.length := by simp [ofBytes, ByteArray.size]
theorem ofBytes_at (xs : List Int) (h : bytesOk xs = true) (j : Nat) (hj : j < xs.length) : btI (ofBytes xs) j = xs[j] := by
 have hb := List.all_eq_true.1 h xs[j] (List.getElem_mem hj)
 simp only [Bool.and_eq_true, decide_eq_true_eq] at hb
 unfold btI
 have e : (j : Int).toNat = j := by omega
 simp only [e, ofBytes_size, hj, dite_true]
 have hlt : j < (ofBytes xs).size := by rw [ofBytes_size]; exact hj
 show ((((ofBytes xs)[j]'hlt).toNat : Nat) : Int) = xs[j]
 have : (ofBytes xs)[j]'hlt = UInt8.ofNat xs[j].toNat := by
  show (ofBytes xs).data[j]'hlt = _
  simp [ofBytes]
 rw [this]
 simp
 omega
def toBytes (s : ByteArray) : List Int := s.data.toList.map fun b => (b.toNat : Int)
theorem toBytes_length (s : ByteArray) : (toBytes s).length = s.size := by
 unfold toBytes
 rw [List.length_map, Array.length_toList]
 rfl
theorem bytes_ok (c : Int -> List Dat) (s : ByteArray) (hc : ∀ x, c x = [.int .u8 x]) (h : s.size <= lim) : (toBytes s).length = s.size /\ (toBytes s).length <= lim /\ Same (toBytes s).length (enc c 0 (toBytes s)) fun j => [.int .u8 (btI s j)] := by
 refine ⟨toBytes_length s, by rw [toBytes_length]; exact h, fun j hj => ?_⟩
 show LSim (enc c 0 (toBytes s) j) [.int .u8 (btI s j)]
 rw [toBytes_length] at hj
 unfold enc
 have : (toBytes s).getD j 0 = btI s j := by
  unfold btI
  have e : (j : Int).toNat = j := by omega
  simp only [e, hj, dite_true]
  have h2 : s.data[j]? = some (s.data[j]'hj) := Array.getElem?_eq_getElem hj
  simp only [toBytes, List.getD_eq_getElem?_getD, List.getElem?_map, Array.getElem?_toList, h2, Option.map_some, Option.getD_some]
  rfl
 rw [hc, this]
 exact LSim.rfl _
theorem strd_ok (c : Int -> List Dat) (xs : List Int) (hc : ∀ x, c x = [.int .u8 x]) (l : Int) (h1 : 0 <= l) (h2 : l < (xs.length : Int)) (h : bytesOk (xs.drop l.toNat) = true) :
 (ofBytes (xs.drop l.toNat)).size = xs.length - l.toNat /\ Same (xs.length - l.toNat) (fun j => enc c 0 xs (j + l.toNat)) fun j => [.int .u8 (btI (ofBytes (xs.drop l.toNat)) j)] := by
 refine ⟨by rw [ofBytes_size, List.length_drop], fun j hj => ?_⟩
 show LSim (enc c 0 xs (j + l.toNat)) [.int .u8 (btI (ofBytes (xs.drop l.toNat)) j)]
 have hj2 : j < (xs.drop l.toNat).length := by rw [List.length_drop]; exact hj
 unfold enc
 rw [hc, ofBytes_at _ h j hj2, List.getElem_drop, List.getD_eq_getElem?_getD, List.getElem?_eq_getElem (by omega)]
 have : xs[j + l.toNat]'(by omega) = xs[l.toNat + j]'(by omega) := by congr 1; omega
 rw [Option.getD_some, this]
 exact LSim.rfl _
theorem tab_ok (k : IntKind) (xs : List Int) {i N : Int} (h1 : 0 <= i) (h2 : i < N) (hN : (xs.length : Int) = N) : TV.c (.d ((xs.map fun x => Dat.int k x).getD i.toNat .nilp)) = .c (.d (.int k (rd xs i))) := by
 unfold rd
 have h : i.toNat < xs.length := by omega
 rw [List.getD_eq_getElem?_getD, List.getD_eq_getElem?_getD, List.getElem?_map, List.getElem?_eq_getElem h]
 rfl
end Go.DI
namespace Go.DI
open Go Go.RowKit
variable [Tabs]

theorem DRel.mono {w w' : World} {F F' : Nat -> Prop} (h : ∀ b, F b -> F' b /\ w'.heap[b]? = w.heap[b]?) {d : Dat} {v : Value} (hd : DRel w F d v) : DRel w' F' d v := by
 induction hd with
 | bool b => exact .bool b
 | int k n => exact .int k n
 | str s => exact .str s
 | nilp => exact .nilp
 | fro0 sz get a cap => exact .fro0 sz get a cap
 | fro sz n get A cap cell hF hc hl hcell hrel ih =>
  refine .fro sz n get A cap cell (h _ hF).1 hc hl (fun j i hj hi => ?_) (fun j i d hj hd => ih j i d hj hd)
  have hb : (A.add (j * sz + i)).block = A.block := by unfold Addr.add; split <;> rfl
  rw [World.cell?_of_block (w := w) (by rw [hb]; exact (h _ hF).2)]
  exact hcell j i hj hi

theorem TabOk.mono {w w' : World} {F F' : Nat -> Prop} (h : ∀ b, F b -> F' b /\ w'.heap[b]? = w.heap[b]?) (ht : TabOk w F) : TabOk w' F' := fun g ds hg => by
 obtain ⟨h1, cell, h2⟩ := ht g ds hg
 refine ⟨(h _ h1).1, cell, fun i d hd => ?_⟩
 have hb : ((⟨g, 0, none⟩ : Addr).add i).block = g := by unfold Addr.add; split <;> rfl
 rw [World.cell?_of_block (w := w) (by rw [hb]; exact (h _ h1).2)]
 exact ⟨(h2 i d hd).1, (h2 i d hd).2.mono h⟩

theorem DRel.oneCell {w : World} {F : Nat -> Prop} {d : Dat} {v : Value} (hd : DRel w F d v) : v.oneCell' = true := by cases hd <;> rfl

theorem DRel.sim {w : World} {F : Nat -> Prop} {a b : Dat} {v : Value} (hs : DSim a b) (hd : DRel w F b v) : DRel w F a v := by
 cases hs with
 | refl => exact hd
 | nil sz sz' g g' => cases hd with
  | fro0 _ _ a cap => exact .fro0 _ _ a cap
  | fro _ _ _ A cap cell hF hc hl hcell hrel => exact .fro0 _ _ _ cap

theorem LSim.get {l m : List Dat} (h : LSim l m) : l.length = m.length /\ ∀ (i : Nat) (a : Dat), l[i]? = some a -> ∃ b : Dat, m[i]? = some b /\ DSim a b := by
 induction l generalizing m with
 | nil => cases m with
  | nil => exact ⟨Eq.refl _, fun i a h => by simp at h⟩
  | cons b m => exact h.elim
 | cons x l ih => cases m with
  | nil => exact h.elim
  | cons b m =>
   obtain ⟨h1, h2⟩ := h
   obtain ⟨i1, i2⟩ := ih h2
   refine ⟨by simp [i1], fun i a ha => ?_⟩
   cases i with
   | zero =>
    simp at ha
    subst ha
    exact ⟨b, by simp, h1⟩
   | succ i => simpa using i2 i a (by simpa using ha)

section
variable {w w' : World} {F F' : Nat -> Prop} {β β' : Nat -> Option (Nat × Nat)} {γ γ' : Nat -> Option Nat} {ob ob' : Nat -> Option Ob}

def Shape : Ob -> Ob -> Prop
 | .box _, .box _ => True
 | .row k _ sz n _, .row k' _ sz' n' _ => sz' = sz /\ n' = n /\ (k' = .own -> k = .own)
 | .iter _ _, .iter _ _ => True
 | .bld _, .bld _ => True
 | _, _ => False

def Keeps (w w' : World) (β β' : Nat -> Option (Nat × Nat)) (ob ob' : Nat -> Option Ob) (nm : Nat) : Prop :=
 ∀ o', ob' nm = some o' -> ∃ o, ob nm = some o /\ Shape o o' /\ β' nm = β nm /\
  ∀ b q, β nm = some (b, q) -> ∀ cur e fr, w'.heap[b]? = some (.cells cur e fr) -> ∃ cur0 e0 fr0, w.heap[b]? = some (.cells cur0 e0 fr0) /\ cur0.size = cur.size

theorem Keeps.refl (w : World) (β : Nat -> Option (Nat × Nat)) (ob : Nat -> Option Ob) (nm : Nat) : Keeps w w β β ob ob nm := by
 intro o' h
 refine ⟨o', h, ?_, rfl, fun b q hb cur e fr hh => ⟨cur, e, fr, hh, rfl⟩⟩
 cases o' <;> simp [Shape]

theorem RowRef.keep {nm off len : Nat} {k k' : RK} {sz n : Nat} {v : Value} (h : RowRef w β nm off len k sz n v) (hk : k' = .own -> k = .own) (hβ : β' nm = β nm)
 (hs : ∀ b q, β nm = some (b, q) -> ∀ cur e fr, w'.heap[b]? = some (.cells cur e fr) -> ∃ cur0 e0 fr0, w.heap[b]? = some (.cells cur0 e0 fr0) /\ cur0.size = cur.size) :
 RowRef w' β' nm off len k' sz n v := by
 rcases h with ⟨h1, h2⟩ | ⟨b, q, cap, h1, h2, h3, h4, h5⟩
 ·exact .inl ⟨hβ.trans h1, h2⟩
 ·refine .inr ⟨b, q, cap, hβ.trans h1, h2, h3, h4, fun hk' cur e fr hh => ?_⟩
  obtain ⟨cur0, e0, fr0, h6, h7⟩ := hs b q h1 cur e fr hh
  exact (h5 (hk hk') cur0 e0 fr0 h6).trans h7

theorem CRel.keep (hF : ∀ b, F b -> F' b /\ w'.heap[b]? = w.heap[b]?) {c : Cl} {v : Value} (hk : ∀ nm ∈ refsC [c], Keeps w w' β β' ob ob' nm) (h : CRel w F β ob c v) : CRel w' F' β' ob' c v := by
 cases c with
 | d d => exact DRel.mono hF h
 | nils => exact h
 | z => exact h
 | u => trivial
 | pf cs =>
  obtain ⟨A, cell, h1, h2, h3⟩ := h
  refine ⟨A, cell, h1, (hF _ h2).1, fun i d hd => ?_⟩
  have hb : (A.add i).block = A.block := by unfold Addr.add; split <;> rfl
  rw [World.cell?_of_block (w := w) (by rw [hb]; exact (hF _ h2).2)]
  exact ⟨(h3 i d hd).1, (h3 i d hd).2.mono hF⟩
 | own nm =>
  have hk := hk nm (by simp [refsC])
  simp only [CRel] at h ⊢
  obtain ⟨h0, h⟩ := h
  refine ⟨h0, ?_⟩
  cases ho : ob' nm with
  | none => trivial
  | some o' =>
   obtain ⟨o, h1, h2, h3, h4⟩ := hk o' ho
   rw [h1] at h
   cases o' <;> cases o <;> simp only [Shape] at h2 <;> try trivial
   obtain ⟨rfl, rfl, h5⟩ := h2
   exact h.keep h5 h3 h4
 | vw nm off len =>
  have hk := hk nm (by simp [refsC])
  simp only [CRel] at h ⊢
  obtain ⟨h0, h⟩ := h
  refine ⟨h0, ?_⟩
  cases ho : ob' nm with
  | none => trivial
  | some o' =>
   obtain ⟨o, h1, h2, h3, h4⟩ := hk o' ho
   rw [h1] at h
   cases o' <;> cases o <;> simp only [Shape] at h2 <;> try trivial
   obtain ⟨rfl, rfl, h5⟩ := h2
   exact ⟨h.1, h.2.keep h5 h3 h4⟩
 | ptr nm off =>
  have hk := hk nm (by simp [refsC])
  simp only [CRel] at h ⊢
  obtain ⟨h0, h⟩ := h
  refine ⟨h0, ?_⟩
  cases ho : ob' nm with
  | none => trivial
  | some o' =>
   obtain ⟨o, h1, _, h3, _⟩ := hk o' ho
   rw [h1] at h
   simpa [h3] using h
 | rp nm el off =>
  have hk := hk nm (by simp [refsC])
  simp only [CRel] at h ⊢
  obtain ⟨h0, h⟩ := h
  refine ⟨h0, ?_⟩
  cases ho : ob' nm with
  | none => trivial
  | some o' =>
   obtain ⟨o, h1, h2, h3, h4⟩ := hk o' ho
   rw [h1] at h
   cases o' <;> cases o <;> simp only [Shape] at h2 <;> try trivial
   obtain ⟨rfl, rfl, _⟩ := h2
   simpa [h3] using h

theorem refsC_cons (c : Cl) (cs : List Cl) : refsC (c :: cs) = refsC [c] ++ refsC cs := by cases c <;> rfl

theorem CsRel.keep (hF : ∀ b, F b -> F' b /\ w'.heap[b]? = w.heap[b]?) : ∀ {cs : List Cl} {vs : List Value}, (∀ nm ∈ refsC cs, Keeps w w' β β' ob ob' nm) -> CsRel w F β ob cs vs -> CsRel w' F' β' ob' cs vs
 | [], [], _, _ => trivial
 | [], _ :: _, _, h => h.elim
 | _ :: _, [], _, h => h.elim
 | c :: cs, v :: vs, hk, h => by
  rw [refsC_cons] at hk
  exact ⟨h.1.keep hF fun nm hn => hk nm (List.mem_append_left _ hn), CsRel.keep hF (fun nm hn => hk nm (List.mem_append_right _ hn)) h.2⟩

mutual
theorem TRel.keep (hF : ∀ b, F b -> F' b /\ w'.heap[b]? = w.heap[b]?) : ∀ {t : TV} {v : Value}, (∀ nm ∈ refsT t, Keeps w w' β β' ob ob' nm) -> TRel w F β ob t v -> TRel w' F' β' ob' t v
 | .c c, v, hk, h => by
  rw [TRel] at h ⊢
  exact CRel.keep hF hk h
 | .agg cs, v, hk, h => by
  rw [TRel] at h ⊢
  obtain ⟨vs, h1, h2, h3⟩ := h
  exact ⟨vs, h1, CsRel.keep hF hk h2, h3⟩
 | .tup ts, v, hk, h => by
  rw [TRel] at h ⊢
  obtain ⟨vs, h1, h2⟩ := h
  exact ⟨vs, h1, TsRel.keep hF hk h2⟩
theorem TsRel.keep (hF : ∀ b, F b -> F' b /\ w'.heap[b]? = w.heap[b]?) : ∀ {ts : List TV} {vs : List Value}, (∀ nm ∈ refsTs ts, Keeps w w' β β' ob ob' nm) -> TsRel w F β ob ts vs -> TsRel w' F' β' ob' ts vs
 | [], [], _, _ => by rw [TsRel]; trivial
 | [], _ :: _, _, h => by rw [TsRel] at h; exact h.elim; all_goals simp
 | _ :: _, [], _, h => by rw [TsRel] at h; exact h.elim; all_goals simp
 | t :: ts, v :: vs, hk, h => by
  rw [TsRel] at h ⊢
  rw [refsTs] at hk
  exact ⟨TRel.keep hF (fun nm hn => hk nm (List.mem_append_left _ hn)) h.1, TsRel.keep hF (fun nm hn => hk nm (List.mem_append_right _ hn)) h.2⟩
end

theorem ObRel.keep (hF : ∀ b, F b -> F' b /\ w'.heap[b]? = w.heap[b]?) {nm : Nat} {o : Ob} (hβ : β' nm = β nm) (hγ : γ' nm = γ nm) (hb : ∀ b q, β nm = some (b, q) -> w'.heap[b]? = w.heap[b]?)
 (hg : ∀ s b, o = .bld s -> γ nm = some b -> w'.heap[b]? = w.heap[b]?) (hk : ∀ cs, o = .box cs -> ∀ n ∈ refsC cs, Keeps w w' β β' ob ob' n) (h : ObRel w F β γ ob nm o) : ObRel w' F' β' γ' ob' nm o := by
 cases o with
 | box cs =>
  obtain ⟨b, cells, el, h1, h2, h3, h4⟩ := h
  exact ⟨b, cells, el, hβ.trans h1, (hb b 0 h1).trans h2, h3.keep hF (hk cs rfl), h4⟩
 | row k e sz n get =>
  rcases h with ⟨h1, h2⟩ | ⟨b, q, cur, e', fr, h1, h2, h3, h4, h5, h6⟩
  ·exact .inl ⟨h1, hβ.trans h2⟩
  ·refine .inr ⟨b, q, cur, e', fr, hβ.trans h1, (hb b q h1).trans h2, ⟨h3.1, fun j hj => ⟨(h3.2 j hj).1, fun i d hd => ?_⟩⟩, h4, h5, fun hk => (hF b (h6 hk)).1⟩
   obtain ⟨u, hu, hr, ho⟩ := (h3.2 j hj).2 i d hd
   exact ⟨u, hu, hr.mono hF, ho⟩
 | iter s pos =>
  obtain ⟨b, h1, h2⟩ := h
  exact ⟨b, hβ.trans h1, (hb b 0 h1).trans h2⟩
 | bld s =>
  obtain ⟨b, h1, cells, el, p, n, cap, h2, h3, h4, h6, h5⟩ := h
  refine ⟨b, hβ.trans h1, cells, el, p, n, cap, (hb b 0 h1).trans h2, by rw [hγ]; exact h3, h4, h6, ?_⟩
  rcases h5 with ⟨a2, a3⟩ | ⟨x, cur, e, lo, hi, a2, a3, a4, rest⟩
  ·exact .inl ⟨hγ.trans a2, a3⟩
  ·exact .inr ⟨x, cur, e, lo, hi, hγ.trans a2, a3, (hg s x rfl a2).trans a4, rest⟩
end
end Go.DI
namespace Go.DI
open Go Go.RowKit
variable [Tabs]

theorem lookO_cons (s : Nat) (v : Option Ob) (e : Obs) (t : Nat) : lookO ((s, v) :: e) t = if s = t then v else lookO e t := by
 simp only [lookO]
 by_cases h : s = t
 ·subst h; simp
 ·have : Nat.beq s t = false := by
   cases hb : Nat.beq s t with
   | false => rfl
   | true => exact absurd (Nat.eq_of_beq_eq_true hb) h
  simp [this, h]
theorem look_cons (s : Nat) (v : TV) (e : Env) (t : Nat) : look ((s, v) :: e) t = if s = t then v else look e t := by
 simp only [look]
 by_cases h : s = t
 ·subst h; simp
 ·have : Nat.beq s t = false := by
   cases hb : Nat.beq s t with
   | false => rfl
   | true => exact absurd (Nat.eq_of_beq_eq_true hb) h
  simp [this, h]

section
variable {w w' : World} {F F' : Nat -> Prop} {β β' : Nat -> Option (Nat × Nat)} {γ γ' : Nat -> Option Nat} {ob ob' : Nat -> Option Ob}

theorem Given.owns {b : Nat} (h : Given β ob b) (γ : Nat -> Option Nat) : ∃ nm, Owns β γ ob nm b := by
 obtain ⟨nm, e, sz, n, get, o, h1, h2⟩ := h
 exact ⟨nm, by simp only [Owns, h1]; exact ⟨o, h2⟩⟩

theorem Stays.refl {o : Ob} (h : NotOwn o) : Stays o o := by
 cases o with
 | row k e sz n get => cases k with
  | own => exact absurd rfl (h e sz n get)
  | _ => exact ⟨rfl, rfl⟩
 | _ => trivial
theorem Stays.not {a b : Ob} (h : Stays a b) : NotOwn b := by
 intro e sz n get hb
 subst hb
 cases a with
 | row k e sz n get => cases k <;> exact h.elim
 | _ => exact h.elim
theorem Stays.trans {a b c : Ob} (h : Stays a b) (k : Stays b c) : Stays a c := by
 cases a with
 | row ka ea sza na ga =>
  cases ka with
  | own => cases b <;> exact h.elim
  | win =>
   cases b with
   | row kb eb szb nb gb => cases kb with
    | win => cases c with
     | row kc ec szc nc gc => cases kc with
      | win => exact ⟨k.1.trans h.1, k.2.trans h.2⟩
      | _ => exact k.elim
     | _ => exact k.elim
    | _ => exact h.elim
   | _ => exact h.elim
  | frz =>
   cases b with
   | row kb eb szb nb gb => cases kb with
    | frz => cases c with
     | row kc ec szc nc gc => cases kc with
      | frz => exact ⟨k.1.trans h.1, k.2.trans h.2⟩
      | _ => exact k.elim
     | _ => exact k.elim
    | _ => exact h.elim
   | _ => exact h.elim
 | box cs => cases b with
  | box cs' => cases c <;> first | trivial | exact k.elim
  | _ => exact h.elim
 | iter s p => cases b with
  | iter s p => cases c <;> first | trivial | exact k.elim
  | _ => exact h.elim
 | bld s => cases b with
  | bld s => cases c <;> first | trivial | exact k.elim
  | _ => exact h.elim

theorem Onto.refl (w : World) (F : Nat -> Prop) (β : Nat -> Option (Nat × Nat)) (γ : Nat -> Option Nat) (ob : Nat -> Option Ob) : Onto w F β γ ob w F β γ ob :=
 ⟨rfl, rfl, rfl, Nat.le_refl _, fun _ _ _ => rfl, fun _ h => h, fun _ h => .inl h, fun _ _ h => .inl h, fun nm b o e sz n get h1 h2 => .inr ⟨nm, e, sz, n, get, o, h1, h2⟩, fun nm o h k => ⟨o, h, Stays.refl k, rfl⟩,
  fun b _ cur e fr h => ⟨cur, fr, h, rfl⟩, fun nm e sz n get b o _ _ cur0 e0 fr0 cur e1 fr h1 h2 i _ => by rw [h1] at h2; cases h2; rfl⟩

theorem Onto.trans {w0 : World} {F0 : Nat -> Prop} {β0 : Nat -> Option (Nat × Nat)} {γ0 : Nat -> Option Nat} {ob0 : Nat -> Option Ob}
 (h : Onto w0 F0 β0 γ0 ob0 w F β γ ob) (k : Onto w F β γ ob w' F' β' γ' ob') : Onto w0 F0 β0 γ0 ob0 w' F' β' γ' ob' := by
 have hg : ∀ b, Given β ob b -> w0.heap.size <= b \/ Given β0 ob0 b := fun b hb => by
  obtain ⟨nm, e, sz, n, get, o, h1, h2⟩ := hb
  exact h.own nm b o e sz n get h1 h2
 refine ⟨k.os.trans h.os, k.tape.trans h.tape, k.output.trans h.output, Nat.le_trans h.size k.size, fun b hb hn => ?_, fun b hb => k.more b (h.more b hb), fun b hb => ?_, fun nm b hb => ?_, fun nm b o e sz n get h1 h2 => ?_, fun nm o0 hn hno => ?_, fun b hb cur e fr hh => ?_, fun nm e sz n get b o hn hb cur0 e0 fr0 cur e1 fr h0 h1 i hi => ?_⟩
 ·refine (k.keep b (Nat.lt_of_lt_of_le hb h.size) fun nm ho => ?_).trans (h.keep b hb hn)
  rcases h.from_ nm b ho with h1 | h1 | h1
  ·exact hn nm h1
  ·omega
  ·obtain ⟨nm', h2⟩ := h1.owns γ0
   exact hn nm' h2
 ·rcases k.new b hb with h1 | h1 | h1
  ·exact h.new b h1
  ·exact .inr (.inl (Nat.le_trans h.size h1))
  ·rcases hg b h1 with h2 | h2
   ·exact .inr (.inl h2)
   ·exact .inr (.inr h2)
 ·rcases k.from_ nm b hb with h1 | h1 | h1
  ·exact h.from_ nm b h1
  ·exact .inr (.inl (Nat.le_trans h.size h1))
  ·exact .inr (hg b h1)
 ·rcases k.own nm b o e sz n get h1 h2 with h3 | h3
  ·exact .inl (Nat.le_trans h.size h3)
  ·exact hg b h3
 ·obtain ⟨o1, h1, h2, h3⟩ := h.stay nm o0 hn hno
  obtain ⟨o2, h4, h5, h6⟩ := k.stay nm o1 h1 h2.not
  exact ⟨o2, h4, h2.trans h5, h6.trans h3⟩
 ·obtain ⟨cur1, fr1, h1, h2⟩ := k.shape b (Nat.lt_of_lt_of_le hb h.size) cur e fr hh
  obtain ⟨cur2, fr2, h3, h4⟩ := h.shape b hb cur1 e fr1 h1
  exact ⟨cur2, fr2, h3, by omega⟩
 ·have hlt : b < w0.heap.size := (Array.getElem?_eq_some_iff.1 h0).1
  obtain ⟨cur1, fr1, h2, h3⟩ := k.shape b (Nat.lt_of_lt_of_le hlt h.size) cur e1 fr h1
  obtain ⟨o1, h4, h5, h6⟩ := h.stay nm _ hn (by intro _ _ _ _ h; cases h)
  cases o1 with
  | row k1 e2 sz2 n2 get2 => cases k1 with
   | win =>
    obtain ⟨rfl, rfl⟩ := h5
    exact (k.out nm _ _ _ _ b o h4 (h6.trans hb) _ _ _ _ _ _ h2 h1 i hi).trans (h.out nm _ _ _ _ b o hn hb _ _ _ _ _ _ h0 h2 i hi)
   | _ => exact h5.elim
  | _ => exact h5.elim

theorem step (H : Heap w F β γ ob) (Ch : Nat -> Prop)
 (os : w'.os = w.os) (tape : w'.tape = w.tape) (output : w'.output = w.output) (size : w.heap.size <= w'.heap.size)
 (heq : ∀ b, b < w.heap.size -> (∀ nm, Ch nm -> ¬ Owns β γ ob nm b) -> w'.heap[b]? = w.heap[b]?)
 (same : ∀ nm, ¬ Ch nm -> ob' nm = ob nm /\ β' nm = β nm /\ γ' nm = γ nm)
 (more : ∀ b, F b -> F' b)
 (new : ∀ b, F' b -> F b \/ (w.heap.size <= b /\ b < w'.heap.size) \/ ∃ nm e sz n get o, Ch nm /\ ob nm = some (.row .own e sz n get) /\ β nm = some (b, o))
 (from_ : ∀ nm b, Ch nm -> Owns β' γ' ob' nm b -> Owns β γ ob nm b \/ w.heap.size <= b \/ ∃ nm0 e sz n get o, Ch nm0 /\ ob nm0 = some (.row .own e sz n get) /\ β nm0 = some (b, o))
 (lt : ∀ nm b, Ch nm -> Owns β' γ' ob' nm b -> b < w'.heap.size /\ ¬ F' b)
 (excl : ∀ nm nm' b, Ch nm -> Ch nm' -> Owns β' γ' ob' nm b -> Owns β' γ' ob' nm' b -> nm = nm')
 (own : ∀ nm b o e sz n get, Ch nm -> ob' nm = some (.row .own e sz n get) -> β' nm = some (b, o) -> w.heap.size <= b \/ Given β ob b)
 (held : ∀ nm o0, Ch nm -> ob nm = some o0 -> NotOwn o0 -> ∃ o, ob' nm = some o /\ Stays o0 o /\ β' nm = β nm)
 (shp : ∀ nm b, Ch nm -> Owns β γ ob nm b -> ∀ cur e fr, w'.heap[b]? = some (.cells cur e fr) -> ∃ cur0 fr0, w.heap[b]? = some (.cells cur0 e fr0) /\ cur0.size = cur.size)
 (outw : ∀ nm e sz n get b o, Ch nm -> ob nm = some (.row .win e sz n get) -> β nm = some (b, o) -> ∀ cur0 e0 fr0 cur e1 fr, w.heap[b]? = some (.cells cur0 e0 fr0) -> w'.heap[b]? = some (.cells cur e1 fr) ->
  ∀ i, (i < o \/ o + n * sz <= i) -> cur[i]? = cur0[i]?)
 (keeps : ∀ nm, Ch nm -> Keeps w w' β β' ob ob' nm \/ ∀ n cs, ob n = some (.box cs) -> ¬ Ch n -> nm ∉ refsC cs)
 (obs : ∀ nm o, Ch nm -> ob' nm = some o -> ObRel w' F' β' γ' ob' nm o) :
 Heap w' F' β' γ' ob' /\ Onto w F β γ ob w' F' β' γ' ob' /\ (∀ nm, ¬ Ch nm -> Keeps w w' β β' ob ob' nm) := by
 have owns_same : ∀ nm, ¬ Ch nm -> ∀ b, Owns β' γ' ob' nm b ↔ Owns β γ ob nm b := fun nm hn b => by
  obtain ⟨h1, h2, h3⟩ := same nm hn
  simp only [Owns, h1, h2, h3]
 have hF : ∀ b, F b -> F' b /\ w'.heap[b]? = w.heap[b]? := fun b hb => ⟨more b hb, heq b (H.flt b hb) fun nm _ ho => (H.apart nm b ho).1 hb⟩
 have hsame : ∀ nm b, ¬ Ch nm -> Owns β γ ob nm b -> w'.heap[b]? = w.heap[b]? := fun nm b hn ho =>
  heq b (H.apart nm b ho).2 fun nm' hc ho' => hn (H.excl nm nm' b ho ho' ▸ hc)
 have rowOwns : ∀ nm e sz n get b o, ob nm = some (.row .own e sz n get) -> β nm = some (b, o) -> Owns β γ ob nm b := fun nm e sz n get b o h1 h2 => by
  simp only [Owns, h1]; exact ⟨o, h2⟩
 have keepsU : ∀ nm, ¬ Ch nm -> Keeps w w' β β' ob ob' nm := fun nm hn o' ho' => by
  obtain ⟨h1, h2, _⟩ := same nm hn
  refine ⟨o', by rw [<- h1]; exact ho', ?_, h2, fun b q hb cur e fr hh => ?_⟩
  ·cases o' <;> simp [Shape]
  ·
   rw [h1] at ho'
   have hbe : w'.heap[b]? = w.heap[b]? := by
    cases o' with
    | box cs => exact hsame nm b hn (by simp only [Owns, ho']; exact ⟨q, hb⟩)
    | iter s p => exact hsame nm b hn (by simp only [Owns, ho']; exact ⟨q, hb⟩)
    | bld s =>
     obtain ⟨b', h5, _⟩ := H.obs nm _ ho'
     rw [hb] at h5
     have hq : q = 0 := by injection h5 with h5; exact (Prod.mk.inj h5).2
     exact hsame nm b hn (by simp only [Owns, ho']; exact .inl (by rw [hb, hq]))
    | row k e2 sz n get =>
     cases k with
     | frz =>
      rcases H.obs nm _ ho' with ⟨_, h6⟩ | ⟨b2, q2, cur2, e3, fr2, h6, _, _, _, _, h7⟩
      ·rw [hb] at h6; cases h6
      ·rw [hb] at h6
       have hbb : b = b2 := by injection h6 with h6; exact (Prod.mk.inj h6).1
       subst hbb
       exact (hF b (h7 rfl)).2
     | own => exact hsame nm b hn (by simp only [Owns, ho']; exact ⟨q, hb⟩)
     | win => exact hsame nm b hn (by simp only [Owns, ho']; exact ⟨q, hb⟩)
   exact ⟨cur, e, fr, by rw [<- hbe]; exact hh, rfl⟩
 refine ⟨⟨fun b hb => ?_, fun nm b ho => ?_, fun nm nm' b h1 h2 => ?_, fun nm o ho => ?_⟩, ⟨os, tape, output, size, fun b hb hn => heq b hb fun nm _ => hn nm, more, fun b hb => ?_, fun nm b ho => ?_, fun nm b o e sz n get h1 h2 => ?_, fun nm o0 hh hno => ?_, fun b hb cur e fr hh => ?_, fun nm e sz n get b o hn hb cur0 e0 fr0 cur e1 fr h0 h1 i hi => ?_⟩, keepsU⟩
 ·rcases new b hb with h | h | ⟨nm, e, sz, n, get, o, _, h1, h2⟩
  ·exact Nat.lt_of_lt_of_le (H.flt b h) size
  ·exact h.2
  ·exact Nat.lt_of_lt_of_le (H.apart nm b (rowOwns _ _ _ _ _ _ _ h1 h2)).2 size
 ·by_cases hc : Ch nm
  ·exact ⟨(lt nm b hc ho).2, (lt nm b hc ho).1⟩
  ·have ho' := (owns_same nm hc b).1 ho
   refine ⟨fun hf => ?_, Nat.lt_of_lt_of_le (H.apart nm b ho').2 size⟩
   rcases new b hf with h | h | ⟨nm2, e, sz, n, get, o, h3, h1, h2⟩
   ·exact (H.apart nm b ho').1 h
   ·have := (H.apart nm b ho').2; omega
   ·exact hc (H.excl nm nm2 b ho' (rowOwns _ _ _ _ _ _ _ h1 h2) ▸ h3)
 ·have cross : ∀ nm nm' b, Ch nm -> ¬ Ch nm' -> Owns β' γ' ob' nm b -> Owns β γ ob nm' b -> False := fun nm nm' b hc hn h1 h2 => by
   rcases from_ nm b hc h1 with h | h | ⟨nm0, e, sz, n, get, o, h3, h4, h5⟩
   ·exact hn (H.excl nm nm' b h h2 ▸ hc)
   ·have := (H.apart nm' b h2).2; omega
   ·exact hn (H.excl nm0 nm' b (rowOwns _ _ _ _ _ _ _ h4 h5) h2 ▸ h3)
  by_cases hc : Ch nm
  ·by_cases hc' : Ch nm'
   ·exact excl nm nm' b hc hc' h1 h2
   ·exact (cross nm nm' b hc hc' h1 ((owns_same nm' hc' b).1 h2)).elim
  ·by_cases hc' : Ch nm'
   ·exact (cross nm' nm b hc' hc h2 ((owns_same nm hc b).1 h1)).elim
   ·exact H.excl nm nm' b ((owns_same nm hc b).1 h1) ((owns_same nm' hc' b).1 h2)
 ·by_cases hc : Ch nm
  ·exact obs nm o hc ho
  ·obtain ⟨h1, h2, h3⟩ := same nm hc
   rw [h1] at ho
   have hob := H.obs nm o ho
   refine hob.keep hF h2 h3 (fun b q hb => ?_) (fun s b hs hb => ?_) (fun cs hcs n hn => ?_)
   ·
    cases o with
    | box cs => exact hsame nm b hc (by simp only [Owns, ho]; exact ⟨q, hb⟩)
    | iter s p => exact hsame nm b hc (by simp only [Owns, ho]; exact ⟨q, hb⟩)
    | bld s =>
     obtain ⟨b', h5, _⟩ := hob
     rw [hb] at h5
     have hq : q = 0 := by injection h5 with h5; exact (Prod.mk.inj h5).2
     exact hsame nm b hc (by simp only [Owns, ho]; exact .inl (by rw [hb, hq]))
    | row k e2 sz n get =>
     cases k with
     | frz =>
      rcases hob with ⟨_, h6⟩ | ⟨b2, q2, cur2, e3, fr2, h6, _, _, _, _, h7⟩
      ·rw [hb] at h6; cases h6
      ·rw [hb] at h6
       have hbb : b = b2 := by injection h6 with h6; exact (Prod.mk.inj h6).1
       subst hbb
       exact (hF b (h7 rfl)).2
     | own => exact hsame nm b hc (by simp only [Owns, ho]; exact ⟨q, hb⟩)
     | win => exact hsame nm b hc (by simp only [Owns, ho]; exact ⟨q, hb⟩)
   ·subst hs
    exact hsame nm b hc (by simp only [Owns, ho]; exact .inr hb)
   ·subst hcs
    by_cases hcn : Ch n
    ·rcases keeps n hcn with h | h
     ·exact h
     ·exact absurd hn (h nm cs ho hc)
    ·exact keepsU n hcn
 ·rcases new b hb with h | h | ⟨nm, e, sz, n, get, o, _, h1, h2⟩
  ·exact .inl h
  ·exact .inr (.inl h.1)
  ·exact .inr (.inr ⟨nm, e, sz, n, get, o, h1, h2⟩)
 ·by_cases hc : Ch nm
  ·rcases from_ nm b hc ho with h | h | ⟨nm0, e, sz, n, get, o, _, h4, h5⟩
   ·exact .inl h
   ·exact .inr (.inl h)
   ·exact .inr (.inr ⟨nm0, e, sz, n, get, o, h4, h5⟩)
  ·exact .inl ((owns_same nm hc b).1 ho)
 ·by_cases hc : Ch nm
  ·exact own nm b o e sz n get hc h1 h2
  ·obtain ⟨h3, h4, _⟩ := same nm hc
   exact .inr ⟨nm, e, sz, n, get, o, by rw [<- h3]; exact h1, by rw [<- h4]; exact h2⟩
 ·by_cases hc : Ch nm
  ·exact held nm o0 hc hh hno
  ·obtain ⟨h1, h2, _⟩ := same nm hc
   exact ⟨o0, by rw [h1]; exact hh, Stays.refl hno, h2⟩
 ·by_cases hx : ∃ nm, Ch nm /\ Owns β γ ob nm b
  ·obtain ⟨nm, hc, ho⟩ := hx
   exact shp nm b hc ho cur e fr hh
  ·rw [heq b hb fun nm hc ho => hx ⟨nm, hc, ho⟩] at hh
   exact ⟨cur, fr, hh, rfl⟩
 ·by_cases hc : Ch nm
  ·exact outw nm _ _ _ _ b o hc hn hb _ _ _ _ _ _ h0 h1 i hi
  ·rw [hsame nm b hc (by simp only [Owns, hn]; exact ⟨o, hb⟩), h0] at h1
   cases h1
   rfl
end
end Go.DI
namespace Go.DI
open Go Go.RowKit
variable [Tabs]

section
variable {w w' : World} {F F' : Nat -> Prop} {β β' : Nat -> Option (Nat × Nat)} {γ γ' : Nat -> Option Nat} {ob ob' : Nat -> Option Ob}

theorem Shape.refl (o : Ob) : Shape o o := by cases o <;> simp [Shape]

theorem freeze1 (H : Heap w F β γ ob) {nm e sz n : Nat} {get : Nat -> List Dat} (h : ob nm = some (.row .own e sz n get)) (hob : ∀ t, ob' t = if nm = t then some (.row .frz e sz n get) else ob t) :
 Heap w (fun b => F b \/ ∃ o, β nm = some (b, o)) β γ ob' /\ Onto w F β γ ob w (fun b => F b \/ ∃ o, β nm = some (b, o)) β γ ob' := by
 have hn : ob' nm = some (.row .frz e sz n get) := by rw [hob, if_pos rfl]
 have hne : ∀ t, t ≠ nm -> ob' t = ob t := fun t ht => by rw [hob, if_neg (Ne.symm ht)]
 have noOwn : ∀ b, ¬ Owns β γ ob' nm b := fun b ho => by simp [Owns, hn] at ho
 refine (fun h => ⟨h.1, h.2.1⟩) (step H (fun t => t = nm) rfl rfl rfl (Nat.le_refl _) (fun _ _ _ => rfl) (fun t ht => ⟨hne t ht, rfl, rfl⟩) (fun b hb => .inl hb) (fun b hb => ?_) (fun t b ht ho => ?_) (fun t b ht ho => ?_)
  (fun t t' b ht ht' _ _ => by rw [ht, ht']) (fun t b o e sz n get ht h1 _ => ?_) (fun t o0 ht hh hno => ?_) (fun t b _ _ cur e fr hh => ⟨cur, fr, hh, rfl⟩) (fun t e sz n get b o _ _ _ cur0 e0 fr0 cur e1 fr h1 h2 => by rw [h1] at h2; cases h2; exact fun _ _ => rfl) (fun t ht => .inl ?_) (fun t o ht h1 => ?_))
 ·rcases hb with hb | ⟨o, ho⟩
  ·exact .inl hb
  ·exact .inr (.inr ⟨nm, e, sz, n, get, o, rfl, h, ho⟩)
 ·subst ht; exact (noOwn b ho).elim
 ·subst ht; exact (noOwn b ho).elim
 ·subst ht; rw [hn] at h1; cases h1
 ·subst ht; rw [h] at hh; cases hh; exact absurd rfl (hno _ _ _ _)
 ·subst ht
  intro o' h1
  rw [hn] at h1
  cases h1
  exact ⟨_, h, ⟨rfl, rfl, fun h => by cases h⟩, rfl, fun b q hb cur e fr hh => ⟨cur, e, fr, hh, rfl⟩⟩
 ·subst ht
  rw [hn] at h1
  cases h1
  rcases H.obs _ _ h with ⟨h1, h2⟩ | ⟨b, q, cur, e', fr, h1, h2, h3, h4, h5, h6⟩
  ·exact .inl ⟨h1, h2⟩
  ·refine .inr ⟨b, q, cur, e', fr, h1, h2, ⟨h3.1, fun j hj => ⟨(h3.2 j hj).1, fun i d hd => ?_⟩⟩, fun h => (by cases h), fun h => absurd rfl h, fun _ => .inr ⟨q, h1⟩⟩
   ·obtain ⟨u, hu, hr, ho⟩ := (h3.2 j hj).2 i d hd
    exact ⟨u, hu, hr.mono fun b hb => ⟨.inl hb, rfl⟩, ho⟩

theorem newOb (H : Heap w F β γ ob) {d : Nat} {o : Ob} (hd : ob d = none) (hfree : ∀ n cs, ob n = some (.box cs) -> d ∉ refsC cs)
 (os : w'.os = w.os) (tape : w'.tape = w.tape) (output : w'.output = w.output) (size : w.heap.size <= w'.heap.size) (heq : ∀ b, b < w.heap.size -> w'.heap[b]? = w.heap[b]?)
 (hob : ∀ t, ob' t = if d = t then some o else ob t) (hβ : ∀ t, d ≠ t -> β' t = β t) (hγ : ∀ t, d ≠ t -> γ' t = γ t)
 (more : ∀ b, F b -> F' b) (new : ∀ b, F' b -> F b \/ (w.heap.size <= b /\ b < w'.heap.size))
 (owns : ∀ b, Owns β' γ' ob' d b -> w.heap.size <= b /\ b < w'.heap.size /\ ¬ F' b) (rowB : ∀ b q, β' d = some (b, q) -> w.heap.size <= b)
 (rel : ObRel w' F' β' γ' ob' d o) : Heap w' F' β' γ' ob' /\ Onto w F β γ ob w' F' β' γ' ob' /\ (∀ t, t ≠ d -> Keeps w w' β β' ob ob' t) := by
 have hn : ob' d = some o := by rw [hob, if_pos rfl]
 have noOwn : ∀ b, ¬ Owns β γ ob d b := fun b ho => by simp [Owns, hd] at ho
 refine step H (fun t => t = d) os tape output size (fun b hb _ => heq b hb) (fun t ht => ⟨by rw [hob, if_neg (Ne.symm ht)], hβ t (Ne.symm ht), hγ t (Ne.symm ht)⟩) more (fun b hb => ?_) (fun t b ht ho => ?_) (fun t b ht ho => ?_)
  (fun t t' b ht ht' _ _ => by rw [ht, ht']) (fun t b q e sz n get ht h1 h2 => ?_) (fun t o0 ht hh _ => ?_) (fun t b ht ho => ?_) (fun t e sz n get b o ht h1 => ?_) (fun t ht => .inr ?_) (fun t o' ht h1 => ?_)
 ·rcases new b hb with h | h
  ·exact .inl h
  ·exact .inr (.inl h)
 ·subst ht; exact .inr (.inl (owns b ho).1)
 ·subst ht; exact ⟨(owns b ho).2.1, (owns b ho).2.2⟩
 ·subst ht; exact .inl (rowB b q h2)
 ·subst ht; rw [hd] at hh; cases hh
 ·subst ht; exact (noOwn b ho).elim
 ·subst ht; rw [hd] at h1; cases h1
 ·subst ht; exact fun n cs h _ => hfree n cs h
 ·subst ht; rw [hn] at h1; cases h1; exact rel

theorem modOb (H : Heap w F β γ ob) {nm : Nat} {o o' : Ob} (h : ob nm = some o) (hs : Shape o o') (hown : ∀ b, Owns β γ ob nm b ↔ Owns β γ ob' nm b)
 (os : w'.os = w.os) (tape : w'.tape = w.tape) (output : w'.output = w.output) (size : w'.heap.size = w.heap.size) (heq : ∀ b, ¬ Owns β γ ob nm b -> w'.heap[b]? = w.heap[b]?)
 (hcur : ∀ b, Owns β γ ob nm b -> ∀ cur e fr, w'.heap[b]? = some (.cells cur e fr) -> ∃ cur0 fr0, w.heap[b]? = some (.cells cur0 e fr0) /\ cur0.size = cur.size)
 (hout : ∀ e sz n get b q, o = .row .win e sz n get -> β nm = some (b, q) -> ∀ cur0 e0 fr0 cur e1 fr, w.heap[b]? = some (.cells cur0 e0 fr0) -> w'.heap[b]? = some (.cells cur e1 fr) -> ∀ i, (i < q \/ q + n * sz <= i) -> cur[i]? = cur0[i]?)
 (hob : ∀ t, ob' t = if nm = t then some o' else ob t) (held : NotOwn o -> Stays o o') (rowO : ∀ e sz n get, o' = .row .own e sz n get -> ∃ e sz n get, o = .row .own e sz n get)
 (rel : ObRel w' F β γ ob' nm o') : Heap w' F β γ ob' /\ Onto w F β γ ob w' F β γ ob' /\ (∀ t, Keeps w w' β β ob ob' t) := by
 have hn : ob' nm = some o' := by rw [hob, if_pos rfl]
 have hkn : Keeps w w' β β ob ob' nm := by
  intro o2 h2
  rw [hn] at h2
  cases h2
  refine ⟨o, h, hs, rfl, fun b q _ cur e fr hh => ?_⟩
  by_cases hx : Owns β γ ob nm b
  ·obtain ⟨cur0, fr0, h3, h4⟩ := hcur b hx cur e fr hh
   exact ⟨cur0, e, fr0, h3, h4⟩
  ·rw [heq b hx] at hh
   exact ⟨cur, e, fr, hh, rfl⟩
 refine (fun h => ⟨h.1, h.2.1, fun t => if e : t = nm then e ▸ hkn else h.2.2 t e⟩) (step H (fun t => t = nm) os tape output (by omega) (fun b hb hno => heq b (hno nm rfl)) (fun t ht => ⟨by rw [hob, if_neg (Ne.symm ht)], rfl, rfl⟩) (fun b hb => hb) (fun b hb => .inl hb) (fun t b ht ho => ?_) (fun t b ht ho => ?_)
  (fun t t' b ht ht' _ _ => by rw [ht, ht']) (fun t b q e sz n get ht h1 h2 => ?_) (fun t o0 ht hh hno => ?_) (fun t b ht ho => by subst ht; exact hcur b ho) (fun t e sz n get b q ht h1 hb => by subst ht; rw [h] at h1; cases h1; exact hout _ _ _ _ b q rfl hb) (fun t ht => .inl ?_) (fun t o2 ht h1 => ?_))
 ·subst ht; exact .inl ((hown b).2 ho)
 ·subst ht
  have := H.apart _ _ ((hown b).2 ho)
  exact ⟨by omega, this.1⟩
 ·subst ht
  rw [hn] at h1
  cases h1
  obtain ⟨e, sz, n, get, rfl⟩ := rowO _ _ _ _ rfl
  exact .inr ⟨_, e, sz, n, get, q, h, h2⟩
 ·subst ht; rw [h] at hh; cases hh; exact ⟨o', hn, held hno, rfl⟩
 ·subst ht; exact hkn
 ·subst ht; rw [hn] at h1; cases h1; exact rel

theorem moveOb (H : Heap w F β γ ob) {nm d : Nat} {e sz n e2 sz2 n2 : Nat} {get get2 : Nat -> List Dat} (h : ob nm = some (.row .own e sz n get)) (hd : ob d = none) (hfree : ∀ n cs, ob n = some (.box cs) -> d ∉ refsC cs)
 (os : w'.os = w.os) (tape : w'.tape = w.tape) (output : w'.output = w.output) (size : w.heap.size <= w'.heap.size) (heq : ∀ b, b < w.heap.size -> (∀ o, β nm ≠ some (b, o)) -> w'.heap[b]? = w.heap[b]?)
 (hob : ∀ t, ob' t = if d = t then some (.row .own e2 sz2 n2 get2) else if nm = t then none else ob t) (hβ : ∀ t, d ≠ t -> β' t = β t)
 (hB : ∀ b o, β' d = some (b, o) -> ((∃ o, β nm = some (b, o)) \/ w.heap.size <= b) /\ b < w'.heap.size)
 (hcur : ∀ b o, β nm = some (b, o) -> ∀ cur e fr, w'.heap[b]? = some (.cells cur e fr) -> ∃ cur0 fr0, w.heap[b]? = some (.cells cur0 e fr0) /\ cur0.size = cur.size)
 (rel : ObRel w' F β' γ ob' d (.row .own e2 sz2 n2 get2)) : Heap w' F β' γ ob' /\ Onto w F β γ ob w' F β' γ ob' /\ (∀ t, t ≠ d -> Keeps w w' β β' ob ob' t) := by
 have hdn : d ≠ nm := fun e => by rw [e, h] at hd; cases hd
 have h1 : ob' d = some (.row .own e2 sz2 n2 get2) := by rw [hob, if_pos rfl]
 have h2 : ob' nm = none := by rw [hob, if_neg hdn, if_pos rfl]
 have ownsNm : ∀ b, Owns β γ ob nm b ↔ ∃ o, β nm = some (b, o) := fun b => by simp [Owns, h]
 have ownsD : ∀ b, Owns β' γ ob' d b -> ∃ o, β' d = some (b, o) := fun b ho => by simpa [Owns, h1] using ho
 refine (fun h => ⟨h.1, h.2.1, fun t ht => if e : t = nm then (fun o' h5 => by rw [e, h2] at h5; cases h5) else h.2.2 t (fun hh => hh.elim e ht)⟩) (step H (fun t => t = nm \/ t = d) os tape output size (fun b hb hno => heq b hb fun o ho => hno nm (.inl rfl) ((ownsNm b).2 ⟨o, ho⟩)) (fun t ht => ?_) (fun b hb => hb) (fun b hb => .inl hb) (fun t b ht ho => ?_) (fun t b ht ho => ?_)
  (fun t t' b ht ht' ho ho' => ?_) (fun t b q e3 sz3 n3 get3 ht h3 h4 => ?_) (fun t o0 ht hh hno => ?_) (fun t b ht ho => ?_) (fun t e3 sz3 n3 get3 b q ht h3 => ?_) (fun t ht => ?_) (fun t o ht h3 => ?_))
 ·have h3 : d ≠ t := fun e => ht (.inr e.symm)
  have h4 : nm ≠ t := fun e => ht (.inl e.symm)
  exact ⟨by rw [hob, if_neg h3, if_neg h4], hβ t h3, rfl⟩
 ·rcases ht with rfl | rfl
  ·simp [Owns, h2] at ho
  ·obtain ⟨o, h5⟩ := ownsD b ho
   rcases (hB b o h5).1 with ⟨o', h6⟩ | h6
   ·exact .inr (.inr ⟨nm, e, sz, n, get, o', .inl rfl, h, h6⟩)
   ·exact .inr (.inl h6)
 ·rcases ht with rfl | rfl
  ·simp [Owns, h2] at ho
  ·obtain ⟨o, h5⟩ := ownsD b ho
   refine ⟨(hB b o h5).2, fun hf => ?_⟩
   rcases (hB b o h5).1 with ⟨o', h6⟩ | h6
   ·exact (H.apart nm b ((ownsNm b).2 ⟨o', h6⟩)).1 hf
   ·have := H.flt b hf; omega
 ·rcases ht with rfl | rfl
  ·simp [Owns, h2] at ho
  ·rcases ht' with rfl | rfl
   ·simp [Owns, h2] at ho'
   ·rfl
 ·rcases ht with rfl | rfl
  ·rw [h2] at h3; cases h3
  ·rcases (hB b q h4).1 with ⟨o', h6⟩ | h6
   ·exact .inr ⟨nm, e, sz, n, get, o', h, h6⟩
   ·exact .inl h6
 ·rcases ht with rfl | rfl
  ·rw [h] at hh; cases hh; exact absurd rfl (hno _ _ _ _)
  ·rw [hd] at hh; cases hh
 ·rcases ht with rfl | rfl
  ·obtain ⟨o, h5⟩ := (ownsNm b).1 ho
   exact hcur b o h5
  ·simp [Owns, hd] at ho
 ·rcases ht with rfl | rfl
  ·rw [h] at h3; cases h3
  ·rw [hd] at h3; cases h3
 ·rcases ht with rfl | rfl
  ·left
   intro o' h5
   rw [h2] at h5; cases h5
  ·right
   intro n cs h5 _
   exact hfree n cs h5
 ·rcases ht with rfl | rfl
  ·rw [h2] at h3; cases h3
  ·rw [h1] at h3; cases h3; exact rel
end

theorem lookO_append (u obs : Obs) (t : Nat) : lookO (u ++ obs) t = if t ∈ namesO u then lookO u t else lookO obs t := by
 induction u with
 | nil => simp [namesO]
 | cons x u ih =>
  obtain ⟨s, v⟩ := x
  rw [List.cons_append, lookO_cons, ih, lookO_cons]
  simp only [namesO, List.mem_cons]
  by_cases h : s = t
  ·subst h; simp
  ·simp [h, Ne.symm h]

section
variable {w : World} {γ : Nat -> Option Nat} {β : Nat -> Option (Nat × Nat)}

theorem row_dat {F : Nat -> Prop} {ob : Nat -> Option Ob} {nm e sz n : Nat} {get : Nat -> List Dat} {v : Value} (H : Heap w F β γ ob) (h : ob nm = some (.row .frz e sz n get)) (hr : CRel w F β ob (.own nm) v) : DRel w F (.fro sz n get) v := by
 simp only [CRel, h] at hr
 obtain ⟨_, hr⟩ := hr
 rcases H.obs _ _ h with ⟨h1, h2⟩ | ⟨b, q, cur, e', fr, h1, h2, h3, h4, h5, h6⟩
 ·subst h1
  rcases hr with ⟨_, _, _, rfl⟩ | ⟨b, o, cap, g1, g2, g3, g4, g5⟩
  ·exact .fro0 _ _ _ _
  ·rw [h2] at g1; cases g1
 ·rcases hr with ⟨g1, _⟩ | ⟨b', o, cap, g1, g2, g3, g4, g5⟩
  ·rw [h1] at g1; cases g1
  ·rw [h1] at g1
   obtain ⟨rfl, rfl⟩ := Prod.mk.inj (Option.some.inj g1)
   subst g2
   have hc : ∀ j i, j < n -> i < sz -> ∃ u, w.cell? ((⟨b, q + 0 * sz, none⟩ : Addr).add (j * sz + i)) = some u /\ ∀ d, (get j)[i]? = some d -> DRel w F d u := fun j i hj hi => by
    obtain ⟨l1, l2⟩ := h3.2 j hj
    obtain ⟨u, u1, u2, u3⟩ := l2 i ((get j)[i]'(by omega)) (List.getElem?_eq_getElem (by omega))
    refine ⟨u, ?_, fun d hd => ?_⟩
    ·rw [Addr.add_lit, cell_of_row w b _ cur e' fr h2]
     simpa [Nat.add_assoc] using u1
    ·obtain ⟨u', v1, v2, v3⟩ := l2 i d hd
     rw [u1] at v1
     cases v1
     exact v2
   refine .fro sz n get _ cap (fun j i => if h : j < n /\ i < sz then Classical.choose (hc j i h.1 h.2) else undef) (h6 rfl) g3 (fun j hj => (h3.2 j hj).1) (fun j i hj hi => ?_) (fun j i d hj hd => ?_)
   ·simp only [hj, hi, and_self, dite_true]
    exact (Classical.choose_spec (hc j i hj hi)).1
   ·have hi : i < sz := by
     have := (List.getElem?_eq_some_iff.1 hd).1
     rw [(h3.2 j hj).1] at this
     exact this
    simp only [hj, hi, and_self, dite_true]
    exact (Classical.choose_spec (hc j i hj hi)).2 d hd

theorem Keeps.freeze {ob ob' : Nat -> Option Ob} {nm e sz n : Nat} {get : Nat -> List Dat} (h : ob nm = some (.row .own e sz n get)) (hob : ∀ t, ob' t = if nm = t then some (.row .frz e sz n get) else ob t) (t : Nat) : Keeps w w β β ob ob' t := by
 intro o' ho
 rw [hob] at ho
 by_cases hn : nm = t
 ·subst hn
  rw [if_pos rfl] at ho
  cases ho
  exact ⟨_, h, ⟨rfl, rfl, fun h => by cases h⟩, rfl, fun b q hb cur e fr hh => ⟨cur, e, fr, hh, rfl⟩⟩
 ·rw [if_neg hn] at ho
  exact ⟨o', ho, Shape.refl o', rfl, fun b q hb cur e fr hh => ⟨cur, e, fr, hh, rfl⟩⟩

theorem Shape.trans {a b c : Ob} (h : Shape a b) (k : Shape b c) : Shape a c := by
 cases b with
 | box cs => cases a <;> first | exact h.elim | (cases c <;> first | exact k.elim | trivial)
 | iter s p => cases a <;> first | exact h.elim | (cases c <;> first | exact k.elim | trivial)
 | bld s => cases a <;> first | exact h.elim | (cases c <;> first | exact k.elim | trivial)
 | row k2 e sz n get =>
  cases a <;> first | exact h.elim | skip
  cases c <;> first | exact k.elim | skip
  obtain ⟨h1, h2, h3⟩ := h
  obtain ⟨k1, k2, k3⟩ := k
  exact ⟨k1.trans h1, k2.trans h2, fun e => h3 (k3 e)⟩
theorem Keeps.trans {w1 w2 w3 : World} {β1 β2 β3 : Nat -> Option (Nat × Nat)} {o1 o2 o3 : Nat -> Option Ob} {t : Nat} (h : Keeps w1 w2 β1 β2 o1 o2 t) (k : Keeps w2 w3 β2 β3 o2 o3 t) : Keeps w1 w3 β1 β3 o1 o3 t := by
 intro c hc
 obtain ⟨b, hb, s1, b1, q1⟩ := k c hc
 obtain ⟨a, ha, s2, b2, q2⟩ := h b hb
 refine ⟨a, ha, s2.trans s1, b1.trans b2, fun x q hx cur e fr hh => ?_⟩
 ·obtain ⟨cur0, e0, fr0, h1, h2⟩ := q1 x q (by rw [b2]; exact hx) cur e fr hh
  obtain ⟨cur1, e1, fr1, h3, h4⟩ := q2 x q hx cur0 e0 fr0 h1
  exact ⟨cur1, e1, fr1, h3, by omega⟩

structure Frz (w : World) (β : Nat -> Option (Nat × Nat)) (γ : Nat -> Option Nat) (obs : Obs) (F : Nat -> Prop) (cs : List Cl) (u : Obs) (F' : Nat -> Prop) : Prop where
 heap : Heap w F' β γ (lookO (u ++ obs))
 onto : Onto w F β γ (lookO obs) w F' β γ (lookO (u ++ obs))
 keeps : ∀ t, Keeps w w β β (lookO obs) (lookO (u ++ obs)) t
 done : ∀ nm e sz n get, .own nm ∈ cs -> lookO obs nm = some (.row .own e sz n get) -> lookO (u ++ obs) nm = some (.row .frz e sz n get)
 same : ∀ nm, lookO (u ++ obs) nm = lookO obs nm \/ ∃ e sz n get, lookO obs nm = some (.row .own e sz n get) /\ lookO (u ++ obs) nm = some (.row .frz e sz n get)

theorem freezeAll (obs : Obs) (F : Nat -> Prop) (H : Heap w F β γ (lookO obs)) : ∀ (cs : List Cl), ∃ F' : Nat -> Prop, Frz w β γ obs F cs (rowsIn obs cs) F'
 | [] => ⟨F, H, Onto.refl _ _ _ _ _, fun t => Keeps.refl _ _ _ _, fun nm _ _ _ _ h => (by cases h), fun nm => .inl rfl⟩
 | c :: cs => by
  obtain ⟨F1, Z⟩ := freezeAll obs F H cs
  have plain : rowsIn obs (c :: cs) = rowsIn obs cs -> (∀ nm e sz n get, c = .own nm -> lookO obs nm = some (.row .own e sz n get) -> lookO (rowsIn obs cs ++ obs) nm = some (.row .frz e sz n get)) ->
   ∃ F' : Nat -> Prop, Frz w β γ obs F (c :: cs) (rowsIn obs (c :: cs)) F' := fun h hc => by
   rw [h]
   refine ⟨F1, Z.heap, Z.onto, Z.keeps, fun nm e sz n get hm hl => ?_, Z.same⟩
   rcases List.mem_cons.1 hm with h2 | h2
   ·exact hc nm e sz n get h2.symm hl
   ·exact Z.done nm e sz n get h2 hl
  cases c with
  | own nm =>
   cases ho : lookO obs nm with
   | none => exact plain (by simp [rowsIn, ho]) (fun nm' e sz n get h1 h2 => by cases h1; rw [ho] at h2; cases h2)
   | some o =>
    cases o with
    | row k e sz n get =>
     cases k with
     | own =>
      have hl : rowsIn obs (.own nm :: cs) = (nm, some (.row .frz e sz n get)) :: rowsIn obs cs := by simp [rowsIn, ho]
      have hob : ∀ t, lookO (rowsIn obs (.own nm :: cs) ++ obs) t = if nm = t then some (.row .frz e sz n get) else lookO (rowsIn obs cs ++ obs) t := fun t => by
       rw [hl, List.cons_append, lookO_cons]
      rcases Z.same nm with h1 | ⟨e', sz', n', get', h1, h2⟩
      ·have h3 : lookO (rowsIn obs cs ++ obs) nm = some (.row .own e sz n get) := by rw [h1]; exact ho
       obtain ⟨H2, O2⟩ := freeze1 Z.heap h3 hob
       refine ⟨_, H2, Z.onto.trans O2, fun t => (Z.keeps t).trans (Keeps.freeze h3 hob t), fun nm' e' sz' n' get' hm hlk => ?_, fun t => ?_⟩
       ·rw [hob]
        by_cases hx : nm = nm'
        ·subst hx
         rw [if_pos rfl]
         rw [ho] at hlk
         cases hlk
         rfl
        ·rw [if_neg hx]
         rcases List.mem_cons.1 hm with h4 | h4
         ·cases h4; exact absurd rfl hx
         ·exact Z.done nm' e' sz' n' get' h4 hlk
       ·rw [hob]
        by_cases hx : nm = t
        ·subst hx
         rw [if_pos rfl]
         exact .inr ⟨e, sz, n, get, ho, rfl⟩
        ·rw [if_neg hx]; exact Z.same t
      ·rw [ho] at h1
       cases h1
       have hob2 : lookO (rowsIn obs (.own nm :: cs) ++ obs) = lookO (rowsIn obs cs ++ obs) := funext fun t => by
        rw [hob]
        by_cases hx : nm = t
        ·subst hx; rw [if_pos rfl, h2]
        ·rw [if_neg hx]
       refine ⟨F1, by rw [hob2]; exact Z.heap, by rw [hob2]; exact Z.onto, by rw [hob2]; exact Z.keeps, fun nm' e' sz' n' get' hm hlk => ?_, by rw [hob2]; exact Z.same⟩
       rw [hob2]
       rcases List.mem_cons.1 hm with h4 | h4
       ·cases h4; rw [ho] at hlk; cases hlk; exact h2
       ·exact Z.done nm' e' sz' n' get' h4 hlk
     | win => exact plain (by simp [rowsIn, ho]) (fun nm' e sz n get h1 h2 => by cases h1; rw [ho] at h2; cases h2)
     | frz => exact plain (by simp [rowsIn, ho]) (fun nm' e sz n get h1 h2 => by cases h1; rw [ho] at h2; cases h2)
    | box _ => exact plain (by simp [rowsIn, ho]) (fun nm' e sz n get h1 h2 => by cases h1; rw [ho] at h2; cases h2)
    | iter _ _ => exact plain (by simp [rowsIn, ho]) (fun nm' e sz n get h1 h2 => by cases h1; rw [ho] at h2; cases h2)
    | bld _ => exact plain (by simp [rowsIn, ho]) (fun nm' e sz n get h1 h2 => by cases h1; rw [ho] at h2; cases h2)
  | d _ => exact plain rfl (fun nm' e sz n get h1 _ => by cases h1)
  | vw _ _ _ => exact plain rfl (fun nm' e sz n get h1 _ => by cases h1)
  | nils => exact plain rfl (fun nm' e sz n get h1 _ => by cases h1)
  | ptr _ _ => exact plain rfl (fun nm' e sz n get h1 _ => by cases h1)
  | rp _ _ _ => exact plain rfl (fun nm' e sz n get h1 _ => by cases h1)
  | pf _ => exact plain rfl (fun nm' e sz n get h1 _ => by cases h1)
  | z => exact plain rfl (fun nm' e sz n get h1 _ => by cases h1)
  | u => exact plain rfl (fun nm' e sz n get h1 _ => by cases h1)

def DsRel (w : World) (F : Nat -> Prop) : List Dat -> List Value -> Prop
 | [], [] => True
 | d :: ds, v :: vs => DRel w F d v /\ DsRel w F ds vs
 | _, _ => False

theorem isWin_cons {obs : Obs} {c : Cl} {cs : List Cl} (h : isWin obs (c :: cs) = false) : isWin obs [c] = false /\ isWin obs cs = false := by
 cases c with
 | own nm =>
  simp only [isWin] at h ⊢
  cases ho : lookO obs nm with
  | none => simp [ho] at h ⊢; exact h
  | some o => cases o with
   | row k e sz n get => cases k <;> simp [ho] at h ⊢ <;> exact h
   | _ => simp [ho] at h ⊢; exact h
 | _ => simpa [isWin] using h

theorem dat_of_frz {obs : Obs} {F F' : Nat -> Prop} {all : List Cl} {u : Obs} (Z : Frz w β γ obs F all u F') {c : Cl} (hc : c ∈ all) (hw : isWin obs [c] = false) {d : Dat} (hd : datOf obs c = some d) {v : Value} (hr : CRel w F β (lookO obs) c v) : DRel w F' d v := by
 cases c with
 | d x =>
  simp only [datOf, Option.some.injEq] at hd
  subst hd
  exact DRel.mono (fun b hb => ⟨Z.onto.more b hb, rfl⟩) hr
 | nils =>
  simp only [datOf, Option.some.injEq] at hd
  subst hd
  simp only [CRel] at hr
  subst hr
  exact .fro0 _ _ _ _
 | own nm =>
  simp only [datOf] at hd
  cases ho : lookO obs nm with
  | none => simp [ho] at hd
  | some o => cases o with
   | row k e sz n get =>
    simp [ho] at hd
    subst hd
    have hk : lookO (u ++ obs) nm = some (.row .frz e sz n get) := by
     cases k with
     | own => exact Z.done nm e sz n get hc ho
     | win => simp [isWin, ho] at hw
     | frz =>
      rcases Z.same nm with h | ⟨_, _, _, _, h, _⟩
      ·rw [h]; exact ho
      ·rw [ho] at h; cases h
    exact row_dat Z.heap hk (CRel.keep (fun b hb => ⟨Z.onto.more b hb, rfl⟩) (fun nm _ => Z.keeps nm) hr)
   | _ => simp [ho] at hd
 | _ => simp [datOf] at hd

theorem dats_of_frz {obs : Obs} {F F' : Nat -> Prop} {all : List Cl} {u : Obs} (Z : Frz w β γ obs F all u F') : ∀ (cs : List Cl) (ds : List Dat) (vs : List Value), (∀ c ∈ cs, c ∈ all) -> isWin obs cs = false -> datsOf obs cs = some ds -> CsRel w F β (lookO obs) cs vs -> DsRel w F' ds vs
 | [], ds, [], _, _, hd, _ => by simp [datsOf] at hd; subst hd; trivial
 | [], _, _ :: _, _, _, _, h => h.elim
 | _ :: _, _, [], _, _, _, h => h.elim
 | c :: cs, ds, v :: vs, hm, hw, hd, h => by
  obtain ⟨h1, h2⟩ := isWin_cons hw
  simp only [datsOf] at hd
  cases hx : datOf obs c with
  | none => simp [hx] at hd
  | some d =>
   cases hy : datsOf obs cs with
   | none => simp [hx, hy] at hd
   | some es =>
    simp [hx, hy] at hd
    subst hd
    exact ⟨dat_of_frz Z (hm c List.mem_cons_self) h1 hx h.1, dats_of_frz Z cs es vs (fun c hc => hm c (List.mem_cons_of_mem _ hc)) h2 hy h.2⟩
end
end Go.DI
namespace Go.DI
open Go Go.RowKit
variable [Tabs]

section
variable {P : Program} {w : World} {F : Nat -> Prop} {β : Nat -> Option (Nat × Nat)} {γ : Nat -> Option Nat} {obs : Obs} {env : Env} {a : Act}

def EnvOk (w : World) (F : Nat -> Prop) (β : Nat -> Option (Nat × Nat)) (obs : Obs) (env : Env) (a : Act) : Prop :=
 (∀ t, TRel w F β (lookO obs) (look env t) (a.tmps.getD t undef)) /\ TabOk w F

def Good (P : Program) (w : World) (F : Nat -> Prop) (β : Nat -> Option (Nat × Nat)) (γ : Nat -> Option Nat) (obs : Obs) (env : Env) (a : Act) (o : Oper) (e : Eff) : Prop :=
 ∃ nx v w' F' β' γ', (execOp a.eval o).run P w = .ok nx w' /\ (nx = .value v \/ (nx = .skip /\ v = undef)) /\ Heap w' F' β' γ' (lookO (e.upd ++ obs)) /\
  Onto w F β γ (lookO obs) w' F' β' γ' (lookO (e.upd ++ obs)) /\ TRel w' F' β' (lookO (e.upd ++ obs)) e.val v /\ EnvOk w' F' β' (e.upd ++ obs) env a

theorem crel_ofCell (w : World) (F : Nat -> Prop) (β : Nat -> Option (Nat × Nat)) (ob : Nat -> Option Ob) (v : Value) : CRel w F β ob (ofCell v) v := by
 unfold ofCell
 split <;> first | exact .bool _ | exact .int _ _ | exact .str _ | exact .nilp | rfl | trivial

theorem csrel_ofCell (w : World) (F : Nat -> Prop) (β : Nat -> Option (Nat × Nat)) (ob : Nat -> Option Ob) : ∀ vs : List Value, CsRel w F β ob (vs.map ofCell) vs
 | [] => trivial
 | v :: vs => ⟨crel_ofCell w F β ob v, csrel_ofCell w F β ob vs⟩

theorem trel_ofConst (w : World) (F : Nat -> Prop) (β : Nat -> Option (Nat × Nat)) (ob : Nat -> Option Ob) (v : Value) : TRel w F β ob (ofConst v) v := by
 cases v with
 | agg cs =>
  simp only [ofConst]
  cases h : cs.toList.all (·.oneCell') with
  | false => simp only [cond_false]; rw [TRel]; trivial
  | true =>
   simp only [cond_true]
   rw [TRel]
   exact ⟨cs, rfl, csrel_ofCell w F β ob _, fun u hu => List.all_eq_true.1 h u hu⟩
 | tuple vs =>
  obtain ⟨l⟩ := vs
  cases l with
  | nil => show TRel w F β ob (.tup []) _; rw [TRel]; exact ⟨#[], rfl, by rw [TsRel]; trivial⟩
  | cons x l => show TRel w F β ob (.c .u) _; rw [TRel]; trivial
 | _ => simp only [ofConst]; rw [TRel]; exact crel_ofCell w F β ob _

theorem evalO_rel (E : EnvOk w F β obs env a) (x : Operand) : TRel w F β (lookO obs) (evalO env x) (a.eval x) := by
 cases x with
 | tmp t => exact E.1 t
 | const v => exact trel_ofConst w F β _ v
 | global g =>
  simp only [evalO]
  cases hg : tabOf g Tabs.tab with
  | none => simp only; rw [TRel]; trivial
  | some ds =>
   simp only
   rw [TRel]
   obtain ⟨h1, cell, h2⟩ := E.2 g ds hg
   exact ⟨_, cell, rfl, h1, h2⟩
 | func f => show TRel w F β (lookO obs) (.c .u) _; rw [TRel]; trivial

theorem Good.pure {o : Oper} {v : Value} {val : TV} {rd : List Nat} {q : Option Prop} (H : Heap w F β γ (lookO obs)) (E : EnvOk w F β obs env a)
 (hr : (execOp a.eval o).run P w = .ok (.value v) w) (ht : TRel w F β (lookO obs) val v) : Good P w F β γ obs env a o ⟨val, [], rd, q⟩ :=
 ⟨.value v, v, w, F, β, γ, hr, .inl rfl, H, Onto.refl _ _ _ _ _, ht, E⟩

theorem trel_d {d : Dat} {v : Value} (h : DRel w F d v) : TRel w F β (lookO obs) (.c (.d d)) v := by rw [TRel]; exact h
theorem of_trel_d {ob : Nat -> Option Ob} {d : Dat} {v : Value} (h : TRel w F β ob (.c (.d d)) v) : DRel w F d v := by rw [TRel] at h; exact h
theorem of_int {ob : Nat -> Option Ob} {k : IntKind} {n : Int} {v : Value} (h : TRel w F β ob (.c (.d (.int k n))) v) : v = .int k n := by cases of_trel_d h; rfl
theorem of_bool {ob : Nat -> Option Ob} {b : Bool} {v : Value} (h : TRel w F β ob (.c (.d (.bool b))) v) : v = .bool b := by cases of_trel_d h; rfl
theorem of_str {ob : Nat -> Option Ob} {s : ByteArray} {v : Value} (h : TRel w F β ob (.c (.d (.str s))) v) : v = .string s := by cases of_trel_d h; rfl
theorem of_agg {ob : Nat -> Option Ob} {cs : List Cl} {v : Value} (h : TRel w F β ob (.agg cs) v) : ∃ vs : Array Value, v = .agg vs /\ CsRel w F β ob cs vs.toList /\ ∀ u ∈ vs.toList, u.oneCell' = true := by rw [TRel] at h; exact h
theorem of_tup {ob : Nat -> Option Ob} {ts : List TV} {v : Value} (h : TRel w F β ob (.tup ts) v) : ∃ vs : Array Value, v = .tuple vs /\ TsRel w F β ob ts vs.toList := by rw [TRel] at h; exact h
theorem of_c {ob : Nat -> Option Ob} {c : Cl} {v : Value} (h : TRel w F β ob (.c c) v) : CRel w F β ob c v := by rw [TRel] at h; exact h

theorem CsRel.length {ob : Nat -> Option Ob} : ∀ {cs : List Cl} {vs : List Value}, CsRel w F β ob cs vs -> cs.length = vs.length
 | [], [], _ => rfl
 | [], _ :: _, h => h.elim
 | _ :: _, [], h => h.elim
 | _ :: cs, _ :: vs, h => by simp [CsRel.length h.2]
theorem CsRel.get {ob : Nat -> Option Ob} : ∀ {cs : List Cl} {vs : List Value}, CsRel w F β ob cs vs -> ∀ (i : Nat) c, cs[i]? = some c -> ∃ v, vs[i]? = some v /\ CRel w F β ob c v
 | [], [], _, i, c, h => by simp at h
 | [], _ :: _, h, _, _, _ => h.elim
 | _ :: _, [], h, _, _, _ => h.elim
 | x :: cs, v :: vs, h, 0, c, hc => by simp at hc; subst hc; exact ⟨v, by simp, h.1⟩
 | _ :: cs, _ :: vs, h, i + 1, c, hc => by simpa using CsRel.get h.2 i c (by simpa using hc)
theorem CsRel.drop {ob : Nat -> Option Ob} : ∀ {cs : List Cl} {vs : List Value} (n : Nat), CsRel w F β ob cs vs -> CsRel w F β ob (cs.drop n) (vs.drop n)
 | _, _, 0, h => h
 | [], [], _ + 1, _ => trivial
 | [], _ :: _, _, h => h.elim
 | _ :: _, [], _, h => h.elim
 | _ :: cs, _ :: vs, n + 1, h => CsRel.drop n h.2
theorem CsRel.take {ob : Nat -> Option Ob} : ∀ {cs : List Cl} {vs : List Value} (n : Nat), CsRel w F β ob cs vs -> CsRel w F β ob (cs.take n) (vs.take n)
 | [], [], n, _ => by simp [CsRel]
 | [], _ :: _, _, h => h.elim
 | _ :: _, [], _, h => h.elim
 | _ :: _, _ :: _, 0, _ => trivial
 | _ :: cs, _ :: vs, n + 1, h => ⟨h.1, CsRel.take n h.2⟩
theorem CsRel.append {ob : Nat -> Option Ob} : ∀ {cs : List Cl} {vs : List Value} {cs' : List Cl} {vs' : List Value}, CsRel w F β ob cs vs -> CsRel w F β ob cs' vs' -> CsRel w F β ob (cs ++ cs') (vs ++ vs')
 | [], [], _, _, _, h' => h'
 | [], _ :: _, _, _, h, _ => h.elim
 | _ :: _, [], _, _, h, _ => h.elim
 | _ :: cs, _ :: vs, _, _, h, h' => ⟨h.1, CsRel.append h.2 h'⟩
theorem CsRel.over {ob : Nat -> Option Ob} {cs new : List Cl} {vs nv : List Value} (off : Nat) (h : CsRel w F β ob cs vs) (hn : CsRel w F β ob new nv) : CsRel w F β ob (over off new cs) (vs.take off ++ nv ++ vs.drop (off + nv.length)) := by
 unfold DI.over
 rw [hn.length]
 exact ((h.take off).append hn).append (h.drop _)

theorem cells_rel {ob : Nat -> Option Ob} {t : TV} {cs : List Cl} {v : Value} (h : TRel w F β ob t v) (hc : cellsOf t = some cs) : CsRel w F β ob cs v.cells.toList /\ ∀ u ∈ v.cells.toList, u.oneCell' = true := by
 cases t with
 | c c =>
  have hr := of_c h
  have one : v.oneCell' = true -> CRel w F β ob c v -> CsRel w F β ob [c] v.cells.toList /\ ∀ u ∈ v.cells.toList, u.oneCell' = true := fun ho hr => by
   have : v.cells = #[v] := by cases v <;> simp [Value.oneCell', Value.cells] at ho ⊢
   rw [this]
   exact ⟨⟨hr, trivial⟩, fun u hu => by simp at hu; subst hu; exact ho⟩
  cases c with
  | u => simp [cellsOf] at hc
  | z => simp [cellsOf] at hc
  | d d => simp [cellsOf] at hc; subst hc; exact one (DRel.oneCell hr) hr
  | nils => simp [cellsOf] at hc; subst hc; exact one (by simp only [CRel] at hr; subst hr; rfl) hr
  | pf ds =>
   simp [cellsOf] at hc; subst hc
   obtain ⟨A, cell, h1, _⟩ := hr
   exact one (by subst h1; rfl) ⟨A, cell, h1, by assumption⟩
  | own nm => simp [cellsOf] at hc; subst hc; exact one hr.1 hr
  | vw nm off len => simp [cellsOf] at hc; subst hc; exact one hr.1 hr
  | ptr nm off => simp [cellsOf] at hc; subst hc; exact one hr.1 hr
  | rp nm el off => simp [cellsOf] at hc; subst hc; exact one hr.1 hr
 | agg cs' =>
  simp [cellsOf] at hc
  subst hc
  obtain ⟨vs, rfl, h1, h2⟩ := of_agg h
  exact ⟨h1, h2⟩
 | tup ts => simp [cellsOf] at hc

theorem drop_cons {α : Type} {l : List α} {n : Nat} {x : α} {r : List α} (h : l.drop n = x :: r) : l[n]? = some x := by
 have := congrArg List.head? h
 simpa [List.head?_drop] using this

theorem part_rel {ob : Nat -> Option Ob} {cs : List Cl} {vs : List Value} {t off : Nat} {v : TV} (h : CsRel w F β ob cs vs) (h1 : ∀ u ∈ vs, u.oneCell' = true) (hp : partOf P t cs off = some v) :
 (isAggT P t = true /\ off + P.cellsOf t <= vs.length /\ ∃ x : Array Value, x.toList = (vs.drop off).take (P.cellsOf t) /\ TRel w F β ob v (.agg x)) \/ (isAggT P t = false /\ ∃ u, vs[off]? = some u /\ TRel w F β ob v u) := by
 unfold partOf at hp
 cases hA : isAggT P t with
 | true =>
  left
  simp only [hA, if_true] at hp
  split at hp
  ·rename_i hle
   injection hp with hp
   subst hp
   refine ⟨rfl, by rw [<- h.length]; exact hle, ((vs.drop off).take (P.cellsOf t)).toArray, rfl, ?_⟩
   rw [TRel]
   exact ⟨_, rfl, (h.drop off).take _, fun u hu => h1 u (List.mem_of_mem_drop (List.mem_of_mem_take hu))⟩
  ·cases hp
 | false =>
  right
  simp only [hA] at hp
  cases hd : cs.drop off with
  | nil => simp [hd] at hp
  | cons c r =>
   simp [hd] at hp
   subst hp
   obtain ⟨u, hu, hr⟩ := h.get off c (drop_cons hd)
   exact ⟨rfl, u, hu, by rw [TRel]; exact hr⟩
end
end Go.DI
namespace Go.DI
open Go Go.RowKit
variable [Tabs]

section
variable {P : Program} {w : World} {F : Nat -> Prop} {β : Nat -> Option (Nat × Nat)} {γ : Nat -> Option Nat} {obs : Obs} {env : Env} {a : Act} {o : Oper} {sup : Option Sup} {e : Eff}

theorem eff_inj {v : TV} {rd : List Nat} (h : eff v rd = some e) : e = ⟨v, [], rd, none⟩ := by cases h; rfl
theorem effR_inj {v : TV} {q : Prop} {rd : List Nat} (h : effR v q rd = some e) : e = ⟨v, [], rd, some q⟩ := by cases h; rfl

theorem good_move {x : Operand} (H : Heap w F β γ (lookO obs)) (E : EnvOk w F β obs env a) (ho : o.op = .move x \/ o.op = .assign x) (h : exec P env obs o sup = some e) : Good P w F β γ obs env a o e := by
 have he : e = ⟨evalO env x, [], [], none⟩ := by rcases ho with ho | ho <;> (unfold exec at h; simp only [ho] at h; exact eff_inj h)
 subst he
 exact Good.pure H E (by rcases ho with ho | ho <;> simp [execOp, ho]) (evalO_rel E x)

theorem good_pick {c x y : Operand} (H : Heap w F β γ (lookO obs)) (E : EnvOk w F β obs env a) (ho : o.op = .pick c x y) (h : exec P env obs o sup = some e) : Good P w F β γ obs env a o e := by
 unfold exec at h
 simp only [ho] at h
 have hc := evalO_rel E c
 split at h
 ·rename_i hb
  rw [hb] at hc
  rw [eff_inj h]
  exact Good.pure H E (by simp [execOp, ho, of_bool hc, asBool]) (evalO_rel E x)
 ·rename_i hb
  rw [hb] at hc
  rw [eff_inj h]
  exact Good.pure H E (by simp [execOp, ho, of_bool hc, asBool]) (evalO_rel E y)
 ·cases h

theorem good_extract {x : Operand} {i : Nat} (H : Heap w F β γ (lookO obs)) (E : EnvOk w F β obs env a) (ho : o.op = .extract x i) (h : exec P env obs o sup = some e) : Good P w F β γ obs env a o e := by
 unfold exec at h
 simp only [ho] at h
 have hx := evalO_rel E x
 split at h
 ·rename_i ts ht
  rw [ht] at hx
  obtain ⟨vs, hv, hr⟩ := of_tup hx
  split at h
  ·rename_i v hi
   rw [eff_inj h]
   have key : ∀ (ts : List TV) (vs : List Value) (i : Nat) (v : TV), TsRel w F β (lookO obs) ts vs -> ts[i]? = some v -> ∃ u, vs[i]? = some u /\ TRel w F β (lookO obs) v u := by
    intro ts
    induction ts with
    | nil => intro vs i v _ h; simp at h
    | cons t ts ih =>
     intro vs i v hr h
     cases vs with
     | nil => rw [TsRel] at hr; exact hr.elim; all_goals simp
     | cons u vs =>
      rw [TsRel] at hr
      cases i with
      | zero => simp at h; subst h; exact ⟨u, by simp, hr.1⟩
      | succ i => simpa using ih vs i v hr.2 (by simpa using h)
   obtain ⟨u, hu, hr'⟩ := key ts vs.toList i v hr hi
   exact Good.pure H E (by
    have : vs[i]? = some u := by simpa using hu
    simp [execOp, ho, hv, Instr.extract, this]) hr'
  ·cases h
 ·cases h

theorem good_nilCheck {x : Operand} (H : Heap w F β γ (lookO obs)) (E : EnvOk w F β obs env a) (ho : o.op = .nilCheck x) (h : exec P env obs o sup = some e) : Good P w F β γ obs env a o e := by
 unfold exec at h
 simp only [ho] at h
 have hx := evalO_rel E x
 split at h
 ·rename_i nm off ht
  split at h
  ·rename_i ob hob
   rw [eff_inj h]
   rw [ht] at hx
   have hx' := hx
   rw [TRel] at hx'
   simp only [CRel, hob] at hx'
   obtain ⟨_, b, _, hv⟩ := hx'
   exact Good.pure H E (by simp [execOp, ho, hv]) hx
  ·cases h
 ·cases h

theorem cellsOf_info {t : TypeId} (h : P.cellsOf t ≠ 0) : ∃ i, P.info? t = some i /\ i.size = P.cellsOf t := by
 unfold Program.cellsOf at h ⊢
 cases hi : P.info? t with
 | none => simp [hi] at h
 | some i => exact ⟨i, rfl, by simp⟩

theorem fieldOf_some {t f : Nat} {fd : Field} (h : fieldOf P t f = some fd) : ∃ fs, P.underlying t = some (.struct fs) /\ fs[f]? = some fd := by
 unfold fieldOf at h
 split at h
 ·rename_i fs hu; exact ⟨fs, hu, h⟩
 ·cases h

theorem good_fieldAddr {t : TypeId} {x : Operand} {f : Nat} (H : Heap w F β γ (lookO obs)) (E : EnvOk w F β obs env a) (ho : o.op = .fieldAddr t x f) (h : exec P env obs o sup = some e) : Good P w F β γ obs env a o e := by
 unfold exec at h
 simp only [ho] at h
 have hx := evalO_rel E x
 split at h
 ·rename_i fd hf
  obtain ⟨fs, hu, hfs⟩ := fieldOf_some hf
  split at h
  ·cases h
  ·rename_i hsz
   obtain ⟨i, hi, his⟩ := cellsOf_info hsz
   have run : ∀ A : Addr, a.eval x = .pointer (some A) -> (execOp a.eval o).run P w = .ok (.value (.pointer (some (A.add fd.offset)))) w := fun A hA => by
    have : ¬ i.size = 0 := by rw [his]; exact hsz
    simp [execOp, ho, Instr.fieldAt, hA, run_underlying hu, hfs, Instr.sureAddr, fieldPlace, sizeOf, typeInfo, hi, this]
   split at h
   ·rename_i nm off ht
    split at h
    ·rename_i ob hob
     rw [eff_inj h]
     rw [ht, TRel] at hx
     simp only [CRel, hob] at hx
     obtain ⟨_, b, hb, hv⟩ := hx
     refine Good.pure H E (run _ hv) ?_
     rw [TRel]
     simp only [CRel, hob]
     exact ⟨rfl, b, hb, by rw [Addr.add_lit]⟩
    ·cases h
   ·rename_i ds ht
    split at h
    ·rename_i hle
     rw [eff_inj h]
     rw [ht, TRel] at hx
     obtain ⟨A, cell, hv, hF, hc⟩ := hx
     refine Good.pure H E (run _ hv) ?_
     rw [TRel]
     have hadd : ∀ i, (A.add fd.offset).add i = A.add (fd.offset + i) := fun i => by
      unfold Addr.add
      by_cases hx : fd.offset = 0
      ·simp [hx]
      ·by_cases hi : i = 0
       ·simp [hx, hi]
       ·have : ¬ (fd.offset + i = 0) := by omega
        simp [hx, hi, Nat.add_assoc]
     refine ⟨A.add fd.offset, fun i => cell (fd.offset + i), rfl, by unfold Addr.add; split <;> exact hF, fun i d hd => ?_⟩
     rw [List.getElem?_drop] at hd
     rw [hadd]
     exact hc _ d hd
    ·cases h
   ·rename_i nm el off ht
    split at h
    ·rename_i k e' sz n get hob
     rw [eff_inj h]
     rw [ht, TRel] at hx
     simp only [CRel, hob] at hx
     obtain ⟨_, hel, b, q, hb, hv⟩ := hx
     refine Good.pure H E (run _ hv) ?_
     rw [TRel]
     simp only [CRel, hob]
     exact ⟨rfl, hel, b, q, hb, by rw [Addr.add_lit, Nat.add_assoc]⟩
    ·cases h
   ·cases h
 ·cases h
end
end Go.DI
namespace Go.DI
open Go Go.RowKit
variable [Tabs]

section
variable {P : Program} {w : World} {F : Nat -> Prop} {β : Nat -> Option (Nat × Nat)} {γ : Nat -> Option Nat} {obs : Obs} {env : Env} {a : Act} {o : Oper} {sup : Option Sup} {e : Eff}

theorem isAggT_run {t : TypeId} {b : Bool} (h : isAggT P t = b) {v : TypeDesc} (hu : P.underlying t = some v) : (isAgg t).run P w = .ok b w := by
 unfold isAggT at h
 rw [hu] at h
 subst h
 cases v <;> simp [isAgg, run_underlying hu]

theorem loadVar_run {t : TypeId} {A : Addr} {vs : List Value} (hall : ∀ i u, vs[i]? = some u -> w.cell? (A.add i) = some u) :
 (isAggT P t = true -> P.cellsOf t <= vs.length -> (loadVar t A).run P w = .ok (.agg (vs.take (P.cellsOf t)).toArray) w \/ P.info? t = none) /\
 (isAggT P t = false -> (P.underlying t).isSome -> ∀ u, vs[0]? = some u -> (loadVar t A).run P w = .ok u w) := by
 constructor
 ·intro hA hle
  unfold isAggT at hA
  cases hu : P.underlying t with
  | none => simp [hu] at hA
  | some d =>
   cases hi : P.info? t with
   | none => right; rfl
   | some i =>
    left
    have hag : (isAgg t).run P w = .ok true w := isAggT_run (by unfold isAggT; exact hA) hu
    have hsz : i.size = P.cellsOf t := by simp [Program.cellsOf, hi]
    have hl := run_loadCells_list (P := P) w A (vs.take (P.cellsOf t)) (fun j v hv => by
     rw [List.getElem?_take] at hv
     split at hv
     ·exact hall j v hv
     ·cases hv)
    rw [List.length_take, Nat.min_eq_left hle] at hl
    simp only [loadVar, Sem.run_bind, hag, Result.andThen]
    simp [sizeOf, typeInfo, hi, hsz, hl]
 ·intro hA hs u hu0
  obtain ⟨d, hu⟩ := Option.isSome_iff_exists.1 hs
  have hag : (isAgg t).run P w = .ok false w := isAggT_run hA hu
  have hc := hall 0 u hu0
  simp only [Addr.add_zero'] at hc
  simp only [loadVar, Sem.run_bind, hag, Result.andThen]
  simp [load, Sem.run, hc]

theorem underlying_info {t : TypeId} {d : TypeDesc} (h : P.underlying t = some d) : ∃ i, P.info? t = some i := by
 unfold Program.underlying at h
 cases hi : P.info? t with
 | none => simp [hi] at h
 | some i => exact ⟨i, rfl⟩

theorem load_cells {t : TypeId} {A : Addr} {vs : List Value} {cs : List Cl} {off : Nat} {v : TV} {ob : Nat -> Option Ob} (hs : (P.underlying t).isSome) (hr : CsRel w F β ob cs vs) (h1 : ∀ u ∈ vs, u.oneCell' = true)
 (hall : ∀ i u, vs[i]? = some u -> w.cell? (A.add i) = some u) (hp : partOf P t cs off = some v) :
 ∃ x, (loadVar t (A.add off)).run P w = .ok x w /\ TRel w F β ob v x := by
 have hadd : ∀ i, (A.add off).add i = A.add (off + i) := fun i => by
  unfold Addr.add
  by_cases hx : off = 0
  ·simp [hx]
  ·by_cases hi : i = 0
   ·simp [hx, hi]
   ·have : ¬ (off + i = 0) := by omega
    simp [hx, hi, Nat.add_assoc]
 have hall' : ∀ i u, (vs.drop off)[i]? = some u -> w.cell? ((A.add off).add i) = some u := fun i u h => by
  rw [List.getElem?_drop] at h
  rw [hadd]
  exact hall _ _ h
 obtain ⟨l1, l2⟩ := loadVar_run (P := P) (t := t) hall'
 rcases part_rel hr h1 hp with ⟨hA, hle, x, hx, ht⟩ | ⟨hA, u, hu, ht⟩
 ·rcases l1 hA (by rw [List.length_drop]; omega) with h | h
  ·refine ⟨_, h, ?_⟩
   have : x = ((vs.drop off).take (P.cellsOf t)).toArray := by rw [<- hx]
   rw [<- this]; exact ht
  ·obtain ⟨d, hd⟩ := Option.isSome_iff_exists.1 hs
   obtain ⟨i, hi⟩ := underlying_info hd
   rw [hi] at h; cases h
 ·refine ⟨u, l2 hA hs u ?_, ht⟩
  rw [List.getElem?_drop]; exact hu

theorem csrel_data {ob : Nat -> Option Ob} : ∀ {ds : List Dat} {vs : List Value}, DsRel w F ds vs -> CsRel w F β ob (ds.map .d) vs
 | [], [], _ => trivial
 | [], _ :: _, h => h.elim
 | _ :: _, [], h => h.elim
 | _ :: _, _ :: _, h => ⟨h.1, csrel_data h.2⟩

theorem dsrel_of_get : ∀ {ds : List Dat} (f : Nat -> Value), (∀ i d, ds[i]? = some d -> DRel w F d (f i)) -> DsRel w F ds ((List.range ds.length).map f)
 | [], _, _ => trivial
 | d :: ds, f, h => by
  rw [List.length_cons, List.range_succ_eq_map, List.map_cons]
  refine ⟨h 0 d rfl, ?_⟩
  have := dsrel_of_get (ds := ds) (fun i => f (i + 1)) (fun i d hd => h (i + 1) d (by simpa using hd))
  rw [List.map_map]
  exact this

theorem DsRel.one : ∀ {ds : List Dat} {vs : List Value}, DsRel w F ds vs -> ∀ u ∈ vs, u.oneCell' = true
 | [], [], _, u, hu => by cases hu
 | [], _ :: _, h, _, _ => h.elim
 | _ :: _, [], h, _, _ => h.elim
 | _ :: _, v :: vs, h, u, hu => by
  rcases List.mem_cons.1 hu with rfl | hu
  ·exact h.1.oneCell
  ·exact DsRel.one h.2 u hu

theorem good_load {t : TypeId} {x : Operand} (H : Heap w F β γ (lookO obs)) (E : EnvOk w F β obs env a) (ho : o.op = .load t x) (h : exec P env obs o sup = some e) : Good P w F β γ obs env a o e := by
 unfold exec at h
 simp only [ho] at h
 have hx := evalO_rel E x
 split at h
 ·cases h
 ·rename_i dsc hu
  have hs : (P.underlying t).isSome := by rw [hu]; rfl
  have fin : ∀ (A : Addr) (v : TV) (rd : List Nat), a.eval x = .pointer (some A) -> (∃ y, (loadVar t A).run P w = .ok y w /\ TRel w F β (lookO obs) v y) -> Good P w F β γ obs env a o ⟨v, [], rd, none⟩ := fun A v rd hA hl => by
   obtain ⟨y, hy, ht⟩ := hl
   exact Good.pure H E (by simp [execOp, ho, hA, Instr.loadAt, Instr.sureAddr, hy]) ht
  split at h
  ·rename_i nm off ht
   split at h
   ·rename_i cs hob
    split at h
    ·rename_i v hp
     rw [eff_inj h]
     rw [ht, TRel] at hx
     simp only [CRel, hob] at hx
     obtain ⟨_, b, hb, hv⟩ := hx
     obtain ⟨b', cells, el, g1, g2, g3, g4⟩ := H.obs _ _ hob
     rw [hb] at g1
     cases g1
     refine fin _ v [nm] hv ?_
     have := load_cells (P := P) (A := ⟨b, 0, none⟩) hs g3 g4 (fun i u hi => by rw [Addr.add_lit, cell_of_row w b _ cells el _ g2]; simpa using hi) hp
     rw [Addr.add_lit, Nat.zero_add] at this
     exact this
    ·cases h
   ·cases h
  ·rename_i ds ht
   split at h
   ·rename_i v hp
    rw [eff_inj h]
    rw [ht, TRel] at hx
    obtain ⟨A, cell, hv, hF, hc⟩ := hx
    refine fin A v [] hv ?_
    have hd := dsrel_of_get cell (fun i d hd => (hc i d hd).2)
    have := load_cells (P := P) (A := A) (off := 0) hs (csrel_data (β := β) (ob := lookO obs) hd) (DsRel.one hd) (fun i u hi => by
     simp only [List.getElem?_map] at hi
     cases hr : (List.range ds.length)[i]? with
     | none => simp [hr] at hi
     | some j =>
      simp [hr] at hi
      obtain ⟨hlt, hj⟩ := List.getElem?_eq_some_iff.1 hr
      simp at hlt hj
      subst hj
      rw [(hc i ds[i] (List.getElem?_eq_getElem hlt)).1, hi]) hp
    rw [Addr.add_zero'] at this
    exact this
   ·cases h
  ·rename_i nm el off ht
   split at h
   ·rename_i k e' sz n get hob
    split at h
    ·rename_i v hp
     rw [eff_inj h]
     rw [ht, TRel] at hx
     simp only [CRel, hob] at hx
     obtain ⟨_, hel, b, q, hb, hv⟩ := hx
     rcases H.obs _ _ hob with ⟨_, g2⟩ | ⟨b', q', cur, e2, fr, g1, g2, g3, g4, g5, g6⟩
     ·rw [hb] at g2; cases g2
     ·rw [hb] at g1
      cases g1
      refine fin _ v [nm] hv ?_
      have each : ∀ i d, (get el)[i]? = some d -> ∃ u, cur[q + el * sz + i]? = some u /\ DRel w F d u := fun i d hd => by
       obtain ⟨u, u1, u2, _⟩ := (g3.2 el hel).2 i d hd
       exact ⟨u, u1, u2⟩
      have hd := dsrel_of_get (w := w) (F := F) (ds := get el) (fun i => cur.getD (q + el * sz + i) undef) (fun i d hd => by
       obtain ⟨u, u1, u2⟩ := each i d hd
       simpa [Array.getD_eq_getD_getElem?, u1] using u2)
      have := load_cells (P := P) (A := ⟨b, q + el * sz, none⟩) (off := off) hs (csrel_data (β := β) (ob := lookO obs) hd) (DsRel.one hd) (fun i u hi => by
       simp only [List.getElem?_map] at hi
       cases hr : (List.range (get el).length)[i]? with
       | none => simp [hr] at hi
       | some j =>
        simp [hr] at hi
        obtain ⟨hlt, hj⟩ := List.getElem?_eq_some_iff.1 hr
        simp at hlt hj
        subst hj
        obtain ⟨u', u1, _⟩ := each i _ (List.getElem?_eq_getElem hlt)
        rw [Addr.add_lit, cell_of_row w b _ cur e2 fr g2, u1]
        simp [Array.getD_eq_getD_getElem?, u1] at hi
        rw [hi]) hp
      rw [Addr.add_lit] at this
      exact this
    ·cases h
   ·cases h
  ·cases h

theorem good_field {t : TypeId} {x : Operand} {f : Nat} (H : Heap w F β γ (lookO obs)) (E : EnvOk w F β obs env a) (ho : o.op = .field t x f) (h : exec P env obs o sup = some e) : Good P w F β γ obs env a o e := by
 unfold exec at h
 simp only [ho] at h
 have hx := evalO_rel E x
 split at h
 ·rename_i fd cs hf ht
  obtain ⟨fs, hu, hfs⟩ := fieldOf_some hf
  split at h
  ·cases h
  ·rename_i dsc huf
   split at h
   ·rename_i v hp
    rw [eff_inj h]
    rw [ht] at hx
    obtain ⟨vs, hv, hr, h1⟩ := of_agg hx
    obtain ⟨i, hi⟩ := underlying_info huf
    have hsz : i.size = P.cellsOf fd.type := by simp [Program.cellsOf, hi]
    rcases part_rel hr h1 hp with ⟨hA, hle, y, hy, hty⟩ | ⟨hA, u, hu', hty⟩
    ·have hag : (isAgg fd.type).run P w = .ok true w := isAggT_run hA huf
     refine Good.pure H E (v := .agg y) ?_ hty
     have : y = vs.extract fd.offset (fd.offset + P.cellsOf fd.type) := by
      apply Array.ext'
      rw [hy, Array.toList_extract]
      simp [List.extract_eq_take_drop]
     simp only [execOp, ho, Instr.field]
     simp [run_underlying hu, hfs, hv, asAgg, part, hag, sizeOf, typeInfo, hi, hsz, this]
    ·have hag : (isAgg fd.type).run P w = .ok false w := isAggT_run hA huf
     refine Good.pure H E (v := u) ?_ hty
     have : vs[fd.offset]? = some u := by simpa using hu'
     simp only [execOp, ho, Instr.field]
     simp [run_underlying hu, hfs, hv, asAgg, part, hag, this]
   ·cases h
 ·cases h
end
end Go.DI
namespace Go.DI
open Go Go.RowKit
variable [Tabs]

section
variable {P : Program} {w : World} {F : Nat -> Prop} {β : Nat -> Option (Nat × Nat)} {γ : Nat -> Option Nat} {obs : Obs} {env : Env} {a : Act} {o : Oper} {sup : Option Sup} {e : Eff}

theorem elemT_some {t e : TypeId} (h : elemT P t = some e) : P.underlying t = some (.slice e) := by
 unfold elemT at h
 split at h
 ·rename_i e' hu; cases h; exact hu
 ·cases h

theorem indexAt_run {t e : TypeId} {A : Addr} {len cap : Nat} {k : IntKind} {i : Int} (hu : P.underlying t = some (.slice e)) (hsz : P.cellsOf e ≠ 0) (h0 : 0 <= i) (h1 : i < len) :
 (Instr.indexAt t (.slice (some A) len cap) (.int k i)).run P w = .ok (.pointer (some (A.add (i.toNat * P.cellsOf e)))) w := by
 obtain ⟨inf, hi, hs⟩ := cellsOf_info hsz
 simp [Instr.indexAt, asIntOf, run_underlying hu, h0, h1, sizeOf, typeInfo, hi, hs]

theorem fro_at {sz n : Nat} {get : Nat -> List Dat} {v : Value} (h : DRel w F (.fro sz n get) v) {j : Nat} (hj : j < n) : ∃ (A : Addr) (cap : Nat) (cell : Nat -> Value), v = .slice (some A) n cap /\ F A.block /\ (get j).length = sz /\
 ∀ i d, (get j)[i]? = some d -> w.cell? (A.add (j * sz + i)) = some (cell i) /\ DRel w F d (cell i) := by
 cases h with
 | fro0 => omega
 | fro _ _ _ A cap cell hF hc hl hcell hrel =>
  refine ⟨A, cap, fun i => cell j i, rfl, hF, hl j hj, fun i d hd => ⟨?_, hrel j i d hj hd⟩⟩
  have := (List.getElem?_eq_some_iff.1 hd).1
  exact hcell j i hj (by rw [<- hl j hj]; exact this)

theorem add_add (A : Addr) (x i : Nat) : (A.add x).add i = A.add (x + i) := by
 unfold Addr.add
 by_cases hx : x = 0
 ·simp [hx]
 ·by_cases hi : i = 0
  ·simp [hx, hi]
  ·have : ¬ (x + i = 0) := by omega
   simp [hx, hi, Nat.add_assoc]
theorem add_block (A : Addr) (x : Nat) : (A.add x).block = A.block := by unfold Addr.add; split <;> rfl

theorem indexAt_arr {t e : TypeId} {A : Addr} {n : Nat} {k : IntKind} {i : Int} (hu : P.underlying t = some (.array n e)) (hsz : P.cellsOf e ≠ 0) (h0 : 0 <= i) (h1 : i < n) :
 (Instr.indexAt t (.pointer (some A)) (.int k i)).run P w = .ok (.pointer (some (A.add (i.toNat * P.cellsOf e)))) w := by
 obtain ⟨inf, hi, hs⟩ := cellsOf_info hsz
 simp [Instr.indexAt, asIntOf, run_underlying hu, Instr.sureAddr, h0, h1, sizeOf, typeInfo, hi, hs]

theorem good_indexAddr {t : TypeId} {x i : Operand} (H : Heap w F β γ (lookO obs)) (E : EnvOk w F β obs env a) (ho : o.op = .indexAddr t x i) (h : exec P env obs o sup = some e) (hq : ∀ p, e.req = some p -> p) : Good P w F β γ obs env a o e := by
 unfold exec at h
 simp only [ho] at h
 have hx := evalO_rel E x
 have hi := evalO_rel E i
 split at h
 ·rename_i n e' hu
  split at h
  ·rename_i ds k j hxe hie
   split at h
   ·rename_i hsz
    rw [effR_inj h] at hq ⊢
    obtain ⟨h0, h1⟩ := hq _ rfl
    rw [hxe] at hx
    rw [hie] at hi
    obtain ⟨A, cell, hv, hF, hc⟩ := of_c hx
    have hsz1 : P.cellsOf e' ≠ 0 := by rw [hsz.1]; decide
    refine Good.pure H E (v := .pointer (some (A.add (j.toNat * P.cellsOf e')))) ?_ ?_
    ·simp [execOp, ho, hv, of_int hi, indexAt_arr (P := P) (w := w) hu hsz1 h0 h1]
    ·rw [TRel]
     refine ⟨_, fun q => cell (j.toNat * P.cellsOf e' + q), rfl, by rw [add_block]; exact hF, fun q d hd => ?_⟩
     rw [add_add]
     cases q with
     | zero =>
      simp at hd
      have hlt : j.toNat < ds.length := by omega
      have : ds[j.toNat * P.cellsOf e' + 0]? = some d := by
       rw [hsz.1, Nat.mul_one, Nat.add_zero, List.getElem?_eq_getElem hlt]
       rw [List.getElem?_eq_getElem hlt] at hd
       simpa using hd
      exact hc _ d this
     | succ q => simp at hd
   ·cases h
  ·cases h
 ·split at h
  ·rename_i e' sz n get k j he hxe hie
   split at h
   ·rename_i hsz
    rw [effR_inj h] at hq ⊢
    obtain ⟨h0, h1⟩ := hq _ rfl
    rw [hxe] at hx
    rw [hie] at hi
    have hjn : j.toNat < n := by omega
    obtain ⟨A, cap, cell, hv, hF, hl, hc⟩ := fro_at (of_trel_d hx) hjn
    by_cases hz : sz = 0
    ·exact absurd hz hsz.2
    ·refine Good.pure H E (v := .pointer (some (A.add (j.toNat * P.cellsOf e')))) ?_ ?_
     ·simp [execOp, ho, hv, of_int hi, indexAt_run (P := P) (w := w) (elemT_some he) (by rw [<- hsz.1]; exact hz) h0 h1]
     ·rw [TRel]
      refine ⟨_, cell, rfl, by rw [add_block]; exact hF, fun q d hd => ?_⟩
      rw [add_add, <- hsz.1]
      exact hc q d hd
   ·cases h
  ·rename_i e' nm k j he hxe hie
   rw [hie] at hi
   rw [hxe] at hx
   rw [TRel] at hx
   simp only [CRel] at hx
   split at h
   ·rename_i e2 sz n get hob
    split at h
    ·rename_i hsz
     rw [effR_inj h] at hq ⊢
     obtain ⟨h0, h1⟩ := hq _ rfl
     have hd := row_dat H hob (v := a.eval x) (by simp only [CRel]; exact hx)
     have hjn : j.toNat < n := by omega
     obtain ⟨A, cap, cell, hv, hF, hl, hc⟩ := fro_at hd hjn
     refine Good.pure H E (v := .pointer (some (A.add (j.toNat * P.cellsOf e')))) ?_ ?_
     ·simp [execOp, ho, hv, of_int hi, indexAt_run (P := P) (w := w) (elemT_some he) (by rw [<- hsz.1]; exact hsz.2) h0 h1]
     ·rw [TRel]
      refine ⟨_, cell, rfl, by rw [add_block]; exact hF, fun q d hd => ?_⟩
      rw [add_add, <- hsz.1]
      exact hc q d hd
    ·cases h
   ·rename_i k2 e2 sz n get _ hob
    split at h
    ·rename_i hsz
     rw [effR_inj h] at hq ⊢
     obtain ⟨h0, h1⟩ := hq _ rfl
     rw [hob] at hx
     obtain ⟨_, hx⟩ := hx
     have hjn : j.toNat < n := by omega
     rcases hx with ⟨_, _, hn, _⟩ | ⟨b, q, cap, g1, g2, g3, g4, g5⟩
     ·omega
     ·refine Good.pure H E (v := .pointer (some ((⟨b, q + 0 * sz, none⟩ : Addr).add (j.toNat * P.cellsOf e')))) ?_ ?_
      ·simp [execOp, ho, g2, of_int hi, indexAt_run (P := P) (w := w) (elemT_some he) (by rw [<- hsz.1]; exact hsz.2) h0 h1]
      ·rw [TRel]
       simp only [CRel, hob]
       exact ⟨rfl, hjn, b, q, g1, by rw [Addr.add_lit, hsz.1]; simp⟩
    ·cases h
   ·cases h
  ·cases h

theorem bt_get {s : ByteArray} {i : Int} (h0 : 0 <= i) (h1 : i < s.size) : ∃ b, s[i.toNat]? = some b /\ btI s i = b.toNat := by
 have h : i.toNat < s.size := by omega
 refine ⟨s[i.toNat], ?_, by simp [btI, h]⟩
 exact getElem?_pos s i.toNat h

theorem good_index {t : TypeId} {x i : Operand} (H : Heap w F β γ (lookO obs)) (E : EnvOk w F β obs env a) (ho : o.op = .index t x i) (h : exec P env obs o sup = some e) (hq : ∀ p, e.req = some p -> p) : Good P w F β γ obs env a o e := by
 unfold exec at h
 simp only [ho] at h
 have hx := evalO_rel E x
 have hi := evalO_rel E i
 split at h
 ·rename_i s k j hu hxe hie
  rw [effR_inj h] at hq ⊢
  obtain ⟨h0, h1⟩ := hq _ rfl
  rw [hxe] at hx
  rw [hie] at hi
  obtain ⟨b, hb, hbt⟩ := bt_get h0 h1
  refine Good.pure H E (v := .int .u8 (btI s j)) ?_ (trel_d (.int _ _))
  simp [execOp, ho, of_str hx, of_int hi, Instr.index, asIntOf, run_underlying hu, h0, hb, hbt]
 ·cases h

theorem wr_eq (k : IntKind) (n : Int) : wr k n = k.wrap n := by
 cases k <;> first | rfl | (show wrap64 n = _; rw [IntKind.wrap_i64]; unfold wrap64; rfl)

theorem good_convert_int {src dst : TypeId} {x : Operand} {sd : TypeDesc} {k k' : IntKind} {n : Int} (H : Heap w F β γ (lookO obs)) (E : EnvOk w F β obs env a) (ho : o.op = .convert src dst x) (h1 : P.underlying src = some sd) (h2 : P.underlying dst = some (.int k))
 (hx : evalO env x = .c (.d (.int k' n))) {rd : List Nat} {q : Option Prop} : Good P w F β γ obs env a o ⟨dInt k (wr k n), [], rd, q⟩ := by
 have he := evalO_rel E x
 rw [hx] at he
 refine Good.pure H E (v := .int k (k.wrap n)) ?_ (by rw [wr_eq]; exact trel_d (.int _ _))
 simp [execOp, ho, of_int he, convert, run_underlying h1, run_underlying h2, Conv.intToInt]

theorem good_convert_str {src dst : TypeId} {x : Operand} {sd : TypeDesc} {s : ByteArray} (H : Heap w F β γ (lookO obs)) (E : EnvOk w F β obs env a) (ho : o.op = .convert src dst x) (h1 : P.underlying src = some sd) (h2 : P.underlying dst = some .string)
 (hx : evalO env x = .c (.d (.str s))) {rd : List Nat} {q : Option Prop} : Good P w F β γ obs env a o ⟨dStr s, [], rd, q⟩ := by
 have he := evalO_rel E x
 rw [hx] at he
 refine Good.pure H E (v := .string s) ?_ (trel_d (.str _))
 cases sd <;> simp [execOp, ho, of_str he, convert, run_underlying h1, run_underlying h2]

theorem good_unOp {op : UnOp} {t : TypeId} {x : Operand} (H : Heap w F β γ (lookO obs)) (E : EnvOk w F β obs env a) (ho : o.op = .unOp op t x) (h : exec P env obs o sup = some e) : Good P w F β γ obs env a o e := by
 unfold exec at h
 simp only [ho] at h
 have hx := evalO_rel E x
 split at h
 ·rename_i b hxe
  rw [eff_inj h]
  rw [hxe] at hx
  exact Good.pure H E (by simp [execOp, ho, of_bool hx, Op.unary]) (trel_d (.bool _))
 ·rename_i k n hxe
  rw [eff_inj h]
  rw [hxe] at hx
  refine Good.pure H E (v := .int k (k.wrap (0 - n))) ?_ (by rw [wr_eq]; exact trel_d (.int _ _))
  simp [execOp, ho, of_int hx, Op.unary, Op.intArith]
 ·cases h

theorem agg_of_all {i : TypeInfo} {t : TypeId} {z : Value} (hi : P.info? t = some i) (hz : i.zero = some z) : (zeroValue t).run P w = .ok z w := by
 simp [zeroValue, typeInfo, hi, hz]

theorem zeroT_some {t : TypeId} {cs : List Cl} (h : zeroT P t = some cs) : ∃ i z, P.info? t = some i /\ i.zero = some z /\ z.cells.size = i.size /\ (∀ u ∈ z.cells.toList, u.oneCell' = true) /\ cs = z.cells.toList.map ofCell := by
 unfold zeroT at h
 split at h
 ·rename_i i hi
  split at h
  ·rename_i z hz
   split at h
   ·rename_i hc
    cases h
    exact ⟨i, z, hi, hz, hc.1, fun u hu => List.all_eq_true.1 hc.2 u hu, rfl⟩
   ·cases h
  ·cases h
 ·cases h

theorem fold_put (off : Nat) : ∀ (l : List Value) (j : Nat) (cells : Array Value), off + j + l.length <= cells.size ->
 ((l.zipIdx j).foldl (fun (cs : Array Value) (p : Value × Nat) => cs.setIfInBounds (off + p.2) p.1) cells).toList = cells.toList.take (off + j) ++ l ++ cells.toList.drop (off + j + l.length)
 | [], j, cells, _ => by simp
 | v :: l, j, cells, h => by
  rw [List.zipIdx_cons, List.foldl_cons]
  simp only [List.length_cons] at h
  rw [fold_put off l (j + 1) _ (by simp; omega)]
  rw [Array.toList_setIfInBounds]
  have h1 : (cells.toList.set (off + j) v).take (off + (j + 1)) = cells.toList.take (off + j) ++ [v] := by
   rw [<- Nat.add_assoc, List.take_succ_eq_append_getElem (by simp; omega), List.take_set_of_le (Nat.le_refl _), List.getElem_set_self]
  have h2 : (cells.toList.set (off + j) v).drop (off + (j + 1) + l.length) = cells.toList.drop (off + j + (v :: l).length) := by
   rw [List.drop_set_of_lt (by omega)]
   congr 1
   simp; omega
  rw [h1, h2]
  simp

theorem fill_rel {ob : Nat -> Option Ob} {fs : Array Field} {places : Array (Nat × Nat)} (hpl : ∀ (i : Nat) (f : Field), fs[i]? = some f -> places[i]? = some (f.offset, P.cellsOf f.type)) : ∀ (l : List (Nat × TV)) (lv : List (Nat × Value)) (cs cs' : List Cl) (cells : Array Value),
 l.length = lv.length -> (∀ (i : Nat) (p : Nat × TV) (q : Nat × Value), l[i]? = some p -> lv[i]? = some q -> p.1 = q.1 /\ TRel w F β ob p.2 q.2) -> CsRel w F β ob cs cells.toList -> (∀ u ∈ cells.toList, u.oneCell' = true) -> fillL P fs l cs = some cs' ->
 ∃ cells', Instr.fill (places[·]?) cells lv = some cells' /\ CsRel w F β ob cs' cells'.toList /\ (∀ u ∈ cells'.toList, u.oneCell' = true)
 | [], [], cs, cs', cells, _, _, hr, h1, h => by
  simp [fillL] at h
  subst h
  exact ⟨cells, by simp [Instr.fill], hr, h1⟩
 | [], _ :: _, _, _, _, hl, _, _, _, _ => by simp at hl
 | _ :: _, [], _, _, _, hl, _, _, _, _ => by simp at hl
 | (i, v) :: l, (i', x) :: lv, cs, cs', cells, hl, hp, hr, h1, h => by
  obtain ⟨rfl, hv⟩ := hp 0 _ _ rfl rfl
  simp only [fillL] at h
  split at h
  ·rename_i f new hf hc
   split at h
   ·rename_i hsz
    obtain ⟨r1, r2⟩ := cells_rel hv hc
    have hlen := r1.length
    have hln := hr.length
    simp only [Array.length_toList] at hlen hln
    have hplace := hpl i f hf
    have hput := fold_put f.offset x.cells.toList 0 cells (by simp; omega)
    simp only [Nat.add_zero, Array.length_toList] at hput
    have hzip : x.cells.zipIdx.foldl (fun (cs : Array Value) (p : Value × Nat) => cs.setIfInBounds (f.offset + p.2) p.1) cells = (x.cells.toList.zipIdx 0).foldl (fun (cs : Array Value) (p : Value × Nat) => cs.setIfInBounds (f.offset + p.2) p.1) cells := by
     rw [<- Array.foldl_toList, Array.toList_zipIdx]
    obtain ⟨cells', g1, g2, g3⟩ := fill_rel hpl l lv (over f.offset new cs) cs' _ (by simpa using hl) (fun k p q h1 h2 => hp (k + 1) p q (by simpa using h1) (by simpa using h2)) (by
     rw [<- hzip] at hput
     rw [hput]
     have := CsRel.over f.offset hr r1
     simpa using this) (by
     rw [<- hzip] at hput
     rw [hput]
     intro u hu
     rcases List.mem_append.1 hu with hu | hu
     ·rcases List.mem_append.1 hu with hu | hu
      ·exact h1 u (List.mem_of_mem_take hu)
      ·exact r2 u hu
     ·exact h1 u (List.mem_of_mem_drop hu)) h
    refine ⟨cells', ?_, g2, g3⟩
    have c1 : ¬ (x.cells.size ≠ P.cellsOf f.type \/ f.offset + x.cells.size > cells.size) := by
     rw [<- hlen, <- hln]; omega
    simp only [Instr.fill, hplace]
    rw [if_neg (by simp only [Bool.or_eq_true, decide_eq_true_eq]; exact c1)]
    exact g1
   ·cases h
  ·cases h

theorem good_build {t : TypeId} {ps : Array (Nat × Operand)} (H : Heap w F β γ (lookO obs)) (E : EnvOk w F β obs env a) (ho : o.op = .build t ps) (h : exec P env obs o sup = some e) : Good P w F β γ obs env a o e := by
 unfold exec at h
 simp only [ho] at h
 split at h
 ·rename_i fs z hu hz
  split at h
  ·rename_i cs hfill
   rw [eff_inj h]
   split at hfill
   ·rename_i hall
    obtain ⟨i, zv, hi, hzv, hzs, hz1, rfl⟩ := zeroT_some hz
    have hm : ∀ l : List Field, l.all (fun f => (P.info? f.type).isSome) = true -> l.mapM (fun f => (P.info? f.type).map fun i => (f.offset, i.size)) = some (l.map fun f => (f.offset, P.cellsOf f.type)) := fun l => by
     induction l with
     | nil => intro _; rfl
     | cons f l ih =>
      intro h
      simp only [List.all_cons, Bool.and_eq_true] at h
      obtain ⟨j, hj⟩ := Option.isSome_iff_exists.1 h.1
      simp [List.mapM_cons, hj, ih h.2, Program.cellsOf]
    have hm := hm fs.toList (by simpa using hall)
    obtain ⟨cells', g1, g2, g3⟩ := fill_rel (P := P) (w := w) (F := F) (β := β) (ob := lookO obs) (fs := fs) (places := fs.map fun f => (f.offset, P.cellsOf f.type)) (fun j f hf => by simp [hf])
     (ps.toList.map fun (i, x) => (i, evalO env x)) (ps.map fun (i, x) => (i, a.eval x)).toList _ cs zv.cells (by simp) (fun j p q h1 h2 => by
      simp only [List.getElem?_map, Array.toList_map] at h1 h2
      cases hp : ps.toList[j]? with
      | none => simp [hp] at h1
      | some pr =>
       simp [hp] at h1 h2
       subst h1 h2
       exact ⟨rfl, evalO_rel E pr.2⟩) (csrel_ofCell _ _ _ _ _) hz1 hfill
    refine Good.pure H E (v := .agg cells') ?_ (by rw [TRel]; exact ⟨_, rfl, g2, g3⟩)
    have hb : P.built t (ps.map fun (i, x) => (i, a.eval x)).toList = some cells' := by
     unfold Program.built
     simp only [hi, hu, hzv, hm]
     simpa using g1
    simp [execOp, ho, run_build w t _ _ hb]
   ·cases hfill
  ·cases h
 ·cases h
end
end Go.DI
namespace Go.DI
open Go Go.RowKit
variable [Tabs]

section
variable {P : Program} {w : World} {F : Nat -> Prop} {β : Nat -> Option (Nat × Nat)} {γ : Nat -> Option Nat} {obs : Obs} {env : Env} {a : Act} {o : Oper} {sup : Option Sup} {e : Eff}

theorem eqFlat_run (d : Nat) : ∀ (fs : List Field) (off : Nat) (xs ys : List Cl) (vx vy : Array Value) (r : Bool), CsRel w F β (lookO obs) xs (vx.toList.drop off) -> CsRel w F β (lookO obs) ys (vy.toList.drop off) -> eqFlat P fs off xs ys = some r ->
 (Op.eqFields (d + 1) vx vy fs).run P w = .ok r w := by
 intro fs
 induction fs with
 | nil =>
  intro off xs ys vx vy r hx hy h
  cases xs <;> cases ys <;> simp [eqFlat] at h
  subst h
  simp [Op.eqFields]
 | cons f fs ih =>
  intro off xs ys vx vy r hx hy h
  have head : ∀ (v : Array Value) (c : Dat) (cs : List Cl), CsRel w F β (lookO obs) (.d c :: cs) (v.toList.drop off) -> ∃ u, v[off]? = some u /\ DRel w F c u /\ CsRel w F β (lookO obs) cs (v.toList.drop (off + 1)) := fun v c cs hr => by
   cases hd : v.toList.drop off with
   | nil => rw [hd] at hr; exact hr.elim
   | cons u us =>
    rw [hd] at hr
    refine ⟨u, by simpa using drop_cons hd, hr.1, ?_⟩
    have : v.toList.drop (off + 1) = us := by rw [<- List.drop_drop, hd]; rfl
    rw [this]; exact hr.2
  have part_ok : ∀ (v : Array Value) (u : Value) (dsc : TypeDesc), P.underlying f.type = some dsc -> (match dsc with | .struct _ | .array _ _ => true | _ => false) = false -> f.offset = off -> v[off]? = some u -> (part f.type v f.offset).run P w = .ok u w := fun v u dsc hu hd hoff hv => by
   have hag : (isAgg f.type).run P w = .ok false w := isAggT_run (by unfold isAggT; rw [hu]; cases dsc <;> simp_all) hu
   subst hoff
   simp [part, hag, hv]
  have go : ∀ (b : Bool) (u1 u2 : Value) (dsc : TypeDesc), P.underlying f.type = some dsc -> (match dsc with | .struct _ | .array _ _ => true | _ => false) = false -> f.offset = off -> f.name ≠ "_" -> vx[off]? = some u1 -> vy[off]? = some u2 -> (Op.equalIn (d + 1) f.type u1 u2).run P w = .ok b w ->
   ∀ q, (Op.eqFields (d + 1) vx vy fs).run P w = .ok q w -> (Op.eqFields (d + 1) vx vy (f :: fs)).run P w = .ok (b && q) w := fun b u1 u2 dsc hu hd hoff hn h1 h2 he q hq => by
   simp only [Op.eqFields, hn, ne_eq, not_false_eq_true, if_true, Sem.run_bind, part_ok vx u1 dsc hu hd hoff h1, part_ok vy u2 dsc hu hd hoff h2, Result.andThen, he]
   cases b <;> simp [hq]
  cases xs with
  | nil => simp [eqFlat] at h
  | cons c1 as => cases ys with
   | nil => cases c1 <;> simp [eqFlat] at h
   | cons c2 bs =>
    cases c1 <;> try (simp [eqFlat] at h; done)
    rename_i v1
    cases c2 <;> try (cases v1 <;> simp [eqFlat] at h; done)
    rename_i v2
    cases v1 <;> cases v2 <;> try (simp [eqFlat] at h; done)
    ·rename_i x y
     simp only [eqFlat] at h
     split at h
     ·rename_i hc
      split at h
      ·rename_i r2 hu hr2
       injection h with h
       subst h
       obtain ⟨u1, g1, g2, g3⟩ := head vx _ _ hx
       obtain ⟨u2, g4, g5, g6⟩ := head vy _ _ hy
       cases g2; cases g5
       exact go _ _ _ _ hu rfl hc.1 hc.2 g1 g4 (run_equalIn_bool' w d f.type x y hu) _ (ih (off + 1) as bs vx vy r2 g3 g6 hr2)
      ·cases h
     ·cases h
    ·rename_i k x k' y
     simp only [eqFlat] at h
     split at h
     ·rename_i hc
      split at h
      ·rename_i k2 r2 hu hr2
       injection h with h
       subst h
       obtain ⟨u1, g1, g2, g3⟩ := head vx _ _ hx
       obtain ⟨u2, g4, g5, g6⟩ := head vy _ _ hy
       cases g2; cases g5
       obtain ⟨hc1, hc2, rfl⟩ := hc
       exact go _ _ _ _ hu rfl hc1 hc2 g1 g4 (run_equalIn_int w d f.type k k2 x y hu) _ (ih (off + 1) as bs vx vy r2 g3 g6 hr2)
      ·cases h
     ·cases h
    ·rename_i x y
     simp only [eqFlat] at h
     split at h
     ·rename_i hc
      split at h
      ·rename_i r2 hu hr2
       injection h with h
       subst h
       obtain ⟨u1, g1, g2, g3⟩ := head vx _ _ hx
       obtain ⟨u2, g4, g5, g6⟩ := head vy _ _ hy
       cases g2; cases g5
       exact go _ _ _ _ hu rfl hc.1 hc.2 g1 g4 (run_equalIn_string w d f.type x y hu) _ (ih (off + 1) as bs vx vy r2 g3 g6 hr2)
      ·cases h
     ·cases h

theorem bin_int {t : TypeId} {op : BinOp} {x y : Operand} {v : TV} {q : Option Prop} {u1 u2 : Value} {k k' : IntKind} {m n : Int} (h1 : TRel w F β (lookO obs) (.c (.d (.int k m))) u1) (h2 : TRel w F β (lookO obs) (.c (.d (.int k' n))) u2) (h : bin P t op (.c (.d (.int k m))) (.c (.d (.int k' n))) = some (v, q)) (hq : ∀ p, q = some p -> p) :
 ∃ u, ((do eqGuard op t x y u1 u2; binOp op t u1 u2) : Sem Value).run P w = .ok u w /\ TRel w F β (lookO obs) v u := by
 simp only [bin] at h
 have e1 := of_int h1
 have e2 := of_int h2
 subst e1 e2
 have fin : ∀ (d : Dat) (u : Value), DRel w F d u -> (binOp op t (.int k m) (.int k' n)).run P w = .ok u w -> v = .c (.d d) -> ∃ u, ((do eqGuard op t x y (.int k m) (.int k' n); binOp op t (.int k m) (.int k' n)) : Sem Value).run P w = .ok u w /\ TRel w F β (lookO obs) v u := fun d u hr hrun hv => by
  subst hv
  exact ⟨u, by simp [eqGuard_at_int, hrun], trel_d hr⟩
 split at h
 ·injection h with h
  obtain ⟨rfl, rfl⟩ := Prod.mk.inj h
  exact fin _ _ (.int _ _) (by rw [binOp_shl, shift_shl_any _ _ _ _ (hq _ rfl)]; rfl) rfl
 ·injection h with h
  obtain ⟨rfl, rfl⟩ := Prod.mk.inj h
  exact fin _ _ (.int _ _) (by rw [binOp_shr, shift_shr_any _ _ _ _ (hq _ rfl)]; rfl) rfl
 ·split at h
  ·rename_i hk
   subst hk
   split at h <;> (try cases h) <;> (try (injection h with h; obtain ⟨rfl, rfl⟩ := Prod.mk.inj h))
   all_goals first
    | exact fin _ _ (.int _ _) (by rw [binOp_add, wr_eq]; rfl) rfl
    | exact fin _ _ (.int _ _) (by rw [binOp_sub, wr_eq]; rfl) rfl
    | exact fin _ _ (.int _ _) (by rw [binOp_mul, wr_eq]; rfl) rfl
    | exact fin _ _ (.int _ _) (by have := hq _ rfl; rw [binOp_quo, wr_eq]; simp only [Op.intDiv, if_neg this]; rfl) rfl
    | exact fin _ _ (.int _ _) (by have := hq _ rfl; rw [binOp_rem]; simp only [Op.intDiv, if_neg this]; rfl) rfl
    | exact fin _ _ (.int _ _) (by rw [binOp_and, intBits_and]; rfl) rfl
    | exact fin _ _ (.int _ _) (by rw [binOp_or, intBits_or]; rfl) rfl
    | exact fin _ _ (.int _ _) (by rw [binOp_xor, intBits_xor]; rfl) rfl
    | exact fin _ _ (.bool _) (by rw [binOp_eql]; rfl) rfl
    | exact fin _ _ (.bool _) (by rw [binOp_neq]; rfl) rfl
    | exact fin _ _ (.bool _) (by rw [binOp_lss]; rfl) rfl
    | exact fin _ _ (.bool _) (by rw [binOp_leq]; rfl) rfl
    | exact fin _ _ (.bool _) (by rw [binOp_gtr]; rfl) rfl
    | exact fin _ _ (.bool _) (by rw [binOp_geq]; rfl) rfl
  ·cases h
theorem bin_bool {t : TypeId} {op : BinOp} {x y : Operand} {v : TV} {q : Option Prop} {u1 u2 : Value} {m n : Bool} (h1 : TRel w F β (lookO obs) (.c (.d (.bool m))) u1) (h2 : TRel w F β (lookO obs) (.c (.d (.bool n))) u2) (h : bin P t op (.c (.d (.bool m))) (.c (.d (.bool n))) = some (v, q)) (hq : ∀ p, q = some p -> p) :
 ∃ u, ((do eqGuard op t x y u1 u2; binOp op t u1 u2) : Sem Value).run P w = .ok u w /\ TRel w F β (lookO obs) v u := by
 simp only [bin] at h
 have e1 := of_bool h1
 have e2 := of_bool h2
 subst e1 e2
 split at h
 ·rename_i hu
  injection h with h
  obtain ⟨rfl, rfl⟩ := Prod.mk.inj h
  exact ⟨_, by simp [eqGuard_at_bool, run_eql_bool w t m n hu], trel_d (.bool _)⟩
 ·rename_i hu
  injection h with h
  obtain ⟨rfl, rfl⟩ := Prod.mk.inj h
  exact ⟨_, by simp only [eqGuard_at_bool, Sem.run_bind, Sem.run_pure, Result.andThen_ok]; exact run_neq_bool w t m n hu, trel_d (.bool _)⟩
 ·cases h
theorem bin_str {t : TypeId} {op : BinOp} {x y : Operand} {v : TV} {q : Option Prop} {u1 u2 : Value} {m n : ByteArray} (h1 : TRel w F β (lookO obs) (.c (.d (.str m))) u1) (h2 : TRel w F β (lookO obs) (.c (.d (.str n))) u2) (h : bin P t op (.c (.d (.str m))) (.c (.d (.str n))) = some (v, q)) (hq : ∀ p, q = some p -> p) :
 ∃ u, ((do eqGuard op t x y u1 u2; binOp op t u1 u2) : Sem Value).run P w = .ok u w /\ TRel w F β (lookO obs) v u := by
 simp only [bin] at h
 have e1 := of_str h1
 have e2 := of_str h2
 subst e1 e2
 split at h
 ·injection h with h
  obtain ⟨rfl, rfl⟩ := Prod.mk.inj h
  have hb : m.size + n.size <= 9223372036854775807 := hq _ rfl
  exact ⟨.string (m ++ n), by
   have : ¬ (IntKind.i64.max < ((m.size + n.size : Nat) : Int)) := by rw [IntKind.max_i64]; omega
   simp only [eqGuard_at_string, Sem.run_bind, Sem.run_pure, Result.andThen_ok, binOp, Op.stringOp]
   rw [if_neg (by simpa using this)]; rfl, trel_d (.str _)⟩
 ·injection h with h
  obtain ⟨rfl, rfl⟩ := Prod.mk.inj h
  exact ⟨_, by simp [eqGuard_at_string, binOp, Op.stringOp], trel_d (.bool _)⟩
 ·injection h with h
  obtain ⟨rfl, rfl⟩ := Prod.mk.inj h
  exact ⟨_, by simp [eqGuard_at_string, binOp, Op.stringOp], trel_d (.bool _)⟩
 ·cases h
theorem bin_agg {t : TypeId} {op : BinOp} {x y : Operand} {v : TV} {q : Option Prop} {u1 u2 : Value} {xs ys : List Cl} (h1 : TRel w F β (lookO obs) (.agg xs) u1) (h2 : TRel w F β (lookO obs) (.agg ys) u2) (h : bin P t op (.agg xs) (.agg ys) = some (v, q)) (hq : ∀ p, q = some p -> p) :
 ∃ u, ((do eqGuard op t x y u1 u2; binOp op t u1 u2) : Sem Value).run P w = .ok u w /\ TRel w F β (lookO obs) v u := by
 simp only [bin] at h
 obtain ⟨vxs, rfl, r1, _⟩ := of_agg h1
 obtain ⟨vys, rfl, r2, _⟩ := of_agg h2
 split at h
 ·rename_i fs hu
  split at h
  ·rename_i hc
   have hf : P.fieldsOf t = fs := by unfold Program.fieldsOf; rw [hu]
   have he : ∀ r, eqFlat P fs.toList 0 xs ys = some r -> (Op.equalIn 10000 t (.agg vxs) (.agg vys)).run P w = .ok r w := fun r hr => by
    rw [run_equalIn_agg w 9999 t vxs vys (by rw [hf]; exact hu) hc.2, hf]
    exact eqFlat_run 9998 fs.toList 0 xs ys vxs vys r (by simpa using r1) (by simpa using r2) hr
   split at h
   ·rename_i r hr
    injection h with h
    obtain ⟨rfl, rfl⟩ := Prod.mk.inj h
    exact ⟨_, by simp only [Sem.run_bind, run_eqGuard_agg w .eql t x y vxs vys hc.1, Result.andThen_ok, run_eql_struct, he r hr], trel_d (.bool _)⟩
   ·rename_i r hr
    injection h with h
    obtain ⟨rfl, rfl⟩ := Prod.mk.inj h
    exact ⟨_, by simp only [Sem.run_bind, run_eqGuard_agg w .neq t x y vxs vys hc.1, Result.andThen_ok, run_neq_struct, he r hr], trel_d (.bool _)⟩
   ·cases h
  ·cases h
 ·cases h
theorem bin_ok {t : TypeId} {op : BinOp} {x y : Operand} {vx vy : TV} {v : TV} {q : Option Prop} {u1 u2 : Value} (h1 : TRel w F β (lookO obs) vx u1) (h2 : TRel w F β (lookO obs) vy u2) (h : bin P t op vx vy = some (v, q)) (hq : ∀ p, q = some p -> p) :
 ∃ u, ((do eqGuard op t x y u1 u2; binOp op t u1 u2) : Sem Value).run P w = .ok u w /\ TRel w F β (lookO obs) v u := by
 cases vx with
 | c c1 => cases vy with
  | c c2 =>
   cases c1 <;> try (simp [bin] at h; done)
   rename_i d1
   cases c2 <;> try (cases d1 <;> simp [bin] at h; done)
   rename_i d2
   cases d1 <;> cases d2 <;> try (simp [bin] at h; done)
   ·exact bin_bool h1 h2 h hq
   ·exact bin_int h1 h2 h hq
   ·exact bin_str h1 h2 h hq
  | agg ys => cases c1 <;> first | (simp [bin] at h; done) | (rename_i d1; cases d1 <;> simp [bin] at h)
  | tup ts => cases c1 <;> first | (simp [bin] at h; done) | (rename_i d1; cases d1 <;> simp [bin] at h)
 | agg xs => cases vy with
  | agg ys => exact bin_agg h1 h2 h hq
  | c c2 => simp [bin] at h
  | tup ts => simp [bin] at h
 | tup ts => simp [bin] at h

theorem ptr_eq {t el : TypeId} {A : Addr} (hu : P.underlying t = some (.pointer el)) : (Op.equal t (.pointer (some A)) (.pointer none)).run P w = .ok false w := by
 have h : ∀ d : Nat, (Op.equalIn (d + 1) t (.pointer (some A)) (.pointer none)).run P w = .ok false w := fun d => by simp [Op.equalIn, run_underlying hu]
 exact h 9999
theorem ptr_eql {t el : TypeId} {A : Addr} (hu : P.underlying t = some (.pointer el)) : (binOp .eql t (.pointer (some A)) (.pointer none)).run P w = .ok (.bool false) w := by
 have : binOp .eql t (.pointer (some A)) (.pointer none) = (do pure (.bool (<- Op.equal t (.pointer (some A)) (.pointer none)))) := rfl
 rw [this]
 simp only [Sem.run_bind, ptr_eq (w := w) hu, Result.andThen_ok, Sem.run_pure]
theorem ptr_neq {t el : TypeId} {A : Addr} (hu : P.underlying t = some (.pointer el)) : (binOp .neq t (.pointer (some A)) (.pointer none)).run P w = .ok (.bool true) w := by
 have : binOp .neq t (.pointer (some A)) (.pointer none) = (do pure (.bool (!(<- Op.equal t (.pointer (some A)) (.pointer none))))) := rfl
 rw [this]
 simp only [Sem.run_bind, ptr_eq (w := w) hu, Result.andThen_ok, Sem.run_pure]
 rfl
theorem good_binOp {op : BinOp} {t u : TypeId} {x y : Operand} (H : Heap w F β γ (lookO obs)) (E : EnvOk w F β obs env a) (ho : o.op = .binOp op t x y u) (h : exec P env obs o sup = some e) (hq : ∀ p, e.req = some p -> p) : Good P w F β γ obs env a o e := by
 unfold exec at h
 simp only [ho] at h
 have hx := evalO_rel E x
 have hy := evalO_rel E y
 split at h
 ·rename_i el nm off hu hxe hye hal
  rw [hxe] at hal
  simp only [alive] at hal
  split at hal
  ·rename_i ob hob
   rw [eff_inj h]
   rw [hxe, TRel] at hx
   simp only [CRel, hob] at hx
   obtain ⟨_, b, _, hv⟩ := hx
   rw [hye] at hy
   have hyv : a.eval y = .pointer none := by
    generalize a.eval y = yy at hy
    cases of_trel_d hy
    rfl
   refine Good.pure H E (v := .bool false) ?_ (trel_d (.bool _))
   simp only [execOp, ho, hv, hyv, eqGuard_at_pointer, Sem.run_bind, Sem.run_pure, Result.andThen_ok, ptr_eql (w := w) hu]
  ·cases hal
 ·rename_i el nm off hu hxe hye hal
  rw [hxe] at hal
  simp only [alive] at hal
  split at hal
  ·rename_i ob hob
   rw [eff_inj h]
   rw [hxe, TRel] at hx
   simp only [CRel, hob] at hx
   obtain ⟨_, b, _, hv⟩ := hx
   rw [hye] at hy
   have hyv : a.eval y = .pointer none := by
    generalize a.eval y = yy at hy
    cases of_trel_d hy
    rfl
   refine Good.pure H E (v := .bool true) ?_ (trel_d (.bool _))
   simp only [execOp, ho, hv, hyv, eqGuard_at_pointer, Sem.run_bind, Sem.run_pure, Result.andThen_ok, ptr_neq (w := w) hu]
  ·cases hal
 ·split at h
  ·rename_i v q hb
   rw [effR_inj h] at hq ⊢
   obtain ⟨r, hr, ht⟩ := bin_ok (x := x) (y := y) hx hy hb (fun p hp => by cases hp; exact hq _ rfl)
   exact Good.pure H E (by simp only [execOp, ho]; rw [Sem.run_bind, hr]; simp) ht
  ·rename_i v hb
   rw [eff_inj h]
   obtain ⟨r, hr, ht⟩ := bin_ok (x := x) (y := y) hx hy hb (fun p hp => by cases hp)
   exact Good.pure H E (by simp only [execOp, ho]; rw [Sem.run_bind, hr]; simp) ht
  ·cases h
end
end Go.DI
namespace Go.DI
open Go Go.RowKit
variable [Tabs]

section
variable {P : Program} {w : World} {F : Nat -> Prop} {β : Nat -> Option (Nat × Nat)} {γ : Nat -> Option Nat} {obs : Obs} {env : Env} {a : Act} {o : Oper} {sup : Option Sup} {e : Eff}

theorem fro_slice {sz n : Nat} {get : Nat -> List Dat} {v : Value} (h : DRel w F (.fro sz n get) v) : ∃ A cap, v = .slice A n cap /\ n <= cap := by
 cases h with
 | fro0 _ _ a cap => exact ⟨a, cap, rfl, Nat.zero_le _⟩
 | fro _ _ _ A cap cell hF hc hl hcell hrel => exact ⟨some A, cap, rfl, hc⟩

theorem own_slice {nm : Nat} {k : RK} {e2 sz n : Nat} {get : Nat -> List Dat} {v : Value} (hob : lookO obs nm = some (.row k e2 sz n get)) (h : CRel w F β (lookO obs) (.own nm) v) : ∃ A cap, v = .slice A n cap := by
 simp only [CRel, hob] at h
 rcases h.2 with ⟨_, h1, _, rfl⟩ | ⟨b, q, cap, _, rfl, _⟩
 ·subst h1; exact ⟨none, 0, rfl⟩
 ·exact ⟨_, cap, rfl⟩

theorem len_run {t el : TypeId} (hu : P.underlying t = some (.slice el)) (A : Option Addr) (n cap : Nat) (ty : TypeId) : (Builtin.len_ #[t] ty #[.slice A n cap]).run P w = .ok (.int .i64 n) w := by
 simp [Builtin.len_, run_underlying hu, goInt]

theorem good_len {x : Operand} {ty : TypeId} {c : Call} (H : Heap w F β γ (lookO obs)) (E : EnvOk w F β obs env a) (ho : o.op = .call c) (hc : c = { callee := .builtin .len, args := #[x], argTypes := #[ty] }) {v : TV} {rd : List Nat} {q : Option Prop}
 (hv : (∃ s, evalO env x = .c (.d (.str s)) /\ P.underlying ty = some .string /\ v = dInt .i64 s.size) \/ (∃ sz n get el, evalO env x = .c (.d (.fro sz n get)) /\ P.underlying ty = some (.slice el) /\ v = dInt .i64 n) \/
  (∃ nm k e2 sz n get el, evalO env x = .c (.own nm) /\ lookO obs nm = some (.row k e2 sz n get) /\ P.underlying ty = some (.slice el) /\ v = dInt .i64 n) \/ (∃ el, evalO env x = .c .nils /\ P.underlying ty = some (.slice el) /\ v = dInt .i64 0)) :
 Good P w F β γ obs env a o ⟨v, [], rd, q⟩ := by
 have hx := evalO_rel E x
 have run : ∀ (u : Value) (r : Value), a.eval x = u -> (Builtin.len_ #[ty] o.type #[u]).run P w = .ok r w -> (execOp a.eval o).run P w = .ok (.value r) w := fun u r hu hr => by
  subst hc
  simp [execOp, ho, resolve, invoke, builtin, hu, hr]
 rcases hv with ⟨s, h1, h2, rfl⟩ | ⟨sz, n, get, el, h1, h2, rfl⟩ | ⟨nm, k, e2, sz, n, get, el, h1, h3, h2, rfl⟩ | ⟨el, h1, h2, rfl⟩
 ·rw [h1] at hx
  exact Good.pure H E (run _ _ (of_str hx) (by simp [Builtin.len_, run_underlying h2, goInt])) (trel_d (.int _ _))
 ·rw [h1] at hx
  obtain ⟨A, cap, hs, _⟩ := fro_slice (of_trel_d hx)
  exact Good.pure H E (run _ _ hs (len_run h2 A n cap _)) (trel_d (.int _ _))
 ·rw [h1] at hx
  obtain ⟨A, cap, hs⟩ := own_slice h3 (of_c hx)
  exact Good.pure H E (run _ _ hs (len_run h2 A n cap _)) (trel_d (.int _ _))
 ·rw [h1] at hx
  have hs : a.eval x = .slice none 0 0 := of_c hx
  exact Good.pure H E (run _ _ hs (len_run h2 none 0 0 _)) (trel_d (.int _ _))

theorem good_mm {x y : Operand} {tys : Array TypeId} {c : Call} {b : Builtin} (H : Heap w F β γ (lookO obs)) (E : EnvOk w F β obs env a) (ho : o.op = .call c) (hc : c = { callee := .builtin b, args := #[x, y], argTypes := tys }) {k : IntKind} {m n : Int} {v : TV} {rd : List Nat} {q : Option Prop}
 (hx : evalO env x = .c (.d (.int k m))) (hy : evalO env y = .c (.d (.int k n))) (hv : (b = .min /\ v = dInt k (mnI m n)) \/ (b = .max /\ v = dInt k (mxI m n))) : Good P w F β γ obs env a o ⟨v, [], rd, q⟩ := by
 have h1 := evalO_rel E x
 have h2 := evalO_rel E y
 rw [hx] at h1
 rw [hy] at h2
 subst hc
 rcases hv with ⟨rfl, rfl⟩ | ⟨rfl, rfl⟩
 ·exact Good.pure H E (by simp [execOp, ho, resolve, invoke, builtin, of_int h1, of_int h2, run_min_int2]; rfl) (trel_d (.int _ _))
 ·exact Good.pure H E (by simp [execOp, ho, resolve, invoke, builtin, of_int h1, of_int h2, run_max_int2]; rfl) (trel_d (.int _ _))

theorem bounds_run {isSlice : Bool} {len cap : Nat} {lo hi : Option Value} (l h : Nat) (hlo : (lo = none /\ l = 0) \/ ∃ k, lo = some (.int k (l : Int))) (hhi : (hi = none /\ h = len) \/ ∃ k, hi = some (.int k (h : Int))) (h1 : l <= h) (h2 : h <= cap) (h3 : len <= cap) :
 (Instr.sliceBounds isSlice len cap lo hi none).run P w = .ok (l, h, cap) w := by
 have b1 : ∀ (k : IntKind) (y : Nat) (code : BoundsCode), l <= y -> (Instr.sliceBound (.int k (l : Int)) y code).run P w = .ok l w := fun k y code hy => by
  simp [Instr.sliceBound, asIntOf, hy]
 have b2 : ∀ (k : IntKind) (y : Nat) (code : BoundsCode), h <= y -> (Instr.sliceBound (.int k (h : Int)) y code).run P w = .ok h w := fun k y code hy => by
  simp [Instr.sliceBound, asIntOf, hy]
 rcases hlo with ⟨rfl, rfl⟩ | ⟨k, rfl⟩ <;> rcases hhi with ⟨rfl, rfl⟩ | ⟨k', rfl⟩ <;> simp [Instr.sliceBounds, b1, b2, h1, h2]

theorem toNat_int {i : Int} (h : 0 <= i) : i = (i.toNat : Int) := by omega

theorem string_part {t : TypeId} {x : Operand} {lo hi : Option Operand} {s : ByteArray} {l h : Nat} (H : Heap w F β γ (lookO obs)) (E : EnvOk w F β obs env a) (ho : o.op = .slice t x lo hi none) (hu : P.underlying t = some .string) (hx : evalO env x = .c (.d (.str s)))
 (hlo : (lo.map a.eval = none /\ l = 0) \/ ∃ k, lo.map a.eval = some (.int k (l : Int))) (hhi : (hi.map a.eval = none /\ h = s.size) \/ ∃ k, hi.map a.eval = some (.int k (h : Int))) (h1 : l <= h) (h2 : h <= s.size) {rd : List Nat} {q : Option Prop} :
 Good P w F β γ obs env a o ⟨dStr (s.extract l h), [], rd, q⟩ := by
 have he := evalO_rel E x
 rw [hx] at he
 refine Good.pure H E (v := .string (s.extract l h)) ?_ (trel_d (.str _))
 have hb := bounds_run (P := P) (w := w) (isSlice := false) (len := s.size) (cap := s.size) l h hlo hhi h1 h2 (Nat.le_refl _)
 simp [execOp, ho, of_str he, Instr.sliceAt, Instr.slice, run_underlying hu, hb]

theorem map_eval {x : Option Operand} {k : IntKind} {i : Int} (E : EnvOk w F β obs env a) (h : x.map (evalO env) = some (.c (.d (.int k i)))) : x.map a.eval = some (.int k i) := by
 cases x with
 | none => simp at h
 | some x =>
  simp at h
  have he := evalO_rel E x
  rw [h] at he
  simp [of_int he]
theorem map_none {x : Option Operand} (h : x.map (evalO env) = none) : x.map a.eval = none := by cases x <;> simp_all

theorem sliceAt_slice {t el : TypeId} (hu : P.underlying t = some (.slice el)) (x : Value) (lo hi mx : Option Value) : (Instr.sliceAt t x lo hi mx).run P w = (Instr.slice t x lo hi mx).run P w := by
 simp [Instr.sliceAt, run_underlying hu]

theorem slice_part_run {t el : TypeId} {A : Option Addr} {n cap l h : Nat} {lo hi : Option Value} (hu : P.underlying t = some (.slice el)) (hi' : ∃ i, P.info? el = some i)
 (hlo : (lo = none /\ l = 0) \/ ∃ k, lo = some (.int k (l : Int))) (hhi : (hi = none /\ h = n) \/ ∃ k, hi = some (.int k (h : Int))) (h1 : l <= h) (h2 : h <= n) (h3 : n <= cap) :
 (Instr.sliceAt t (.slice A n cap) lo hi none).run P w = .ok (.slice (if cap = l then A else A.map (·.add (l * P.cellsOf el))) (h - l) (cap - l)) w := by
 obtain ⟨i, hi'⟩ := hi'
 have hb := bounds_run (P := P) (w := w) (isSlice := true) (len := n) (cap := cap) l h hlo hhi h1 (by omega) h3
 have hs : i.size = P.cellsOf el := by simp [Program.cellsOf, hi']
 rw [sliceAt_slice hu]
 simp [Instr.slice, run_underlying hu, hb, sizeOf, typeInfo, hi', hs]

theorem fro_part {t el : TypeId} {x : Operand} {lo hi : Option Operand} {sz n n' l h : Nat} {get get' : Nat -> List Dat} (H : Heap w F β γ (lookO obs)) (E : EnvOk w F β obs env a) (ho : o.op = .slice t x lo hi none) (hu : P.underlying t = some (.slice el)) (hin : ∃ i, P.info? el = some i)
 (hx : evalO env x = .c (.d (.fro sz n get))) (hsz : sz = P.cellsOf el)
 (hlo : (lo.map a.eval = none /\ l = 0) \/ ∃ k, lo.map a.eval = some (.int k (l : Int))) (hhi : (hi.map a.eval = none /\ h = n) \/ ∃ k, hi.map a.eval = some (.int k (h : Int))) (h1 : l <= h) (h2 : h <= n) (hn : n' = h - l) (hs : Same n' get' fun j => get (j + l)) {rd : List Nat} {q : Option Prop} :
 Good P w F β γ obs env a o ⟨.c (.d (.fro sz n' get')), [], rd, q⟩ := by
 have he := evalO_rel E x
 rw [hx] at he
 have hd := of_trel_d he
 obtain ⟨A, cap, hv, hcap⟩ := fro_slice hd
 refine Good.pure H E (v := .slice (if cap = l then A else A.map (·.add (l * P.cellsOf el))) (h - l) (cap - l)) ?_ (trel_d ?_)
 ·simp [execOp, ho, hv, slice_part_run (P := P) (w := w) hu hin hlo hhi h1 h2 hcap]
 ·subst hn
  by_cases h0 : h - l = 0
  ·rw [h0]; exact .fro0 _ _ _ _
  ·rw [hv] at hd
   cases hd with
   | fro0 => omega
   | fro _ _ _ A cap cell hF hc hl hcell hrel =>
    rw [if_neg (by omega)]
    refine .fro sz (h - l) get' (A.add (l * P.cellsOf el)) (cap - l) (fun j i => cell (j + l) i) (by rw [add_block]; exact hF) (by omega) (fun j hj => ?_) (fun j i hj hi => ?_) (fun j i d hj hd => ?_)
    ·rw [(hs j hj).get.1]; exact hl (j + l) (by omega)
    ·rw [add_add, <- hsz]
     have : l * sz + (j * sz + i) = (j + l) * sz + i := by rw [Nat.add_mul]; omega
     rw [this]
     exact hcell (j + l) i (by omega) hi
    ·obtain ⟨b, hb, hsim⟩ := (hs j hj).get.2 i d hd
     exact (hrel (j + l) i b (by omega) hb).sim hsim

theorem own_view {t el : TypeId} {x : Operand} {lo hi : Option Operand} {nm e2 sz n l h : Nat} {k : RK} {get : Nat -> List Dat} (H : Heap w F β γ (lookO obs)) (E : EnvOk w F β obs env a) (ho : o.op = .slice t x lo hi none) (hu : P.underlying t = some (.slice el)) (hin : ∃ i, P.info? el = some i)
 (hx : evalO env x = .c (.own nm)) (hob : lookO obs nm = some (.row k e2 sz n get)) (hsz : sz = P.cellsOf el)
 (hlo : (lo.map a.eval = none /\ l = 0) \/ ∃ k, lo.map a.eval = some (.int k (l : Int))) (hhi : (hi.map a.eval = none /\ h = n) \/ ∃ k, hi.map a.eval = some (.int k (h : Int))) (h1 : l <= h) (h2 : h <= n) (hpos : l < h) {rd : List Nat} {q : Option Prop} :
 Good P w F β γ obs env a o ⟨.c (.vw nm l (h - l)), [], rd, q⟩ := by
 have he := evalO_rel E x
 rw [hx] at he
 have hr := of_c he
 simp only [CRel, hob] at hr
 rcases hr.2 with ⟨_, g1, _, _⟩ | ⟨b, qo, cap, g1, g2, g3, g4, g5⟩
 ·omega
 ·refine Good.pure H E (v := .slice (some ((⟨b, qo + 0 * sz, none⟩ : Addr).add (l * P.cellsOf el))) (h - l) (cap - l)) ?_ ?_
  ·have := slice_part_run (P := P) (w := w) (A := some ⟨b, qo + 0 * sz, none⟩) hu hin hlo hhi h1 h2 g3
   rw [if_neg (by omega)] at this
   simp only [Option.map_some] at this
   simp only [execOp, ho, g2, Sem.run_bind, Option.map_none, this, Result.andThen_ok]
   rfl
  ·rw [TRel]
   simp only [CRel, hob]
   refine ⟨rfl, by omega, .inr ⟨b, qo, cap - l, g1, by rw [Addr.add_lit, hsz]; simp, by omega, by omega, fun hk cur e fr hh => ?_⟩⟩
   have := g5 hk cur e fr hh
   rw [Nat.zero_add] at this
   have e1 : l + (cap - l) = cap := by omega
   rw [e1]; exact this
end
end Go.DI
