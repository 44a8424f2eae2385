import PyProof.Rows.All
import HandS.Zip
import KE.GoesMore
import PyProof.EnumMake
import HandS.ForMost
import HandS.ForExc
import HandS.TupAny
import HandS.Deep
import HandS.Flow
import HandS.Style
import HandS.Conv
import HandS.IsInst
import HandS.Wide
import HandS.Text
import PyProof.Rows.StrRev
import HandS.ExcOwn
import HandS.Iter
import HandS.Comp
import HandS.TryOnly
import HandS.TryMany
import HandS.ExcIs
import PySem.Challenge.RW_chancewhole_k76_families_that_end
set_option Elab.async false
set_option linter.all false
set_option maxRecDepth 100000
/-! enumerate of a tuple. -/
namespace MP
open PySem PySem.Spec PyProof.Rows L2
open Sem (wp)
open AutoSeq1 (wpAny_loadPart')

set_option maxHeartbeats 1000000 in
theorem enumT_new (p : Addr) (its : Array Value) (k : Nat) (di : Option Addr) (sl : Array (Option Value)) :
    Meets (Builtin.«enumerate.__new__» ⟨[.type "enumerate", .ref p], []⟩) (fun _ R s =>
      s.heap.get? p = some { cls := .type "tuple", dict := di, data := .seq its k, slots := sl } ∧
      R (.ok (.ret (.ref (s.heap.push { cls := .type "tuple_iterator", data := .fields #[.ref p, .int 0 0] }).objs.size)))
        { s with heap := (s.heap.push { cls := .type "tuple_iterator", data := .fields #[.ref p, .int 0 0] }).push { cls := .type "enumerate", data := .fields #[.none, .bool false, .ref s.heap.objs.size, rawInt 0, .none, .none] } }) :=
  .of_wp fun prog w A R s q => by
    obtain ⟨hp, gs, dd, tk, os⟩ := s
    obtain ⟨hp0, q⟩ := q
    have sube := sub_enumerate
    have tupP : Heap.IsTuple (Shared.heap ⟨hp, gs, dd, tk, os⟩) p its := ⟨_, hp0, rfl, k, rfl⟩
    wp_walk using wpAny_loadPart' hp0
    refine wpAny_stack_any fun stk => wpAny_pure ?_
    split
    · rename_i c _ _ _ _ _
      cases (c == Value.type "enumerate")
      · wp_walk using wpAny_loadPart' hp0, wpAny_pyIter_tuple tupP
        exact ⟨_, rfl, q⟩
      · wp_walk using wpAny_loadPart' hp0, wpAny_pyIter_tuple tupP
        exact ⟨_, rfl, q⟩
    · wp_walk using wpAny_loadPart' hp0, wpAny_pyIter_tuple tupP
      exact ⟨_, rfl, q⟩
section
variable {prog : Program} {w : World} {A : Around} {E : Value → Shared → Prop} {s : Shared}
theorem call_enumT {p : Addr} {its : Array Value} {Q : Value → Shared → Prop} (hp : s.heap.IsTuple p its)
    (h : ∀ h', IsEnum h' (s.heap.objs.size + 1) s.heap.objs.size 0 .none → h'.IsTupleIter s.heap.objs.size p 0 → (∀ b o, s.heap.get? b = some o → h'.get? b = some o) → Q (.ref (s.heap.objs.size + 1)) { s with heap := h' }) :
    wpAny (model prog w) A (PySem.call (.type "enumerate") [.ref p]) Q E s := by
  obtain ⟨⟨c, di, da, sl⟩, hp, hc, k, hd⟩ := hp
  cases (show c = .type "tuple" from hc)
  cases (show da = .seq its k from hd)
  have z1 : (s.heap.push { cls := .type "tuple_iterator", data := .fields #[.ref p, .int 0 0] }).objs.size = s.heap.objs.size + 1 := Heap.size_push ..
  have en : IsEnum ((s.heap.push { cls := .type "tuple_iterator", data := .fields #[.ref p, .int 0 0] }).push
      { cls := .type "enumerate", data := .fields #[.none, .bool false, .ref s.heap.objs.size, rawInt 0, .none, .none] }) (s.heap.objs.size + 1) s.heap.objs.size 0 .none := by
    rw [← z1]
    exact Heap.get?_push_size _ rfl
  refine callType_new F.called_enumerate (by decide) (F.typeCall_enumerate_1 _) (F.newCall_enumerate_1 _) (fun o => F.args_object_init_2 o _) F.entry_enumerate_new (enumT_new p its k di sl) ⟨hp, ?_⟩
  show _ ∧ _
  rw [z1]
  exact ⟨⟨_, en, rfl⟩, h _ en ⟨_, Heap.get?_push_of_some _ (Heap.get?_push_size _ rfl), rfl, rfl⟩ fun b o e => Heap.get?_push_of_some _ (Heap.get?_push_of_some _ e)⟩
end
/-- a tuple's items with their numbers, each in a new pair -/
def IteT (K : PySem.W.Frag) (a : Addr) : It :=
  ⟨fun i H => ∃ (xs : List V) (x : V), SqT K H a xs ∧ xs[i]? = some x, fun i H v H' => ∃ p x, v = .ref p ∧ H p = none ∧ H' = upd H p (.tup [.int (i : Nat), x]) ∧ ∀ xs, SqT K H a xs → xs[i]? = some x, fun i H => ∃ xs : List V, SqT K H a xs ∧ xs.length ≤ i⟩
theorem turn_enumT {P : Program} {w : World} {K : PySem.W.Frag} {ts : List Expr} {kk : Nat} {tp : Pos} (a e it : Addr) (hae : a ≠ it) (hea : e ≠ a) :
    Turn P w K (.Tuple ts kk tp) (IteT K a) [e, it] e (fun i h => (∃ old, IsEnum h e it ((i : Nat) : Int) old) ∧ h.IsTupleIter it a i ∧ e ≠ it) where
  mem := by simp
  obj := fun i h st b hb => by
    obtain ⟨⟨old, he⟩, ⟨o, ho, hc, hd⟩, _⟩ := st
    rcases (show b = e ∨ b = it by simpa using hb) with rfl | rfl
    · exact ⟨_, he, fun v q => nomatch q⟩
    · exact ⟨o, ho, fun v q => by rw [hd] at q; cases q⟩
  keep := fun i h h' st k => by
    obtain ⟨⟨old, he⟩, hi, ne⟩ := st
    exact ⟨⟨old, k e (by simp) _ he⟩, hi.at fun o q => k it (by simp) o q, ne⟩
  item := by
    intro X hP hw hK hc i pins s σ H E I hf st hg
    subst hP hw hK
    obtain ⟨⟨old, he⟩, hit, ne⟩ := st
    obtain ⟨xs, x, hq, hx⟩ := hg
    obtain ⟨its, rv, tp, _⟩ := I.tuple hq
    have hd1 := I.ok.hd hc
    have tp : s.heap.IsTuple a its.toArray := tp
    have lene : e < s.heap.objs.size := Heap.lt_size he
    have lenit : it < s.heap.objs.size := by obtain ⟨_, q, _⟩ := hit; exact Heap.lt_size q
    have hlt : i < its.toArray.size := by
      have l1 := rv.length
      have := (List.getElem?_eq_some_iff.mp hx).1
      simp only [List.size_toArray]
      omega
    refine wpAny_pyNext_enum_itemD (Draws.tuple (A := X.A.in1) (show X.A.in1.handled = none from hd1) it a hae its.toArray) he ⟨hit, tp⟩ hlt ne (by simp [ne, hea]) fun u h' tk hu ho st' hT hsz hk => ?_
    obtain ⟨u0, hu0, ru⟩ := rv.get hx
    have eu : u0 = u := by
      have q : its.toArray[i]? = some u := hu
      rw [List.getElem?_toArray, hu0] at q
      exact Option.some.inj q
    subst eu
    refine ⟨_, rfl, wpAny_letOwnedTupleGo_enum (s := { s with heap := h', toks := tk + 1 }) ho fun h2 he2 sb => ?_⟩
    have hT2 : h2.get? s.heap.objs.size = some { cls := .type "tuple", data := .seq #[.int i tk, u0] } := (sb.2 _ (Nat.ne_of_gt lene)).trans hT
    have new : ObjOk X.prog X.w (upd H s.heap.objs.size (.tup [.int (i : Nat), x])) h2 s.heap.objs.size (.tup [.int (i : Nat), x]) :=
      ⟨by show 2 ≤ sizeLine; decide, [.int i tk, u0], .cons ⟨_, rfl⟩ (.cons ru .nil), ⟨_, hT2, rfl, _, rfl⟩⟩
    have I1 : Inv X pins σ (upd H s.heap.objs.size (.tup [.int (i : Nat), x])) { s with heap := h2, toks := tk + 1 } :=
      I.turnedNew (ch := [e, it]) (fun b o hb q => (sb.2 b (fun z => hb (by simp [z]))).trans (hk b o (fun z => hb (by simp [z])) (fun z => hb (by simp [z])) q)) hf (Nat.le_refl _) new
    refine ⟨.ref s.heap.objs.size, _, I1, rfl, ⟨_, x, rfl, I.hok.fresh (Nat.le_refl _), rfl, fun ys hy => by rw [I.tuple_inj hy hq]; exact hx⟩, ⟨⟨u0, ?_⟩, st'.1.at fun o q => (sb.2 it (Ne.symm ne)).trans q, ne⟩, fun b hb => ?_⟩
    · have e1 : ((i + 1 : Nat) : Int) = (i : Int) + 1 := by omega
      rw [e1]
      exact he2
    · have lb : b < s.heap.objs.size := by
        rcases (show b = e ∨ b = it by simpa using hb) with rfl | rfl
        · exact lene
        · exact lenit
      rw [upd_ne (Nat.ne_of_lt lb)]
      exact (hf b hb).1
  done := by
    intro X hP hw hK hc i pins s σ H E I hf st hg
    subst hP hw hK
    obtain ⟨⟨old, he⟩, hit, ne⟩ := st
    obtain ⟨xs, hq, hx⟩ := hg
    obtain ⟨its, rv, tp, _⟩ := I.tuple hq
    have tp : s.heap.IsTuple a its.toArray := tp
    obtain ⟨f0, f1, f2, f3, f4, f5⟩ := hf it (by simp)
    have l1 := rv.length
    have D : Draws X.prog X.w X.A.in1 it [it, a] i (fun _ _ => False) (fun j h => j = i ∧ h.IsTupleIter it a i ∧ h.IsTuple a its.toArray) :=
      ⟨fun _ _ ⟨_, ⟨o, ho, _⟩, _⟩ => ⟨o, ho⟩, fun _ _ _ ⟨q, st, tq⟩ hk => ⟨q, st.at fun o z => hk it (by simp) o z, tq.at fun o z => hk a (by simp) o z⟩,
        fun j s Q E hj ⟨q, _, _⟩ _ => absurd hj (by omega), fun s Q E ⟨_, st, tq⟩ hE => wpAny_nextOf_tuple_end (show X.A.in1.handled = none from I.ok.hd hc) st tq (by simp; omega) hE⟩
    exact wpAny_pyNext_enum_endD D he ⟨rfl, hit, tp⟩ fun h' eb => ⟨rfl, I.turned (t' := s.toks) (fun b o hb q => eb b o hb q) f0 f1 f3 f4 f5⟩
  self := fun A i s Q E st h => by
    obtain ⟨⟨_, he⟩, _⟩ := st
    exact wpAny_pyIter_enum he h
/-- enumerate of a list or of a tuple -/
def iEnumA (K : PySem.W.Frag) (ta : TA) : TI := fun σ H R => ta σ H fun vs H1 => ∃ a xs, vs = [V.ref a] ∧ ((SqL K H1 a xs ∧ R (Ite K a) H1) ∨ (SqT K H1 a xs ∧ R (IteT K a) H1))
theorem pi_enumA {X : Cx} {e : Expr} {ta : TA} {p pos tpos : Pos} {ts : List Expr} {kk : Nat} (hg : Gl X "enumerate") (hm : X.mg "enumerate" = none) (ha : PA X [e] ta) (hs : starEach [e] X.env = [(false, eval e X.env)]) :
    PI X (.Tuple ts kk tpos) (.Call (.Name "enumerate" p) [e] [] pos) (iEnumA X.K ta) := by
  refine ⟨fun pins s σ H R I q0 => ?_⟩
  refine Call_ (ld_blt I hg hm boot_enumerate (PyProof.Rows.callWith_type1 (thn (ha.run pos pins s σ H _ I q0) fun us s1 ⟨vs, H1, I1, r1, q1⟩ => ?_) hs rfl))
  obtain ⟨a, xs, ex, q1⟩ := q1
  subst ex
  cases r1 with
  | cons r rr =>
    cases rr
    cases r
    have two : ∀ b, b ∈ [s1.heap.objs.size + 1, s1.heap.objs.size] → FpOk X pins H1 b := fun b hb => by
      have le : s1.heap.objs.size ≤ b := by
        rcases (show b = s1.heap.objs.size + 1 ∨ b = s1.heap.objs.size by simpa using hb) with z | z
        · rw [z]; exact Nat.le_succ _
        · rw [z]; exact Nat.le_refl _
      exact I1.fpOk le (I1.hok.fresh le)
    rcases q1 with ⟨hq, q⟩ | ⟨hq, q⟩
    · obtain ⟨its, rv, pl, _⟩ := I1.list hq
      refine call_enumerate_list pl.isList fun h' he hit _ hk => wpAny_pyIter_enum he ?_
      exact ⟨s1.heap.objs.size + 1, [s1.heap.objs.size + 1, s1.heap.objs.size], _, _, H1, rfl, I1.kept (t' := s1.toks) hk, turn_enum a _ _, ⟨⟨.none, he⟩, hit, Nat.succ_ne_self _⟩, two, q⟩
    · obtain ⟨its, rv, pl, _⟩ := I1.tuple hq
      obtain ⟨o1, ho1, _⟩ := id pl
      have lt1 : a < s1.heap.objs.size := Heap.lt_size ho1
      refine call_enumT (show s1.heap.IsTuple a its.toArray from pl) fun h' he hit hk => wpAny_pyIter_enum he ?_
      exact ⟨s1.heap.objs.size + 1, [s1.heap.objs.size + 1, s1.heap.objs.size], _, _, H1, rfl, I1.kept (t' := s1.toks) hk, turn_enumT a (s1.heap.objs.size + 1) s1.heap.objs.size (Nat.ne_of_lt lt1) (Nat.ne_of_gt (Nat.lt_succ_of_lt lt1)), ⟨⟨.none, he⟩, hit, Nat.succ_ne_self _⟩, two, q⟩
end MP
set_option Elab.async false
set_option linter.all false
set_option maxRecDepth 100000
/-! My small interpreter over plain data: values, expressions, statements, what they give. -/
namespace MP
open PySem L2

inductive D where
  | non | bl (b : Bool) | int (i : Int) | str (s : Str) | lst (xs : List D) | tup (xs : List D) | dct (kvs : List (D × D)) | st | err (c : Nat)

mutual
def eqD : D → D → Bool
  | .non, .non => true
  | .bl a, .bl b => a == b
  | .bl a, .int j => (if a then 1 else 0) == j
  | .int i, .bl b => i == (if b then 1 else 0)
  | .int i, .int j => i == j
  | .str x, .str y => x == y
  | .lst xs, .lst ys => eqDs xs ys
  | .tup xs, .tup ys => eqDs xs ys
  | _, _ => false
def eqDs : List D → List D → Bool
  | [], [] => true
  | x :: xs, y :: ys => eqD x y && eqDs xs ys
  | _, _ => false
end
def sOk (x : Str) : Bool := x.cps.all (· < 0x110000)
mutual
def shp : Nat → D → Bool
  | _, .non => true
  | _, .bl _ => true
  | _, .int _ => true
  | _, .str s => sOk s
  | n, .lst xs => match n with | 0 => false | n + 1 => shps n xs
  | n, .tup xs => match n with | 0 => false | n + 1 => shps n xs
  | _, .dct _ => false
  | _, .st => false
  | _, .err _ => false
def shps : Nat → List D → Bool
  | _, [] => true
  | n, x :: xs => shp n x && shps n xs
end
def truthD : D → Option Bool
  | .non => some false
  | .bl b => some b
  | .int i => some (i != 0)
  | .str s => if s.length ≤ 16777216 then some (s.length != 0) else none
  | .lst xs => some (!xs.isEmpty)
  | .tup xs => some (!xs.isEmpty)
  | _ => none

/-- a key: an int, a text, a tuple of such -/
def keyD : D → Bool
  | .int _ => true
  | .str _ => true
  | .tup xs => xs.all fun d => match d with | .int _ => true | .str _ => true | _ => false
  | _ => false
def dGet (k : D) : List (D × D) → Option D
  | [] => none
  | (a, v) :: r => if eqD a k then some v else dGet k r
def dPut (k v : D) : List (D × D) → List (D × D)
  | [] => [(k, v)]
  | (a, x) :: r => if eqD a k then (a, v) :: r else (a, x) :: dPut k v r

inductive Ty | int | bool | tuple | str | list
  deriving DecidableEq
inductive Op
  | add | sub | mul | fdiv | mod | neg | pow
  | eq | ne | lt | le | gt | ge | is | isn | mem | nmem
  | ix | slice (lo hi : Bool) | rev
  | len | int | abs | max2 | min2 | maxL | minL | sum | strI | tupL | lstL | join | repEq | get
  deriving DecidableEq

inductive MT where
  | nm (i : Nat) | tp (ts : List MT) | tl (ts : List MT)
mutual
inductive ME where
  | var (i : Nat)
  | cI (i : Int) | cB (b : Bool) | cN | cS (s : Str)
  | glob (g : Nat)
  | op (o : Op) (es : List ME)
  | tup (es : List ME) | lst (es : List ME)
  | call (f : Nat) (es : List ME)
  | andL (es : List ME) | orL (es : List ME) | not (a : ME)
  | ife (c a b : ME)
  | chain (o1 o2 : Op) (a b c : ME)
  | slc (a l u : ME)
  | join (c : Str) (a : ME)
  | isi (a : ME) (tys : List Ty)
  | comp (own : List Nat) (elt : ME) (tg : MT) (src : MI) (cond : Option ME)
  | comp2 (own own2 : List Nat) (elt : ME) (tg : MT) (src : MI) (tg2 : MT) (src2 : MI) (cond : Option ME)
  | dnew
  | stG (i k : Nat)
inductive MI where
  | seq (e : ME) | rng1 (e : ME) | rng2 (a b : ME) | enum (e : ME) | zip (a b : ME) | items (e : ME)
end
inductive Mut | append | insert | extend | remove
  deriving DecidableEq
inductive Hd | go | retE
  deriving DecidableEq
inductive MS where
  | asg (t : MT) (e : ME)
  | par (is : List Nat) (es : List ME)
  | stV (i : Nat) (k e : ME)
  | aug (i : Nat) (o : Op) (e : ME)
  | augS (i : Nat) (k : ME) (o : Op) (e : ME)
  | mut (m : Mut) (i : Nat) (es : List ME)
  | popA (t i : Nat) (es : List ME)
  | ife (c : ME) (a b : List MS)
  | forS (t : MT) (src : MI) (b : List MS)
  | whl (c : ME) (b : List MS)
  | ret (e : ME)
  | expr (e : ME)
  | raise (c : Nat)
  | tryS (b : List MS) (hs : List (Nat × Nat × Hd))
  | pass | brk | cnt
  | stS (i k : Nat) (e : ME)
  | stA (i k : Nat) (e : ME)

/-- the state of the draws -/
structure W where
  cells : List Int
  at_ : Nat
  rest : Int
  seed : Int

def stGet (w : W) (k : Nat) : Option D := match k with
  | 0 => some (.lst (w.cells.map D.int))
  | 1 => some (.int w.at_)
  | 2 => some (.int w.rest)
  | 3 => some (.int w.seed)
  | _ => none
def stSet (w : W) (k : Nat) (d : D) : Option W := match k, d with
  | 1, .int i => if 0 ≤ i then some { w with at_ := i.toNat } else none
  | 2, .int i => if 0 ≤ i then some { w with rest := i } else none
  | 3, .int i => if 0 ≤ i ∧ i < 2147483647 then some { w with seed := i } else none
  | _, _ => none
inductive CR where
  | ok (d : D) (w : W) | exc (c : Nat) (w : W) | stuck
inductive Opd where
  | val (d : D) | fresh (d : D) | var (i : Nat) (d : D)
def Opd.d : Opd → D
  | .val d => d
  | .fresh d => d
  | .var _ d => d
abbrev Env := List (Option (D × Bool))
structure S where
  env : Env
  w : W
inductive R (α : Type) where
  | ok (a : α) (s : S) | exc (c : Nat) (s : S) | stuck
def bnd {α β : Type} (m : R α) (f : α → S → R β) : R β := match m with
  | .ok a s => f a s
  | .exc c s => .exc c s
  | .stuck => .stuck
/-- nothing may be raised within a comprehension -/
def bndx {α β : Type} (m : R α) (f : α → S → R β) : R β := match m with
  | .ok a s => f a s
  | .exc _ _ => .stuck
  | .stuck => .stuck
inductive Rs where
  | v (d : D) | f (d : D)
abbrev LN : Nat := 16777216

/-! ### the operators -/
def addD : List D → Option Rs
  | [.int i, .int j] => some (.v (.int (i + j)))
  | [.str x, .str y] => if x.length + y.length ≤ LN then some (.v (.str (x ++ y))) else none
  | [.lst x, .lst y] => if x.length + y.length ≤ LN then some (.f (.lst (x ++ y))) else none
  | [.tup x, .tup y] => if x.length + y.length ≤ LN then some (.v (.tup (x ++ y))) else none
  | _ => none
def bits (i : Int) : Nat := i.natAbs.log2
def i2 (g : Int → Int → Option Rs) : List D → Option Rs
  | [.int i, .int j] => g i j
  | _ => none
def subD : List D → Option Rs := i2 fun i j => some (.v (.int (i - j)))
def mulD : List D → Option Rs := i2 fun i j => if bits i + bits j < 1000000 then some (.v (.int (i * j))) else none
def fdivD : List D → Option Rs := i2 fun i j => if j ≠ 0 ∧ bits j < 9000 then some (.v (.int (i.fdiv j))) else none
def modD : List D → Option Rs := i2 fun i j => if j ≠ 0 then some (.v (.int (i.fmod j))) else none
def powD : List D → Option Rs := i2 fun i j => if 0 ≤ j ∧ j ≤ 1000 ∧ i.natAbs < 2 ^ 64 then some (.v (.int (i ^ j.toNat))) else none
def negD : List D → Option Rs
  | [.int i] => some (.v (.int (-i)))
  | _ => none
def eqB (neg : Bool) : List D → Option Rs
  | [a, b] => if shp 64 a && shp 64 b then some (.v (.bl (if neg then !eqD a b else eqD a b))) else none
  | _ => none
def cmpI (p : Int → Int → Bool) : List D → Option Rs := i2 fun i j => some (.v (.bl (p i j)))
def isB (neg : Bool) : List D → Option Rs
  | [a, .non] => (match a with | .non => some true | .st => none | .err _ => none | _ => some false).map fun b => .v (.bl (if neg then !b else b))
  | [.bl b, .bl c] => some (.v (.bl (if neg then !decide (b = c) else decide (b = c))))
  | _ => none
def memB (neg : Bool) : List D → Option Rs
  | [a, .lst xs] => if shp 64 a && shps 63 xs then some (.v (.bl (if neg then !xs.any (fun z => eqD z a) else xs.any (fun z => eqD z a)))) else none
  | [a, .tup xs] => if shp 64 a && shps 63 xs then some (.v (.bl (if neg then !xs.any (fun z => eqD z a) else xs.any (fun z => eqD z a)))) else none
  | _ => none
def ixD : List D → Option Rs
  | [.lst xs, .int i] => (atI xs i).map .v
  | [.tup xs, .int i] => (atI xs i).map .v
  | _ => none
def cutL {α : Type} (xs : List α) (lo hi : Option Int) : List α := (xs.drop (HT.sIx xs.length 0 lo)).take (HT.sIx xs.length xs.length hi - HT.sIx xs.length 0 lo)
def cutD (d : D) (lo hi : Option Int) : Option Rs := match d with
  | .lst xs => some (.f (.lst (cutL xs lo hi)))
  | .tup xs => some (.v (.tup (cutL xs lo hi)))
  | .str z => if z.length ≤ LN then some (.v (.str (cutS z lo hi))) else none
  | _ => none
def sliceD : Bool → Bool → List D → Option Rs
  | false, false, [d] => cutD d none none
  | true, false, [d, .int i] => cutD d (some i) none
  | false, true, [d, .int j] => cutD d none (some j)
  | _, _, _ => none
def revD : List D → Option Rs
  | [.lst xs] => some (.f (.lst xs.reverse))
  | [.tup xs] => some (.v (.tup xs.reverse))
  | [.str z] => if z.length ≤ LN then some (.v (.str ⟨z.cps.toList.reverse.toArray⟩)) else none
  | _ => none
def lenD : List D → Option Rs
  | [.lst xs] => some (.v (.int xs.length))
  | [.tup xs] => some (.v (.int xs.length))
  | [.str z] => if z.length ≤ LN then some (.v (.int z.length)) else none
  | _ => none
def intD : List D → Option Rs
  | [.int i] => some (.v (.int i))
  | [.bl b] => some (.v (.int (if b then 1 else 0)))
  | _ => none
def absD : List D → Option Rs
  | [.int i] => some (.v (.int (if i < 0 then -i else i)))
  | _ => none
/-- the ints of a list of ints -/
def intsOf : List D → Option (List Int)
  | [] => some []
  | .int i :: r => (intsOf r).map (i :: ·)
  | _ => none
def strsOf : List D → Option (List Str)
  | [] => some []
  | .str i :: r => (strsOf r).map (i :: ·)
  | _ => none
def foldL (g : List Int → Option Rs) : List D → Option Rs
  | [.lst xs] => (intsOf xs).bind g
  | _ => none
def best (p : Int → Int → Bool) : List Int → Option Int
  | [] => none
  | x :: r => some (r.foldl (fun m y => if p m y then y else m) x)
def sumD : List D → Option Rs := foldL fun ns => some (.v (.int ns.sum))
def maxD : List D → Option Rs := foldL fun ns => (best (fun m y => decide (m < y)) ns).map fun m => .v (.int m)
def minD : List D → Option Rs := foldL fun ns => (best (fun m y => decide (y < m)) ns).map fun m => .v (.int m)
def max2D : List D → Option Rs := i2 fun i j => some (.v (.int (if j > i then j else i)))
def min2D : List D → Option Rs := i2 fun i j => some (.v (.int (if j < i then j else i)))
def strD : List D → Option Rs
  | [.int i] => if bits i < 1920 then some (.v (.str (toString i))) else none
  | _ => none
def tupD : List D → Option Rs
  | [.lst xs] => some (.v (.tup xs))
  | [.tup xs] => some (.v (.tup xs))
  | [.str z] => if z.length ≤ LN then some (.v (.tup (z.cps.toList.map fun c => .str ⟨#[c]⟩))) else none
  | _ => none
def lstD : List D → Option Rs
  | [.lst xs] => some (.f (.lst xs))
  | [.tup xs] => some (.f (.lst xs))
  | _ => none
def joinD : List D → Option Rs
  | [.str a, .lst xs] => (strsOf xs).bind fun ss => if (ss.map (·.length)).sum + ss.length * a.length ≤ LN then some (.v (.str (Txt.join a ss))) else none
  | [.str a, .tup xs] => (strsOf xs).bind fun ss => if (ss.map (·.length)).sum + ss.length * a.length ≤ LN then some (.v (.str (Txt.join a ss))) else none
  | _ => none
def getD2 : List D → Option Rs := fun _ => none

def opD : Op → List D → Option Rs
  | .add => addD | .sub => subD | .mul => mulD | .fdiv => fdivD | .mod => modD | .neg => negD | .pow => powD
  | .eq => eqB false | .ne => eqB true
  | .lt => cmpI fun i j => decide (i < j)
  | .le => cmpI fun i j => decide (i ≤ j)
  | .gt => cmpI fun i j => decide (j < i)
  | .ge => cmpI fun i j => decide (j ≤ i)
  | .is => isB false | .isn => isB true | .mem => memB false | .nmem => memB true
  | .ix => ixD | .slice a b => sliceD a b | .rev => revD
  | .len => lenD | .int => intD | .abs => absD | .max2 => max2D | .min2 => min2D | .maxL => maxD | .minL => minD | .sum => sumD
  | .strI => strD | .tupL => tupD | .lstL => lstD | .join => joinD | .get => getD2
  | .repEq => fun _ => none

def isTy : D → Ty → Option Bool
  | .non, _ => some false
  | .bl _, t => some (t == .bool || t == .int)
  | .int _, t => some (t == .int)
  | .str _, t => some (t == .str)
  | .lst _, t => some (t == .list)
  | .tup _, t => some (t == .tuple)
  | .dct _, _ => some false
  | _, _ => none
def isTys (d : D) : List Ty → Option Bool
  | [] => some false
  | t :: r => (isTy d t).bind fun b => if b then some true else isTys d r

def itemsD : D → Option (List D)
  | .lst xs => some xs
  | .tup xs => some xs
  | _ => none
def rangeD (a b : Int) : List D := (List.range (b - a).toNat).map fun (k : Nat) => D.int (a + (k : Int))
def enumD : Nat → List D → List D
  | _, [] => []
  | n, x :: r => .tup [.int n, x] :: enumD (n + 1) r

/-! ### names -/
mutual
def asgT : MT → D → Env → Option Env
  | .nm i, d, env => if i < env.length then some (env.set i (some (d, false))) else none
  | .tp ts, d, env => match d with
    | .tup ds => asgTs ts ds env
    | _ => none
  | .tl ts, d, env => match d with
    | .lst ds => asgTs ts ds env
    | _ => none
def asgTs : List MT → List D → Env → Option Env
  | [], [], env => some env
  | t :: ts, d :: ds, env => (asgT t d env).bind fun env => asgTs ts ds env
  | _, _, _ => none
end
def wipeE (env : Env) : List Nat → Env
  | [] => env
  | v :: vs => (wipeE env vs).set v none
def restE (env0 env : Env) : List Nat → Env
  | [] => env
  | v :: vs => (restE env0 env vs).set v (env0.getD v none)
def noOwn (env : Env) (vs : List Nat) : Bool := vs.all fun v => match env[v]? with | some (some (_, true)) => false | _ => true
def consume (o : Opd) (s : S) : D × S := match o with
  | .val d => (d, s)
  | .fresh d => (d, s)
  | .var i d => (d, { s with env := s.env.set i (some (d, false)) })

structure Cxt where
  run : Nat → List D → W → CR
  gl : Nat → Option D
def callR (r : CR) (env : Env) : R Opd := match r with
  | .ok d w => .ok (.val d) ⟨env, w⟩
  | .exc c w => .exc c ⟨env, w⟩
  | .stuck => .stuck
/-- a value, or its truth -/
def tr (m : Bool) (o : Opd) (s : S) : R Opd := if m then (match truthD o.d with | some b => .ok (.val (.bl b)) s | none => .stuck) else .ok o s
def outR (m : Bool) (r : Option Rs) (s : S) : R Opd := match r with
  | some (.v d) => tr m (.val d) s
  | some (.f d) => tr m (.fresh d) s
  | none => .stuck
def oneR (p : R Opd) : R D := bnd p fun o s => .ok (consume o s).1 (consume o s).2

/-- the turns of a comprehension; the own names are wiped ahead -/
def compR (own : List Nat) (tg : MT) (cond : S → R Bool) (elt : S → R D) : List D → List D → S → R (List D)
  | [], acc, s => .ok acc s
  | d :: ds, acc, s => match asgT tg d s.env with
    | none => .stuck
    | some env1 => bndx (cond { s with env := env1 }) fun b s1 =>
      if b then bndx (elt s1) fun x s2 => if acc.length < LN then compR own tg cond elt ds (acc ++ [x]) { s2 with env := wipeE s2.env own } else .stuck
      else compR own tg cond elt ds acc { s1 with env := wipeE s1.env own }
/-- the turns of the outer clause of two -/
def compR2 (own : List Nat) (tg : MT) (inner : List D → S → R (List D)) : List D → List D → S → R (List D)
  | [], acc, s => .ok acc s
  | d :: ds, acc, s => match asgT tg d s.env with
    | none => .stuck
    | some env1 => bndx (inner acc { s with env := env1 }) fun acc s1 => compR2 own tg inner ds acc { s1 with env := wipeE s1.env own }
def isBl : R Opd → R Bool := fun r => bnd r fun o s => match o.d with | .bl b => .ok b s | _ => .stuck

mutual
def ev (cx : Cxt) (m : Bool) : ME → S → R Opd
  | .var i, s => match s.env[i]? with
    | some (some (d, o)) => tr m (if o then .var i d else .val d) s
    | _ => .stuck
  | .cI i, s => tr m (.val (.int i)) s
  | .cB b, s => tr m (.val (.bl b)) s
  | .cN, s => tr m (.val .non) s
  | .cS x, s => tr m (.val (.str x)) s
  | .glob g, s => match cx.gl g with
    | some d => tr m (.val d) s
    | none => .stuck
  | .op o es, s => bnd (evs cx es s) fun ds s => outR m (opD o ds) s
  | .tup es, s => bnd (evc cx es s) fun ds s => if ds.length ≤ LN then tr m (.val (.tup ds)) s else .stuck
  | .lst es, s => bnd (evc cx es s) fun ds s => if ds.length ≤ LN then tr m (.fresh (.lst ds)) s else .stuck
  | .call f es, s => bnd (evc cx es s) fun ds s => bnd (callR (cx.run f ds s.w) s.env) fun o s => tr m o s
  | .andL es, s => evAnd cx m es s
  | .orL es, s => evOr cx m es s
  | .not a, s => bnd (ev cx true a s) fun o s => match o.d with | .bl b => .ok (.val (.bl (!b))) s | _ => .stuck
  | .ife c a b, s => bnd (ev cx true c s) fun o s => match o.d with
    | .bl true => ev cx m a s
    | .bl false => ev cx m b s
    | _ => .stuck
  | .chain o1 o2 a b c, s => bnd (ev cx false a s) fun x s => bnd (ev cx false b s) fun y s => match opD o1 [x.d, y.d] with
    | some (.v (.bl false)) => .ok (.val (.bl false)) s
    | some (.v (.bl true)) => bnd (ev cx false c s) fun z s => outR m (opD o2 [y.d, z.d]) s
    | _ => .stuck
  | .slc a l u, s => bnd (ev cx false a s) fun x s => bnd (ev cx false l s) fun y s => match y.d with
    | .int i => bnd (ev cx false u s) fun z s => (match z.d with
      | .int j => outR m (cutD x.d (some i) (some j)) s
      | _ => .stuck)
    | _ => .stuck
  | .join c a, s => bnd (ev cx false a s) fun x s => outR m (joinD [.str c, x.d]) s
  | .isi a tys, s => bnd (ev cx false a s) fun o s => match isTys o.d tys with
    | some b => .ok (.val (.bl b)) s
    | none => .stuck
  | .comp own elt tg src cond, s => bnd (evI cx src s) fun ds s => if noOwn s.env own then
      bndx (compR own tg (fun s => evO cx cond s) (fun s => oneR (ev cx false elt s)) ds [] { s with env := wipeE s.env own }) fun xs s1 =>
        tr m (.fresh (.lst xs)) { s1 with env := restE s.env s1.env own }
    else .stuck
  | .comp2 own own2 elt tg src tg2 src2 cond, s => bnd (evI cx src s) fun ds s => if noOwn s.env own then
      bndx (compR2 own tg (fun acc s => bndx (evI cx src2 s) fun ds2 s =>
          compR own2 tg2 (fun s => evO cx cond s) (fun s => oneR (ev cx false elt s)) ds2 acc { s with env := wipeE s.env own2 }) ds [] { s with env := wipeE s.env own }) fun xs s1 =>
        tr m (.fresh (.lst xs)) { s1 with env := restE s.env s1.env own }
    else .stuck
  | .dnew, s => tr m (.fresh (.dct [])) s
  | .stG i k, s => match s.env[i]? with
    | some (some (.st, false)) => (match stGet s.w k with
      | some d => tr m (.val d) s
      | none => .stuck)
    | _ => .stuck
/-- operands, read alone -/
def evs (cx : Cxt) : List ME → S → R (List D)
  | [], s => .ok [] s
  | e :: es, s => bnd (ev cx false e s) fun o s => bnd (evs cx es s) fun ds s => .ok (o.d :: ds) s
/-- parts, kept -/
def evc (cx : Cxt) : List ME → S → R (List D)
  | [], s => .ok [] s
  | e :: es, s => bnd (oneR (ev cx false e s)) fun d s => bnd (evc cx es s) fun ds s => .ok (d :: ds) s
def evAnd (cx : Cxt) (m : Bool) : List ME → S → R Opd
  | [], _ => .stuck
  | e :: es, s => match es with
    | [] => ev cx m e s
    | e2 :: r => bnd (ev cx m e s) fun o s => match truthD o.d with
      | some true => evAnd cx m (e2 :: r) s
      | some false => .ok o s
      | none => .stuck
def evOr (cx : Cxt) (m : Bool) : List ME → S → R Opd
  | [], _ => .stuck
  | e :: es, s => match es with
    | [] => ev cx m e s
    | e2 :: r => bnd (ev cx m e s) fun o s => match truthD o.d with
      | some true => .ok o s
      | some false => evOr cx m (e2 :: r) s
      | none => .stuck
def evO (cx : Cxt) : Option ME → S → R Bool
  | none, s => .ok true s
  | some e, s => isBl (ev cx true e s)
def evI (cx : Cxt) : MI → S → R (List D)
  | .seq e, s => bnd (ev cx false e s) fun o s => match itemsD o.d with
    | some ds => .ok ds s
    | none => .stuck
  | .rng1 e, s => bnd (ev cx false e s) fun o s => match o.d with
    | .int n => if n ≤ 1000000 ∧ -1000000 ≤ n then .ok (rangeD 0 n) s else .stuck
    | _ => .stuck
  | .rng2 a b, s => bnd (ev cx false a s) fun x s => bnd (ev cx false b s) fun y s => match x.d, y.d with
    | .int i, .int j => if i ≤ 1000000 ∧ -1000000 ≤ i ∧ j ≤ 1000000 ∧ -1000000 ≤ j then .ok (rangeD i j) s else .stuck
    | _, _ => .stuck
  | .enum e, s => bnd (ev cx false e s) fun o s => match o.d with
    | .lst xs => .ok (enumD 0 xs) s
    | .tup xs => .ok (enumD 0 xs) s
    | _ => .stuck
  | .zip a b, s => bnd (ev cx false a s) fun x s => bnd (ev cx false b s) fun y s => match x.d, y.d with
    | .lst xs, .lst ys => .ok ((xs.zip ys).map fun p => .tup [p.1, p.2]) s
    | .tup xs, .tup ys => .ok ((xs.zip ys).map fun p => .tup [p.1, p.2]) s
    | _, _ => .stuck
  | .items _, _ => .stuck
end

/-! ### statements -/
inductive Fl where
  | next | ret (d : D) | brk | cnt
def isObjD : D → Bool
  | .lst _ => true
  | .dct _ => true
  | _ => false
/-- a name takes what came -/
def bindNm (i : Nat) (o : Opd) (s : S) : S := match o with
  | .val d => { s with env := s.env.set i (some (d, false)) }
  | .fresh d => { s with env := s.env.set i (some (d, isObjD d)) }
  | .var j d => { s with env := (s.env.set j (some (d, false))).set i (some (d, false)) }
/-- as bindNm, what a variable holds being kept at once -/
def part (o : Opd) (s : S) : (D × Bool) × S := match o with
  | .val d => ((d, false), s)
  | .fresh d => ((d, isObjD d), s)
  | .var j d => ((d, false), { s with env := s.env.set j (some (d, false)) })
def setAt (d k v : D) : Option D := match d, k with
  | .lst xs, .int i => (ixN xs.length i).map fun j => .lst (xs.set j v)
  | _, _ => none
def rmv (x : D) : List D → Option (List D)
  | [] => none
  | y :: r => if eqD y x then some r else (rmv x r).map (y :: ·)
def mutD (m : Mut) (d : D) (as : List D) : Option D := match m, d, as with
  | .append, .lst xs, [a] => if xs.length < LN then some (.lst (xs ++ [a])) else none
  | .insert, .lst xs, [.int i, a] => if xs.length < LN ∧ 0 ≤ i ∧ i ≤ xs.length then some (.lst (xs.insertIdx i.toNat a)) else none
  | .extend, .lst xs, [.lst ys] => if xs.length + ys.length ≤ LN then some (.lst (xs ++ ys)) else none
  | .remove, .lst xs, [a] => if shps 63 xs && shp 64 a then (rmv a xs).map .lst else none
  | _, _, _ => none
def popD (d : D) (as : List D) : Option (D × D) := match d, as with
  | .lst xs, [] => (xs.getLast?).map fun x => (x, .lst xs.dropLast)
  | .lst xs, [.int 0] => xs.head?.map fun x => (x, .lst xs.tail)
  | _, _ => none
def getI (d k : D) : Option D := match d, k with
  | .lst xs, .int i => atI xs i
  | _, _ => none
def isL (s : S) (i : Nat) : Bool := match s.env[i]? with
  | some (some (.lst _, true)) => true
  | _ => false
def augD (o : Op) (x y : D) : Option D := match o, x, y with
  | .add, .int i, .int j => some (.int (i + j))
  | .sub, .int i, .int j => some (.int (i - j))
  | _, _, _ => none

def forR (tg : MT) (b : S → R Fl) : List D → S → R Fl
  | [], s => .ok .next s
  | d :: ds, s => match asgT tg d s.env with
    | none => .stuck
    | some env => bnd (b { s with env := env }) fun f s => match f with
      | .next => forR tg b ds s
      | .cnt => forR tg b ds s
      | .brk => .ok .next s
      | .ret d => .ok (.ret d) s
def whileR (c : S → R Bool) (b : S → R Fl) : Nat → S → R Fl
  | 0, _ => .stuck
  | n + 1, s => bnd (c s) fun t s => if t then bnd (b s) fun f s => match f with
      | .next => whileR c b n s
      | .cnt => whileR c b n s
      | .brk => .ok .next s
      | .ret d => .ok (.ret d) s
    else .ok .next s
def fuelW : Nat := 1000000
/-- what a clause does with an error that has come -/
def catchR (c : Nat) (s : S) : List (Nat × Nat × Hd) → R Fl
  | [] => .exc c s
  | (k, i, h) :: r => if k = c then if s.env.length ≤ i then .stuck else (match h with
      | .go => .ok .next { s with env := s.env.set i none }
      | .retE => .ok (.ret (.tup [])) { s with env := s.env.set i none })
    else catchR c s r
def exOk (c : Nat) : Bool := c == 1 || c == 2
def tryR (r : R Fl) (hs : List (Nat × Nat × Hd)) : R Fl := match r with
  | .ok f s => .ok f s
  | .exc c s => if exOk c then catchR c s hs else .stuck
  | .stuck => .stuck
def evps (cx : Cxt) : List ME → S → R (List (D × Bool))
  | [], s => .ok [] s
  | e :: es, s => bnd (ev cx false e s) fun o s => bnd (evps cx es (part o s).2) fun ps s' => .ok ((part o s).1 :: ps) s'
def setAll : List Nat → List (D × Bool) → Env → Option Env
  | [], [], env => some env
  | i :: is, p :: ps, env => if i < env.length then setAll is ps (env.set i (some p)) else none
  | _, _, _ => none
/-- what a for walks: kept -/
def evIc (cx : Cxt) : MI → S → R (List D)
  | .seq e, s => bnd (oneR (ev cx false e s)) fun d s => match itemsD d with
    | some ds => .ok ds s
    | none => .stuck
  | .enum e, s => bnd (oneR (ev cx false e s)) fun d s => match d with
    | .lst xs => .ok (enumD 0 xs) s
    | .tup xs => .ok (enumD 0 xs) s
    | _ => .stuck
  | .zip a b, s => bnd (oneR (ev cx false a s)) fun x s => bnd (oneR (ev cx false b s)) fun y s => match x, y with
    | .lst xs, .lst ys => .ok ((xs.zip ys).map fun p => .tup [p.1, p.2]) s
    | .tup xs, .tup ys => .ok ((xs.zip ys).map fun p => .tup [p.1, p.2]) s
    | _, _ => .stuck
  | .items _, _ => .stuck
  | .rng1 e, s => evI cx (.rng1 e) s
  | .rng2 a b, s => evI cx (.rng2 a b) s

mutual
def ex (cx : Cxt) : MS → S → R Fl
  | .asg t e, s => match t with
    | .nm i => bnd (ev cx false e s) fun o s => if i < s.env.length then .ok .next (bindNm i o s) else .stuck
    | t => bnd (oneR (ev cx false e s)) fun d s => match asgT t d s.env with
      | some env => .ok .next { s with env := env }
      | none => .stuck
  | .par is es, s => bnd (evps cx es s) fun ps s => match setAll is ps s.env with
    | some env => .ok .next { s with env := env }
    | none => .stuck
  | .stV i k e, s => bnd (oneR (ev cx false e s)) fun d s => if isL s i then bnd (oneR (ev cx false k s)) fun kd s => match s.env[i]? with
      | some (some (x, true)) => (match setAt x kd d with
        | some x' => .ok .next { s with env := s.env.set i (some (x', true)) }
        | none => .stuck)
      | _ => .stuck
    else .stuck
  | .aug i o e, s => match s.env[i]? with
    | some (some (x, false)) => bnd (ev cx false e s) fun y s => (match augD o x y.d with
      | some z => .ok .next { s with env := s.env.set i (some (z, false)) }
      | none => .stuck)
    | _ => .stuck
  | .augS i k o e, s => if isL s i then bnd (oneR (ev cx false k s)) fun kd s => match s.env[i]? with
      | some (some (x, true)) => (match getI x kd with
        | some old => bnd (ev cx false e s) fun y s => (match augD o old y.d with
          | some z => (match s.env[i]? with
            | some (some (x, true)) => (match setAt x kd z with
              | some x' => .ok .next { s with env := s.env.set i (some (x', true)) }
              | none => .stuck)
            | _ => .stuck)
          | none => .stuck)
        | none => .stuck)
      | _ => .stuck
    else .stuck
  | .mut m i es, s => if isL s i then bnd (evc cx es s) fun ds s => match s.env[i]? with
      | some (some (x, true)) => (match mutD m x ds with
        | some x' => .ok .next { s with env := s.env.set i (some (x', true)) }
        | none => .stuck)
      | _ => .stuck
    else .stuck
  | .popA t i es, s => if isL s i then bnd (evc cx es s) fun ds s => match s.env[i]? with
      | some (some (x, true)) => (match popD x ds with
        | some (y, x') => if t < s.env.length ∧ t ≠ i then .ok .next { s with env := (s.env.set i (some (x', true))).set t (some (y, false)) } else .stuck
        | none => .stuck)
      | _ => .stuck
    else .stuck
  | .ife c a b, s => bnd (isBl (ev cx true c s)) fun t s => if t then exs cx a s else exs cx b s
  | .forS t src b, s => bnd (evIc cx src s) fun ds s => forR t (fun s => exs cx b s) ds s
  | .whl c b, s => whileR (fun s => isBl (ev cx true c s)) (fun s => exs cx b s) fuelW s
  | .ret e, s => bnd (oneR (ev cx false e s)) fun d s => .ok (.ret d) s
  | .expr e, s => bnd (ev cx false e s) fun _ s => .ok .next s
  | .raise c, s => .exc c s
  | .tryS b hs, s => tryR (exs cx b s) hs
  | .pass, s => .ok .next s
  | .brk, s => .ok .brk s
  | .cnt, s => .ok .cnt s
  | .stS i k e, s => bnd (oneR (ev cx false e s)) fun d s => match s.env[i]? with
    | some (some (.st, false)) => (match stSet s.w k d with
      | some w => .ok .next { s with w := w }
      | none => .stuck)
    | _ => .stuck
  | .stA i k e, s => match s.env[i]? with
    | some (some (.st, false)) => (match stGet s.w k with
      | some old => bnd (ev cx false e s) fun y s => (match augD .add old y.d with
        | some d => (match stSet s.w k d with
          | some w => .ok .next { s with w := w }
          | none => .stuck)
        | none => .stuck)
      | none => .stuck)
    | _ => .stuck
def exs (cx : Cxt) : List MS → S → R Fl
  | [], s => .ok .next s
  | st :: r, s => bnd (ex cx st s) fun f s => match f with
    | .next => exs cx r s
    | f => .ok f s
end

/-! ### defs -/
structure FD where
  name : Str
  np : Nat
  slots : List Str
  body : List MS
structure Tab where
  fns : List (Nat × FD)
  gls : List (Nat × Str × D)
def Tab.fn (T : Tab) (f : Nat) : Option FD := T.fns.lookup f
def Tab.gl (T : Tab) (g : Nat) : Option D := (T.gls.lookup g).map (·.2)
def startE (n : Nat) (ds : List D) : Env := ds.map (fun d => some (d, false)) ++ List.replicate (n - ds.length) none
def endR (r : R Fl) : CR := match r with
  | .ok (.ret d) s => .ok d s.w
  | .ok .next s => .ok .non s.w
  | .ok _ _ => .stuck
  | .exc c s => .exc c s.w
  | .stuck => .stuck
/-- the next draw, as the law's own words reckon it -/
def nextW (w : W) (limit : Int) : Int × W :=
  let w1 : W := if w.rest = 0 ∧ w.at_ < w.cells.length then
      (if w.cells.getD w.at_ 0 ≥ 10 ^ 18 then { w with at_ := w.at_ + 1, rest := w.cells.getD w.at_ 0 }
        else { w with at_ := w.at_ + 1, seed := (w.seed * 48271 + (w.cells.getD w.at_ 0).fmod 2147483647 + 7).fmod 2147483647 })
    else w
  if w1.rest > 0 then (w1.rest.fmod limit, { w1 with rest := w1.rest.fdiv limit })
  else
    let sd := (w1.seed * 69621 + 12345).fmod 2147483647
    ((sd.fdiv 7).fmod limit, { w1 with seed := sd })
def nextR (ds : List D) (w : W) : CR := match ds with
  | [.st, .int n] => if 0 < n ∧ n < 1000000 then .ok (.int (nextW w n).1) (nextW w n).2 else .stuck
  | _ => .stuck
def callF (T : Tab) : Nat → Nat → List D → W → CR
  | 0, _, _, _ => .stuck
  | n + 1, f, ds, w => if f = 0 then nextR ds w else match T.fn f with
    | some fd => if ds.length = fd.np then endR (exs ⟨callF T n, T.gl⟩ fd.body ⟨startE fd.slots.length ds, w⟩) else .stuck
    | none => .stuck
end MP
set_option Elab.async false
set_option linter.all false
set_option maxRecDepth 100000
/-! The heap bears the data: relations between abstract heaps and plain data. -/
namespace MP
open PySem PySem.Spec PyProof.Rows L2

/-- what a run of a def's body leans on: the heap at its entry, what was shared then, the draws' state -/
structure Bs where
  H0 : Hp
  Sh0 : Addr → Prop
  st : Option Addr

def kD : Key → D
  | .inl i => .int i
  | .inr x => .str x
mutual
inductive DR (K : PySem.W.Frag) (Sh : Addr → Prop) (st : Option Addr) (H : Hp) : V → D → Prop
  | non : DR K Sh st H .non .non
  | bl (b : Bool) : DR K Sh st H (.bl b) (.bl b)
  | int (i : Int) : DR K Sh st H (.int i) (.int i)
  | str (x : Str) : DR K Sh st H (.str x) (.str x)
  | lst {a : Addr} {xs : List V} {ds : List D} : Sh a → H a = some (.lst xs) → DRs K Sh st H xs ds → DR K Sh st H (.ref a) (.lst ds)
  | tup {a : Addr} {xs : List V} {ds : List D} : SqT K H a xs → DRs K Sh st H xs ds → DR K Sh st H (.ref a) (.tup ds)
  | dK {a : Addr} {kvs : List (Key × V)} {ps : List (D × D)} : Sh a → H a = some (.dK kvs) → DRK K Sh st H kvs ps → DR K Sh st H (.ref a) (.dct ps)
  | dT {a : Addr} {kvs : List (List Key × V)} {ps : List (D × D)} : Sh a → H a = some (.dT kvs) → DRT K Sh st H kvs ps → DR K Sh st H (.ref a) (.dct ps)
  | st {a : Addr} : st = some a → DR K Sh st H (.ref a) .st
inductive DRs (K : PySem.W.Frag) (Sh : Addr → Prop) (st : Option Addr) (H : Hp) : List V → List D → Prop
  | nil : DRs K Sh st H [] []
  | cons {v : V} {vs : List V} {d : D} {ds : List D} : DR K Sh st H v d → DRs K Sh st H vs ds → DRs K Sh st H (v :: vs) (d :: ds)
inductive DRK (K : PySem.W.Frag) (Sh : Addr → Prop) (st : Option Addr) (H : Hp) : List (Key × V) → List (D × D) → Prop
  | nil : DRK K Sh st H [] []
  | cons {k : Key} {v : V} {d : D} {kvs : List (Key × V)} {ps : List (D × D)} : DR K Sh st H v d → DRK K Sh st H kvs ps → DRK K Sh st H ((k, v) :: kvs) ((kD k, d) :: ps)
inductive DRT (K : PySem.W.Frag) (Sh : Addr → Prop) (st : Option Addr) (H : Hp) : List (List Key × V) → List (D × D) → Prop
  | nil : DRT K Sh st H [] []
  | cons {k : List Key} {v : V} {d : D} {kvs : List (List Key × V)} {ps : List (D × D)} : DR K Sh st H v d → DRT K Sh st H kvs ps → DRT K Sh st H ((k, v) :: kvs) ((.tup (k.map kD), d) :: ps)
end

section
variable {K : PySem.W.Frag} {Sh Sh' : Addr → Prop} {st : Option Addr} {H H' : Hp}
/-- what a description leans on stays -/
structure Stays (Sh : Addr → Prop) (H : Hp) (Sh' : Addr → Prop) (H' : Hp) : Prop where
  sub : ∀ a, Sh a → Sh' a
  obj : ∀ a o, Sh a → H a = some o → H' a = some o
  tup : ∀ a xs, Rd H a (.tup xs) → Rd H' a (.tup xs)
theorem Stays.refl : Stays Sh H Sh H := ⟨fun _ h => h, fun _ _ _ h => h, fun _ _ h => h⟩
theorem Stays.trans {Sh1 Sh2 : Addr → Prop} {H1 H2 : Hp} (a : Stays Sh H Sh1 H1) (b : Stays Sh1 H1 Sh2 H2) : Stays Sh H Sh2 H2 :=
  ⟨fun x h => b.sub x (a.sub x h), fun x o h e => b.obj x o (a.sub x h) (a.obj x o h e), fun x xs h => b.tup x xs (a.tup x xs h)⟩
theorem Stays.sqT (y : Stays Sh H Sh' H') {a : Addr} {xs : List V} (h : SqT K H a xs) : SqT K H' a xs := by
  rcases h with h | h
  · exact .inl (y.tup _ _ h)
  · exact .inr h
theorem Stays.rd (y : Stays Sh H Sh' H') {a : Addr} {u : HO} (h : Sh a) (r : Rd H a u) : Rd H' a u := by
  rcases r with r | ⟨o, r⟩
  · exact .inl (y.obj _ _ h r)
  · exact .inr ⟨o, y.obj _ _ h r⟩
mutual
theorem DR.mono (y : Stays Sh H Sh' H') : ∀ {v : V} {d : D}, DR K Sh st H v d → DR K Sh' st H' v d
  | _, _, .non => .non
  | _, _, .bl b => .bl b
  | _, _, .int i => .int i
  | _, _, .str x => .str x
  | _, _, .lst h1 h2 h3 => .lst (y.sub _ h1) (y.obj _ _ h1 h2) (DRs.mono y h3)
  | _, _, .tup h1 h2 => .tup (y.sqT h1) (DRs.mono y h2)
  | _, _, .dK h1 h2 h3 => .dK (y.sub _ h1) (y.obj _ _ h1 h2) (DRK.mono y h3)
  | _, _, .dT h1 h2 h3 => .dT (y.sub _ h1) (y.obj _ _ h1 h2) (DRT.mono y h3)
  | _, _, .st h => .st h
theorem DRs.mono (y : Stays Sh H Sh' H') : ∀ {vs : List V} {ds : List D}, DRs K Sh st H vs ds → DRs K Sh' st H' vs ds
  | _, _, .nil => .nil
  | _, _, .cons h t => .cons (DR.mono y h) (DRs.mono y t)
theorem DRK.mono (y : Stays Sh H Sh' H') : ∀ {vs : List (Key × V)} {ds : List (D × D)}, DRK K Sh st H vs ds → DRK K Sh' st H' vs ds
  | _, _, .nil => .nil
  | _, _, .cons h t => .cons (DR.mono y h) (DRK.mono y t)
theorem DRT.mono (y : Stays Sh H Sh' H') : ∀ {vs : List (List Key × V)} {ds : List (D × D)}, DRT K Sh st H vs ds → DRT K Sh' st H' vs ds
  | _, _, .nil => .nil
  | _, _, .cons h t => .cons (DR.mono y h) (DRT.mono y t)
end
theorem DRs.length : ∀ {vs : List V} {ds : List D}, DRs K Sh st H vs ds → vs.length = ds.length
  | _, _, .nil => rfl
  | _, _, .cons _ t => by simp [DRs.length t]
theorem DRs.get : ∀ {vs : List V} {ds : List D} {i : Nat} {d : D}, DRs K Sh st H vs ds → ds[i]? = some d → ∃ v, vs[i]? = some v ∧ DR K Sh st H v d
  | _, _, _, _, .nil, e => by simp at e
  | _, _, 0, _, .cons h _, e => by simp at e; subst e; exact ⟨_, rfl, h⟩
  | _, _, i + 1, _, .cons _ t, e => by
    obtain ⟨v, a, b⟩ := DRs.get (i := i) t (by simpa using e)
    exact ⟨v, by simpa using a, b⟩
theorem DRs.getV : ∀ {vs : List V} {ds : List D} {i : Nat} {v : V}, DRs K Sh st H vs ds → vs[i]? = some v → ∃ d, ds[i]? = some d ∧ DR K Sh st H v d
  | _, _, _, _, .nil, e => by simp at e
  | _, _, 0, _, .cons h _, e => by simp at e; subst e; exact ⟨_, rfl, h⟩
  | _, _, i + 1, _, .cons _ t, e => by
    obtain ⟨v, a, b⟩ := DRs.getV (i := i) t (by simpa using e)
    exact ⟨v, by simpa using a, b⟩
theorem DRs.append : ∀ {vs ws : List V} {ds es : List D}, DRs K Sh st H vs ds → DRs K Sh st H ws es → DRs K Sh st H (vs ++ ws) (ds ++ es)
  | _, _, _, _, .nil, h => h
  | _, _, _, _, .cons h t, k => .cons h (DRs.append t k)
theorem DRs.take : ∀ {vs : List V} {ds : List D} (n : Nat), DRs K Sh st H vs ds → DRs K Sh st H (vs.take n) (ds.take n)
  | _, _, 0, _ => by simp; exact .nil
  | _, _, _ + 1, .nil => .nil
  | _, _, n + 1, .cons h t => .cons h (DRs.take n t)
theorem DRs.drop : ∀ {vs : List V} {ds : List D} (n : Nat), DRs K Sh st H vs ds → DRs K Sh st H (vs.drop n) (ds.drop n)
  | _, _, 0, h => h
  | _, _, _ + 1, .nil => .nil
  | _, _, n + 1, .cons _ t => DRs.drop n t
theorem DRs.set {v : V} {d : D} (h : DR K Sh st H v d) : ∀ {vs : List V} {ds : List D} (i : Nat), DRs K Sh st H vs ds → DRs K Sh st H (vs.set i v) (ds.set i d)
  | _, _, _, .nil => .nil
  | _, _, 0, .cons _ t => .cons h t
  | _, _, i + 1, .cons q t => .cons q (DRs.set h i t)
theorem DRs.reverse : ∀ {vs : List V} {ds : List D}, DRs K Sh st H vs ds → DRs K Sh st H vs.reverse ds.reverse
  | _, _, .nil => .nil
  | _, _, .cons h t => by simp only [List.reverse_cons]; exact DRs.append (DRs.reverse t) (.cons h .nil)
theorem DRs.ints : ∀ {vs : List V} {ds : List D} {ns : List Int}, DRs K Sh st H vs ds → intsOf ds = some ns → vs = ns.map V.int
  | _, _, _, .nil, e => by simp [intsOf] at e; subst e; rfl
  | _, _, ns, .cons (d := d) h t, e => by
    cases d <;> (try (simp [intsOf] at e; done))
    rename_i i
    simp only [intsOf, Option.map_eq_some_iff] at e
    obtain ⟨r, e1, e2⟩ := e
    subst e2
    cases h
    rw [DRs.ints t e1]; rfl
theorem DRs.strs : ∀ {vs : List V} {ds : List D} {ns : List Str}, DRs K Sh st H vs ds → strsOf ds = some ns → vs = ns.map V.str
  | _, _, _, .nil, e => by simp [strsOf] at e; subst e; rfl
  | _, _, ns, .cons (d := d) h t, e => by
    cases d <;> (try (simp [strsOf] at e; done))
    rename_i i
    simp only [strsOf, Option.map_eq_some_iff] at e
    obtain ⟨r, e1, e2⟩ := e
    subst e2
    cases h
    rw [DRs.strs t e1]; rfl
theorem DRs.ofInts : ∀ (ns : List Int), DRs K Sh st H (ns.map V.int) (ns.map D.int)
  | [] => .nil
  | n :: r => .cons (.int n) (DRs.ofInts r)
theorem DRs.ofStrs : ∀ (ns : List Str), DRs K Sh st H (ns.map V.str) (ns.map D.str)
  | [] => .nil
  | n :: r => .cons (.str n) (DRs.ofStrs r)

/-- the object at a bears the data, whoever may hold it -/
def TopR (K : PySem.W.Frag) (Sh : Addr → Prop) (st : Option Addr) (H : Hp) (a : Addr) : D → Prop
  | .lst ds => ∃ xs, H a = some (.lst xs) ∧ DRs K Sh st H xs ds
  | .dct ps => (∃ kvs, H a = some (.dK kvs) ∧ DRK K Sh st H kvs ps) ∨ (∃ kvs, H a = some (.dT kvs) ∧ DRT K Sh st H kvs ps)
  | _ => False
theorem TopR.mono (y : Stays Sh H Sh' H') {a : Addr} {d : D} (e : ∀ o, H a = some o → H' a = some o) (h : TopR K Sh st H a d) : TopR K Sh' st H' a d := by
  cases d <;> try exact h.elim
  · obtain ⟨xs, h1, h2⟩ := h
    exact ⟨xs, e _ h1, h2.mono y⟩
  · rcases h with ⟨xs, h1, h2⟩ | ⟨xs, h1, h2⟩
    · exact .inl ⟨xs, e _ h1, h2.mono y⟩
    · exact .inr ⟨xs, e _ h1, h2.mono y⟩
theorem TopR.dr {a : Addr} {d : D} (h : TopR K Sh st H a d) (hs : Sh a) : DR K Sh st H (.ref a) d := by
  cases d <;> try exact h.elim
  · obtain ⟨xs, h1, h2⟩ := h
    exact .lst hs h1 h2
  · rcases h with ⟨xs, h1, h2⟩ | ⟨xs, h1, h2⟩
    · exact .dK hs h1 h2
    · exact .dT hs h1 h2
theorem TopR.some {a : Addr} {d : D} (h : TopR K Sh st H a d) : H a ≠ none := by
  cases d <;> try exact h.elim
  · obtain ⟨xs, h1, h2⟩ := h
    rw [h1]; intro q; cases q
  · rcases h with ⟨xs, h1, h2⟩ | ⟨xs, h1, h2⟩ <;> (rw [h1]; intro q; cases q)
theorem TopR.notTup {a : Addr} {d : D} (h : TopR K Sh st H a d) {xs : List V} : ¬ Rd H a (.tup xs) := by
  rintro (q | ⟨o, q⟩)
  · cases d <;> try exact h.elim
    · obtain ⟨xs, h1, h2⟩ := h; rw [h1] at q; cases q
    · rcases h with ⟨xs, h1, h2⟩ | ⟨xs, h1, h2⟩ <;> (rw [h1] at q; cases q)
  · cases d <;> try exact h.elim
    · obtain ⟨xs, h1, h2⟩ := h; rw [h1] at q; cases q
    · rcases h with ⟨xs, h1, h2⟩ | ⟨xs, h1, h2⟩ <;> (rw [h1] at q; cases q)
end

/-- the draws' state -/
def StOK (Sh : Addr → Prop) (st : Option Addr) (H : Hp) (w : W) : Prop :=
  ∀ a, st = some a → ∃ l, H a = some (.lst [.ref l, .int w.at_, .int w.rest, .int w.seed]) ∧ Sh l ∧ H l = some (.lst (w.cells.map V.int)) ∧ 0 ≤ w.rest ∧ (0 ≤ w.seed ∧ w.seed < 2147483647)

def Owns (env : Env) (σ : L2.St) (a : Addr) : Prop := ∃ (i : Nat) (d : D), env[i]? = some (some (d, true)) ∧ σ[i]? = some (some (V.ref a))

structure BI (K : PySem.W.Frag) (B : Bs) (Sh : Addr → Prop) (s : S) (σ : L2.St) (H : Hp) : Prop where
  keep : ∀ a o, B.H0 a = some o → B.st ≠ some a → H a = some o
  sh0 : ∀ a, B.Sh0 a → Sh a
  shN : ∀ a, Sh a → B.Sh0 a ∨ B.H0 a = none
  shL : ∀ a, Sh a → H a ≠ none ∧ B.st ≠ some a
  stk : StOK Sh B.st H s.w
  len : s.env.length = σ.length
  var : ∀ (i : Nat) (d : D), s.env[i]? = some (some (d, false)) → ∃ v, σ[i]? = some (some v) ∧ DR K Sh B.st H v d
  own : ∀ (i : Nat) (d : D), s.env[i]? = some (some (d, true)) → ∃ a, σ[i]? = some (some (V.ref a)) ∧ ¬ Sh a ∧ B.H0 a = none ∧ B.st ≠ some a ∧ TopR K Sh B.st H a d
  inj : ∀ (i j : Nat) (d d' : D) (a : Addr), s.env[i]? = some (some (d, true)) → s.env[j]? = some (some (d', true)) → σ[i]? = some (some (V.ref a)) → σ[j]? = some (some (V.ref a)) → i = j

/-- flags fall, data stay -/
structure EnvLe (env env' : Env) : Prop where
  len : env'.length = env.length
  at' : ∀ (i : Nat) (d : D) (o : Bool), env'[i]? = some (some (d, o)) → ∃ o', env[i]? = some (some (d, o')) ∧ (o = true → o' = true)
  at_ : ∀ (i : Nat) (d : D) (o : Bool), env[i]? = some (some (d, o)) → ∃ o', env'[i]? = some (some (d, o'))
theorem EnvLe.refl {env : Env} : EnvLe env env := ⟨rfl, fun _ _ o h => ⟨o, h, id⟩, fun _ _ o h => ⟨o, h⟩⟩
theorem EnvLe.trans {e1 e2 e3 : Env} (a : EnvLe e1 e2) (b : EnvLe e2 e3) : EnvLe e1 e3 :=
  ⟨b.len.trans a.len, fun i d o h => let ⟨o', h', k⟩ := b.at' i d o h; let ⟨o'', h'', k'⟩ := a.at' i d o' h'; ⟨o'', h'', fun q => k' (k q)⟩,
    fun i d o h => let ⟨o', h'⟩ := a.at_ i d o h; b.at_ i d o' h'⟩
theorem EnvLe.owns {e e' : Env} {σ : L2.St} {a : Addr} (y : EnvLe e e') (h : Owns e' σ a) : Owns e σ a := by
  obtain ⟨i, d, h1, h2⟩ := h
  obtain ⟨o', h3, h4⟩ := y.at' i d true h1
  rw [h4 rfl] at h3
  exact ⟨i, d, h3, h2⟩
theorem EnvLe.freeze {env : Env} {i : Nat} {d : D} {o : Bool} (h : env[i]? = some (some (d, o))) : EnvLe env (env.set i (some (d, false))) := by
  have hi : i < env.length := (List.getElem?_eq_some_iff.mp h).1
  refine ⟨by simp, fun j d' o' e => ?_, fun j d' o' e => ?_⟩
  · by_cases hj : i = j
    · subst hj
      rw [List.getElem?_set_self hi] at e
      cases e
      exact ⟨o, h, fun q => by cases q⟩
    · rw [List.getElem?_set_ne hj] at e
      exact ⟨o', e, id⟩
  · by_cases hj : i = j
    · subst hj
      rw [h] at e; cases e
      exact ⟨false, by rw [List.getElem?_set_self hi]⟩
    · exact ⟨o', by rw [List.getElem?_set_ne hj]; exact e⟩

/-- a step of an expression -/
structure Stp (B : Bs) (σ : L2.St) (env : Env) (Sh : Addr → Prop) (H : Hp) (env' : Env) (Sh' : Addr → Prop) (H' : Hp) : Prop where
  le : EnvLe env env'
  sub : ∀ a, Sh a → Sh' a
  new : ∀ a, Sh' a → Sh a ∨ H a = none ∨ Owns env σ a
  mem : ∀ a o, H a = some o → B.st ≠ some a → H' a = some o
section
variable {K : PySem.W.Frag} {B : Bs} {σ : L2.St} {Sh Sh1 Sh2 : Addr → Prop} {H H1 H2 : Hp} {env env1 env2 : Env} {s s1 s2 : S}
theorem Stp.refl : Stp B σ env Sh H env Sh H := ⟨.refl, fun _ h => h, fun _ h => .inl h, fun _ _ h _ => h⟩
theorem Stp.trans (hs : ∀ a, Sh2 a → B.st ≠ some a) (x : Stp B σ env Sh H env1 Sh1 H1) (y : Stp B σ env1 Sh1 H1 env2 Sh2 H2) : Stp B σ env Sh H env2 Sh2 H2 where
  le := x.le.trans y.le
  sub := fun a h => y.sub a (x.sub a h)
  new := fun a h => by
    rcases y.new a h with q | q | q
    · exact x.new a q
    · refine .inr (.inl ?_)
      cases e : H a with
      | none => rfl
      | some o => rw [x.mem a o e (hs a h)] at q; cases q
    · exact .inr (.inr (x.le.owns q))
  mem := fun a o e h => y.mem a o (x.mem a o e h) h
theorem BI.stTup (b : BI K B Sh s σ H) {a : Addr} {xs : List V} (h : Rd H a (.tup xs)) : B.st ≠ some a := fun e => by
  obtain ⟨l, q, _⟩ := b.stk a e
  rcases h with h | ⟨o, h⟩ <;> (rw [q] at h; cases h)
theorem Stp.stays (b : BI K B Sh s σ H) (x : Stp B σ s.env Sh H env1 Sh1 H1) : Stays Sh H Sh1 H1 where
  sub := x.sub
  obj := fun a o h e => x.mem a o e (b.shL a h).2
  tup := fun a xs h => by
    have := b.stTup h
    rcases h with h | ⟨o, h⟩
    · exact .inl (x.mem _ _ h this)
    · exact .inr ⟨o, x.mem _ _ h this⟩
theorem BI.tr {s2 : S} (b : BI K B Sh2 s2 σ H2) (x : Stp B σ env Sh H env1 Sh1 H1) (y : Stp B σ env1 Sh1 H1 env2 Sh2 H2) : Stp B σ env Sh H env2 Sh2 H2 :=
  x.trans (fun a h => (b.shL a h).2) y

/-- an operand -/
def OR (K : PySem.W.Frag) (B : Bs) (Sh : Addr → Prop) (env : Env) (σ : L2.St) (H : Hp) (v : V) : Opd → Prop
  | .val d => DR K Sh B.st H v d
  | .fresh d => ∃ a, v = V.ref a ∧ ¬ Sh a ∧ B.H0 a = none ∧ B.st ≠ some a ∧ ¬ Owns env σ a ∧ TopR K Sh B.st H a d
  | .var i d => σ[i]? = some (some v) ∧ ∃ o, env[i]? = some (some (d, o))
theorem OR.stp {v : V} {o : Opd} (b : BI K B Sh s σ H) (x : Stp B σ s.env Sh H env1 Sh1 H1) (h : OR K B Sh s.env σ H v o) : OR K B Sh1 env1 σ H1 v o := by
  cases o with
  | val d => exact DR.mono (x.stays b) h
  | fresh d =>
    obtain ⟨a, rfl, h1, h2, h3, h4, h5⟩ := h
    refine ⟨a, rfl, fun q => ?_, h2, h3, fun q => h4 (x.le.owns q), h5.mono (x.stays b) fun o e => x.mem a o e h3⟩
    rcases x.new a q with q | q | q
    · exact h1 q
    · exact h5.some q
    · exact h4 q
  | var i d =>
    obtain ⟨h1, o, h2⟩ := h
    exact ⟨h1, x.le.at_ i d o h2⟩

/-- a fresh object was none ahead -/
def FreshIn (H : Hp) (v : V) (o : Opd) : Prop := ∀ d, o = .fresh d → ∀ a, v = V.ref a → H a = none
theorem FreshIn.val {H : Hp} {v : V} {d : D} : FreshIn H v (.val d) := fun _ e => nomatch e
theorem FreshIn.var {H : Hp} {v : V} {i : Nat} {d : D} : FreshIn H v (.var i d) := fun _ e => nomatch e
theorem OR.back {Sh1 : Addr → Prop} {env1 : Env} {v : V} {o : Opd} (r : OR K B Sh1 env1 σ H1 v o) (m : ∀ a u, H a = some u → B.st ≠ some a → H2 a = some u) (h : FreshIn H2 v o) : FreshIn H v o := fun d e a ev => by
  subst e ev
  obtain ⟨a', e', n1, n2, n3, n4, n5⟩ := r
  cases e'
  have := h d rfl a rfl
  cases q : H a with
  | none => rfl
  | some u => rw [m a u q n3] at this; cases this
/-- what is read: shared, or the object of one holder -/
def RR (K : PySem.W.Frag) (Sh : Addr → Prop) (st : Option Addr) (H : Hp) (v : V) (d : D) : Prop := DR K Sh st H v d ∨ ∃ a, v = V.ref a ∧ TopR K Sh st H a d
theorem OR.rr {v : V} {o : Opd} (b : BI K B Sh s σ H) (h : OR K B Sh s.env σ H v o) : RR K Sh B.st H v o.d := by
  cases o with
  | val d => exact .inl h
  | fresh d =>
    obtain ⟨a, rfl, h1, h2, h3, h4, h5⟩ := h
    exact .inr ⟨a, rfl, h5⟩
  | var i d =>
    obtain ⟨h1, o, h2⟩ := h
    cases o with
    | false =>
      obtain ⟨v', e, q⟩ := b.var i d h2
      rw [h1] at e; cases e
      exact .inl q
    | true =>
      obtain ⟨a, e, _, _, _, q⟩ := b.own i d h2
      rw [h1] at e; cases e
      exact .inr ⟨a, rfl, q⟩
theorem RR.lst {st : Option Addr} {v : V} {ds : List D} (h : RR K Sh st H v (.lst ds)) : ∃ a xs, v = V.ref a ∧ H a = some (.lst xs) ∧ DRs K Sh st H xs ds := by
  rcases h with h | ⟨a, rfl, xs, h1, h2⟩
  · cases h with
    | lst h1 h2 h3 => exact ⟨_, _, rfl, h2, h3⟩
  · exact ⟨a, xs, rfl, h1, h2⟩
theorem RR.tup {st : Option Addr} {v : V} {ds : List D} (h : RR K Sh st H v (.tup ds)) : ∃ a xs, v = V.ref a ∧ SqT K H a xs ∧ DRs K Sh st H xs ds := by
  rcases h with h | ⟨a, rfl, h⟩
  · cases h with
    | tup h1 h2 => exact ⟨_, _, rfl, h1, h2⟩
  · exact h.elim
theorem RR.int {st : Option Addr} {v : V} {i : Int} (h : RR K Sh st H v (.int i)) : v = V.int i := by
  rcases h with h | ⟨a, rfl, h⟩
  · cases h; rfl
  · exact h.elim
theorem RR.bl {st : Option Addr} {v : V} {i : Bool} (h : RR K Sh st H v (.bl i)) : v = V.bl i := by
  rcases h with h | ⟨a, rfl, h⟩
  · cases h; rfl
  · exact h.elim
theorem RR.str {st : Option Addr} {v : V} {i : Str} (h : RR K Sh st H v (.str i)) : v = V.str i := by
  rcases h with h | ⟨a, rfl, h⟩
  · cases h; rfl
  · exact h.elim
theorem RR.non {st : Option Addr} {v : V} (h : RR K Sh st H v .non) : v = V.non := by
  rcases h with h | ⟨a, rfl, h⟩
  · cases h; rfl
  · exact h.elim
theorem RR.dct {st : Option Addr} {v : V} {ps : List (D × D)} (h : RR K Sh st H v (.dct ps)) : ∃ a, v = V.ref a ∧ ((∃ kvs, H a = some (.dK kvs) ∧ DRK K Sh st H kvs ps) ∨ (∃ kvs, H a = some (.dT kvs) ∧ DRT K Sh st H kvs ps)) := by
  rcases h with h | ⟨a, rfl, h⟩
  · cases h with
    | dK h1 h2 h3 => exact ⟨_, rfl, .inl ⟨_, h2, h3⟩⟩
    | dT h1 h2 h3 => exact ⟨_, rfl, .inr ⟨_, h2, h3⟩⟩
  · rcases h with ⟨kvs, h1, h2⟩ | ⟨kvs, h1, h2⟩
    · exact ⟨a, rfl, .inl ⟨_, h1, h2⟩⟩
    · exact ⟨a, rfl, .inr ⟨_, h1, h2⟩⟩

/-- a variable's object is shared from now on -/
theorem BI.share {a : Addr} (b : BI K B Sh s σ H) (hH : H a ≠ none) (h0 : B.H0 a = none) (hst : B.st ≠ some a) (ho : ¬ Owns s.env σ a) : BI K B (fun x => Sh x ∨ x = a) s σ H := by
  have y : Stays Sh H (fun x => Sh x ∨ x = a) H := ⟨fun _ h => .inl h, fun _ _ _ h => h, fun _ _ h => h⟩
  refine ⟨b.keep, fun x h => .inl (b.sh0 x h), fun x h => ?_, fun x h => ?_, fun x e => ?_, b.len, fun i d e => ?_, fun i d e => ?_, b.inj⟩
  · rcases h with h | rfl
    · exact b.shN x h
    · exact .inr h0
  · rcases h with h | rfl
    · exact b.shL x h
    · exact ⟨hH, hst⟩
  · obtain ⟨l, h1, h2, h3⟩ := b.stk x e
    exact ⟨l, h1, .inl h2, h3⟩
  · obtain ⟨v, h1, h2⟩ := b.var i d e
    exact ⟨v, h1, h2.mono y⟩
  · obtain ⟨c, h1, h2, h3, h4, h5⟩ := b.own i d e
    refine ⟨c, h1, fun q => ?_, h3, h4, h5.mono y fun _ h => h⟩
    rcases q with q | rfl
    · exact h2 q
    · exact ho ⟨i, d, e, h1⟩
theorem BI.freeze {i : Nat} {d : D} {a : Addr} (b : BI K B Sh s σ H) (h : s.env[i]? = some (some (d, true))) (hσ : σ[i]? = some (some (V.ref a))) :
    BI K B (fun x => Sh x ∨ x = a) { s with env := s.env.set i (some (d, false)) } σ H := by
  obtain ⟨a', h1, h2, h3, h4, h5⟩ := b.own i d h
  rw [hσ] at h1; cases h1
  have hi : i < s.env.length := (List.getElem?_eq_some_iff.mp h).1
  have y : Stays Sh H (fun x => Sh x ∨ x = a) H := ⟨fun _ h => .inl h, fun _ _ _ h => h, fun _ _ h => h⟩
  refine ⟨b.keep, fun x h => .inl (b.sh0 x h), fun x h => ?_, fun x h => ?_, fun x e => ?_, by simpa using b.len, fun j d' e => ?_, fun j d' e => ?_, fun j k dj dk c e1 e2 e3 e4 => ?_⟩
  · rcases h with h | rfl
    · exact b.shN x h
    · exact .inr h3
  · rcases h with h | rfl
    · exact b.shL x h
    · exact ⟨h5.some, h4⟩
  · obtain ⟨l, h1, h2, h3⟩ := b.stk x e
    exact ⟨l, h1, .inl h2, h3⟩
  · by_cases hj : i = j
    · subst hj
      rw [List.getElem?_set_self hi] at e
      cases e
      exact ⟨_, hσ, (h5.mono y fun _ h => h).dr (.inr rfl)⟩
    · rw [List.getElem?_set_ne hj] at e
      obtain ⟨v, h1, h2⟩ := b.var j d' e
      exact ⟨v, h1, h2.mono y⟩
  · have hj : i ≠ j := fun q => by
      subst q
      rw [List.getElem?_set_self hi] at e
      cases e
    rw [List.getElem?_set_ne hj] at e
    obtain ⟨c, h1, h2, h3, h4, h5⟩ := b.own j d' e
    refine ⟨c, h1, fun q => ?_, h3, h4, h5.mono y fun _ h => h⟩
    rcases q with q | rfl
    · exact h2 q
    · exact hj (b.inj i j d d' c h e hσ h1)
  · have hj : i ≠ j := fun q => by
      subst q
      rw [List.getElem?_set_self hi] at e1
      cases e1
    have hk : i ≠ k := fun q => by
      subst q
      rw [List.getElem?_set_self hi] at e2
      cases e2
    rw [List.getElem?_set_ne hj] at e1
    rw [List.getElem?_set_ne hk] at e2
    exact b.inj j k dj dk c e1 e2 e3 e4
/-- the same with a flag that is down already -/
theorem BI.again {i : Nat} {d : D} (b : BI K B Sh s σ H) (h : s.env[i]? = some (some (d, false))) : s.env.set i (some (d, false)) = s.env := by
  obtain ⟨hi, e⟩ := List.getElem?_eq_some_iff.mp h
  rw [← e]
  exact List.set_getElem_self hi
/-- what came is kept: shared from now on -/
theorem BI.consume {v : V} {o : Opd} (b : BI K B Sh s σ H) (h : OR K B Sh s.env σ H v o) :
    ∃ Sh1, BI K B Sh1 (consume o s).2 σ H ∧ (∀ env Sh0 H0, Stp B σ env Sh0 H0 s.env Sh H → FreshIn H0 v o → Stp B σ env Sh0 H0 (consume o s).2.env Sh1 H) ∧ DR K Sh1 B.st H v (consume o s).1 := by
  cases o with
  | val d => exact ⟨Sh, b, fun _ _ _ x _ => x, h⟩
  | fresh d =>
    obtain ⟨a, rfl, h1, h2, h3, h4, h5⟩ := h
    have y : Stays Sh H (fun x => Sh x ∨ x = a) H := ⟨fun _ h => .inl h, fun _ _ _ h => h, fun _ _ h => h⟩
    refine ⟨_, b.share h5.some h2 h3 h4, fun env Sh0 H0 x q => ⟨x.le, fun c h => .inl (x.sub c h), fun c h => ?_, x.mem⟩, (h5.mono y fun _ h => h).dr (.inr rfl)⟩
    rcases h with h | rfl
    · exact x.new c h
    · exact .inr (.inl (q d rfl c rfl))
  | var i d =>
    obtain ⟨h1, o, h2⟩ := h
    cases o with
    | false =>
      have e : (MP.consume (.var i d) s).2 = s := by
        show ({ s with env := s.env.set i (some (d, false)) } : S) = s
        rw [b.again h2]
      obtain ⟨v', e', q⟩ := b.var i d h2
      rw [h1] at e'; cases e'
      rw [e]
      exact ⟨Sh, b, fun _ _ _ x _ => x, q⟩
    | true =>
      obtain ⟨a, e', q1, q2, q3, q4⟩ := b.own i d h2
      rw [h1] at e'; cases e'
      have y : Stays Sh H (fun x => Sh x ∨ x = a) H := ⟨fun _ h => .inl h, fun _ _ _ h => h, fun _ _ h => h⟩
      refine ⟨_, b.freeze h2 h1, fun env Sh0 H0 x q => ⟨x.le.trans (.freeze h2), fun c h => .inl (x.sub c h), fun c h => ?_, x.mem⟩, (q4.mono y fun _ h => h).dr (.inr rfl)⟩
      rcases h with h | rfl
      · exact x.new c h
      · exact .inr (.inr (x.le.owns ⟨i, d, h2, h1⟩))
end
end MP
set_option Elab.async false
set_option linter.all false
set_option maxRecDepth 100000
/-! The operators over data. -/
namespace MP
open PySem PySem.Spec PyProof.Rows L2

section
variable {K : PySem.W.Frag} {B : Bs} {Sh : Addr → Prop} {s : S} {σ : L2.St} {H H' : Hp}
theorem BI.h0 (b : BI K B Sh s σ H) {p : Addr} (h : H p = none) : B.H0 p = none := by
  cases e : B.H0 p with
  | none => rfl
  | some o =>
    by_cases hs : B.st = some p
    · obtain ⟨l, q, _⟩ := b.stk p hs
      rw [h] at q; cases q
    · rw [b.keep p o e hs] at h; cases h
theorem BI.stNone (b : BI K B Sh s σ H) {p : Addr} (h : H p = none) : B.st ≠ some p := fun hs => by
  obtain ⟨l, q, _⟩ := b.stk p hs
  rw [h] at q; cases q
theorem BI.ownSome (b : BI K B Sh s σ H) {p : Addr} (h : Owns s.env σ p) : H p ≠ none := by
  obtain ⟨i, d, h1, h2⟩ := h
  obtain ⟨a, e, _, _, _, t⟩ := b.own i d h1
  rw [h2] at e; cases e
  exact t.some
/-- a heap that holds more -/
theorem BI.more (b : BI K B Sh s σ H) (h : ∀ a o, H a = some o → H' a = some o) : BI K B Sh s σ H' := by
  have y : Stays Sh H Sh H' := ⟨fun _ h => h, fun a o _ e => h a o e, fun a xs r => by
    rcases r with r | ⟨o, r⟩
    · exact .inl (h _ _ r)
    · exact .inr ⟨o, h _ _ r⟩⟩
  refine ⟨fun a o e q => h a o (b.keep a o e q), b.sh0, b.shN, fun a q => ⟨fun e => ?_, (b.shL a q).2⟩, fun a e => ?_, b.len, fun i d e => ?_, fun i d e => ?_, b.inj⟩
  · cases q2 : H a with
    | none => exact (b.shL a q).1 q2
    | some o => rw [h a o q2] at e; cases e
  · obtain ⟨l, h1, h2, h3, h4⟩ := b.stk a e
    exact ⟨l, h _ _ h1, h2, h _ _ h3, h4⟩
  · obtain ⟨v, h1, h2⟩ := b.var i d e
    exact ⟨v, h1, h2.mono y⟩
  · obtain ⟨c, h1, h2, h3, h4, h5⟩ := b.own i d e
    exact ⟨c, h1, h2, h3, h4, h5.mono y fun o q => h c o q⟩
theorem upd_more {p : Addr} {o : HO} (h : H p = none) : ∀ a u, H a = some u → upd H p o a = some u := fun a u e => by
  rw [upd_ne (ne_of_none e h)]; exact e
theorem BI.stpMore (b : BI K B Sh s σ H) (h : ∀ a o, H a = some o → H' a = some o) : Stp B σ s.env Sh H s.env Sh H' := ⟨.refl, fun _ h => h, fun _ h => .inl h, fun a o e _ => h a o e⟩
theorem BI.newL (b : BI K B Sh s σ H) {p : Addr} {xs : List V} {ds : List D} (h : H p = none) (r : DRs K Sh B.st H xs ds) :
    BI K B Sh s σ (upd H p (.lst xs)) ∧ Stp B σ s.env Sh H s.env Sh (upd H p (.lst xs)) ∧ OR K B Sh s.env σ (upd H p (.lst xs)) (.ref p) (.fresh (.lst ds)) := by
  have m := upd_more (o := .lst xs) h
  have y := (b.stpMore m).stays b
  refine ⟨b.more m, b.stpMore m, p, rfl, fun q => (b.shL p q).1 h, b.h0 h, b.stNone h, fun q => b.ownSome q h, xs, upd_same, r.mono y⟩
theorem BI.newT (b : BI K B Sh s σ H) {p : Addr} {xs : List V} {ds : List D} (h : H p = none) (r : DRs K Sh B.st H xs ds) :
    BI K B Sh s σ (upd H p (.tup xs)) ∧ Stp B σ s.env Sh H s.env Sh (upd H p (.tup xs)) ∧ OR K B Sh s.env σ (upd H p (.tup xs)) (.ref p) (.val (.tup ds)) := by
  have m := upd_more (o := .tup xs) h
  have y := (b.stpMore m).stays b
  exact ⟨b.more m, b.stpMore m, .tup (.inl (.inl upd_same)) (r.mono y)⟩
end
def opd : Rs → Opd
  | .v d => .val d
  | .f d => .fresh d
/-- what is handed on behind an operator -/
def Hands (K : PySem.W.Frag) (B : Bs) (Sh : Addr → Prop) (s : S) (σ : L2.St) (H : Hp) (o : Opd) (Q : VK) : Prop :=
  ∀ v Sh' H', BI K B Sh' s σ H' → Stp B σ s.env Sh H s.env Sh' H' → OR K B Sh' s.env σ H' v o → FreshIn H v o → Q v H'
/-- readings of operators by what they give over data -/
def rD1 (K : PySem.W.Frag) (B : Bs) (g : List D → Option Rs) : V → Hp → VK → Prop := fun x H Q => ∃ Sh s σ d rs, BI K B Sh s σ H ∧ RR K Sh B.st H x d ∧ g [d] = some rs ∧ Hands K B Sh s σ H (opd rs) Q
def rD2 (K : PySem.W.Frag) (B : Bs) (g : List D → Option Rs) : R2 := fun x y H Q => ∃ Sh s σ d e rs, BI K B Sh s σ H ∧ RR K Sh B.st H x d ∧ RR K Sh B.st H y e ∧ g [d, e] = some rs ∧ Hands K B Sh s σ H (opd rs) Q

section
variable {K : PySem.W.Frag} {B : Bs} {Sh : Addr → Prop} {s : S} {σ : L2.St} {H : Hp} {Q : VK}
theorem Hands.v {v : V} {d : D} (b : BI K B Sh s σ H) (h : Hands K B Sh s σ H (.val d) Q) (r : DR K Sh B.st H v d) : Q v H := h v Sh H b .refl r .val
theorem Hands.newL (b : BI K B Sh s σ H) {xs : List V} {ds : List D} (h : Hands K B Sh s σ H (.fresh (.lst ds)) Q) (r : DRs K Sh B.st H xs ds) : ∀ p, H p = none → Q (.ref p) (upd H p (.lst xs)) := fun p hp =>
  let ⟨a, c, e⟩ := b.newL hp r
  h _ _ _ a c e fun _ _ _ ev => by cases ev; exact hp
theorem Hands.newT (b : BI K B Sh s σ H) {xs : List V} {ds : List D} (h : Hands K B Sh s σ H (.val (.tup ds)) Q) (r : DRs K Sh B.st H xs ds) : ∀ p, H p = none → Q (.ref p) (upd H p (.tup xs)) := fun p hp =>
  let ⟨a, c, e⟩ := b.newT hp r
  h _ _ _ a c e .val
end

theorem i2_inv {g : Int → Int → Option Rs} {d e : D} {rs : Rs} (h : i2 g [d, e] = some rs) : ∃ i j, d = .int i ∧ e = .int j ∧ g i j = some rs := by
  cases d <;> cases e <;> first | exact ⟨_, _, rfl, rfl, h⟩ | (simp [i2] at h)
section
variable {X : Cx} {B : Bs}
theorem sizeLN : (LN : Nat) ≤ sizeLine := by rw [sizeLine_eq]; decide
theorem ro_add : OpR X (binaryOp .Add) (rD2 X.K B addD) := by
  intro pins s σ H x y v u Q I rx ry h
  obtain ⟨Sh, S, σ', d, e, rs, b, r1, r2, hg, q⟩ := h
  cases d <;> cases e <;> (try (simp [addD] at hg; done))
  · simp [addD] at hg; subst hg
    cases r1.int; cases r2.int
    exact op_add pins s σ H _ _ v u Q I rx ry ⟨_, _, rfl, rfl, q.v b (.int _)⟩
  · simp only [addD] at hg
    split at hg
    · rename_i hl
      cases hg
      cases r1.str; cases r2.str
      exact op_add_str pins s σ H _ _ v u Q I rx ry ⟨_, _, rfl, rfl, Nat.le_trans hl sizeLN, q.v b (.str _)⟩
    · cases hg
  · simp only [addD] at hg
    split at hg
    · rename_i hl
      cases hg
      obtain ⟨a, xs, rfl, h1, h2⟩ := r1.lst
      obtain ⟨c, ys, rfl, h3, h4⟩ := r2.lst
      exact op_cat pins s σ H _ _ v u Q I rx ry ⟨a, c, xs, ys, rfl, rfl, h1, h3, Nat.le_trans (by rw [h2.length, h4.length]; exact hl) sizeLN, q.newL b (h2.append h4)⟩
    · cases hg
  · simp only [addD] at hg
    split at hg
    · rename_i hl
      cases hg
      obtain ⟨a, xs, rfl, h1, h2⟩ := r1.tup
      obtain ⟨c, ys, rfl, h3, h4⟩ := r2.tup
      refine op_catA pins s σ H _ _ v u Q I rx ry ⟨a, c, xs, ys, rfl, rfl, h1, h3, Nat.le_trans (by rw [h2.length, h4.length]; exact hl) sizeLN, fun e => ?_, fun e1 e2 => ?_, fun _ _ => q.newT b (h2.append h4)⟩
      · subst e
        have := h2.append h4
        exact q.v b (.tup h3 this)
      · subst e2
        have := h2.append h4
        rw [List.append_nil] at this
        exact q.v b (.tup h1 this)
    · cases hg
theorem ro_sub : OpR X (binaryOp .Sub) (rD2 X.K B subD) := by
  intro pins s σ H x y v u Q I rx ry h
  obtain ⟨Sh, S, σ', d, e, rs, b, r1, r2, hg, q⟩ := h
  obtain ⟨i, j, rfl, rfl, e⟩ := i2_inv hg
  cases e
  cases r1.int; cases r2.int
  exact op_sub pins s σ H _ _ v u Q I rx ry ⟨_, _, rfl, rfl, q.v b (.int _)⟩
theorem ro_mul : OpR X (binaryOp .Mult) (rD2 X.K B mulD) := by
  intro pins s σ H x y v u Q I rx ry h
  obtain ⟨Sh, S, σ', d, e, rs, b, r1, r2, hg, q⟩ := h
  obtain ⟨i, j, rfl, rfl, e⟩ := i2_inv hg
  split at e
  · rename_i hl
    cases e
    cases r1.int; cases r2.int
    exact op_mulW pins s σ H _ _ v u Q I rx ry ⟨_, _, rfl, rfl, hl, q.v b (.int _)⟩
  · cases e
theorem ro_pow : OpR X (binaryOp .Pow) (rD2 X.K B powD) := by
  intro pins s σ H x y v u Q I rx ry h
  obtain ⟨Sh, S, σ', d, e, rs, b, r1, r2, hg, q⟩ := h
  obtain ⟨i, j, rfl, rfl, e⟩ := i2_inv hg
  split at e
  · rename_i hl
    cases e
    cases r1.int; cases r2.int
    exact op_pow pins s σ H _ _ v u Q I rx ry ⟨_, _, rfl, rfl, ⟨hl.1, by omega, hl.2.2⟩, q.v b (.int _)⟩
  · cases e
theorem op_fdivG : OpR X (binaryOp .FloorDiv) (rI (fun _ j => j ≠ 0 ∧ bits j < 9000) fun i j => .int (i.fdiv j)) := opI fun i j _ _ _ _ _ hc q =>
  floordiv_int hc.1 q (.inl (PyProof.noPylong_of_log2 hc.2))
theorem ro_fdiv : OpR X (binaryOp .FloorDiv) (rD2 X.K B fdivD) := by
  intro pins s σ H x y v u Q I rx ry h
  obtain ⟨Sh, S, σ', d, e, rs, b, r1, r2, hg, q⟩ := h
  obtain ⟨i, j, rfl, rfl, e⟩ := i2_inv hg
  split at e
  · rename_i hl
    cases e
    cases r1.int; cases r2.int
    exact op_fdivG pins s σ H _ _ v u Q I rx ry ⟨_, _, rfl, rfl, hl, q.v b (.int _)⟩
  · cases e
theorem ro_mod : OpR X (binaryOp .Mod) (rD2 X.K B modD) := by
  intro pins s σ H x y v u Q I rx ry h
  obtain ⟨Sh, S, σ', d, e, rs, b, r1, r2, hg, q⟩ := h
  obtain ⟨i, j, rfl, rfl, e⟩ := i2_inv hg
  split at e
  · rename_i hl
    cases e
    cases r1.int; cases r2.int
    exact op_modN pins s σ H _ _ v u Q I rx ry ⟨_, _, rfl, rfl, hl, q.v b (.int _)⟩
  · cases e
theorem ro_neg : UnR X (unaryOp .USub) (rD1 X.K B negD) := by
  intro pins s σ H x v Q I rx h
  obtain ⟨Sh, S, σ', d, rs, b, r1, hg, q⟩ := h
  cases d <;> (try (simp [negD] at hg; done))
  simp [negD] at hg; subst hg
  cases r1.int
  exact un_neg pins s σ H _ v Q I rx ⟨_, rfl, q.v b (.int _)⟩

/-! ### comparisons -/
mutual
def toP : D → PyData
  | .non => .none
  | .bl b => .bool b
  | .int i => .int i
  | .str x => .str x
  | .lst xs => .list (toPs xs)
  | .tup xs => .tuple (toPs xs)
  | .dct _ => .none
  | .st => .none
  | .err _ => .none
def toPs : List D → List PyData
  | [] => []
  | x :: xs => toP x :: toPs xs
end
mutual
theorem shp_ok : ∀ (n : Nat) (d : D), shp n d = true → (toP d).canLay0 = true ∧ (toP d).depth ≤ n
  | _, .non, _ => by simp [toP, PyData.canLay0, PyData.depth]
  | _, .bl _, _ => by simp [toP, PyData.canLay0, PyData.depth]
  | _, .int _, _ => by simp [toP, PyData.canLay0, PyData.depth]
  | _, .str x, h => by
    have h' : sOk x = true := by simpa [shp] using h
    simp only [toP, PyData.canLay0, PyData.depth]
    exact ⟨h', Nat.zero_le _⟩
  | 0, .lst xs, h => by simp [shp] at h
  | n + 1, .lst xs, h => by
    have := shps_ok n xs (by simpa [shp] using h)
    simp only [toP, PyData.canLay0, PyData.depth]
    exact ⟨this.1, by omega⟩
  | 0, .tup xs, h => by simp [shp] at h
  | n + 1, .tup xs, h => by
    have := shps_ok n xs (by simpa [shp] using h)
    simp only [toP, PyData.canLay0, PyData.depth]
    exact ⟨this.1, by omega⟩
  | _, .dct _, h => by simp [shp] at h
  | _, .st, h => by simp [shp] at h
  | _, .err _, h => by simp [shp] at h
theorem shps_ok : ∀ (n : Nat) (ds : List D), shps n ds = true → PyData.canLayAll0 (toPs ds) = true ∧ PyData.depthAll (toPs ds) ≤ n
  | _, [], _ => by simp [toPs, PyData.canLayAll0, PyData.depthAll]
  | n, x :: xs, h => by
    simp only [shps, Bool.and_eq_true] at h
    have h1 := shp_ok n x h.1
    have h2 := shps_ok n xs h.2
    simp only [toPs, PyData.canLayAll0, PyData.depthAll, Bool.and_eq_true]
    exact ⟨⟨h1.1, h2.1⟩, Nat.max_le.mpr ⟨h1.2, h2.2⟩⟩
end
theorem shp_shaped {d : D} (h : shp 64 d = true) : SeqAt.shaped (toP d) = true := by
  have := shp_ok 64 d h
  show ((toP d).canLay0 && decide ((toP d).depth ≤ 64)) = true
  rw [Bool.and_eq_true]
  exact ⟨this.1, decide_eq_true this.2⟩
theorem shps_shaped {ds : List D} (h : shps 63 ds = true) : SeqAt.shaped (.list (toPs ds)) = true := by
  have := shps_ok 63 ds h
  show (PyData.canLay0 (.list (toPs ds)) && decide (PyData.depth (.list (toPs ds)) ≤ 64)) = true
  rw [Bool.and_eq_true]
  simp only [PyData.canLay0, PyData.depth]
  exact ⟨this.1, decide_eq_true (by omega)⟩
mutual
theorem eqv_eqD : ∀ (n m : Nat) (a b : D), shp n a = true → shp m b = true → PyData.eqv (toP a) (toP b) = eqD a b := by
  intro n m a b ha hb
  cases a <;> cases b <;> (try (simp [shp] at ha; done)) <;> (try (simp [shp] at hb; done)) <;> (try (simp only [toP, PyData.eqv, eqD]; done))
  · rename_i xs ys
    cases n <;> (try (simp [shp] at ha; done))
    cases m <;> (try (simp [shp] at hb; done))
    simp only [toP, PyData.eqv, eqD]
    exact eqv_eqDs _ _ xs ys (by simpa [shp] using ha) (by simpa [shp] using hb)
  · rename_i xs ys
    cases n <;> (try (simp [shp] at ha; done))
    cases m <;> (try (simp [shp] at hb; done))
    simp only [toP, PyData.eqv, eqD]
    exact eqv_eqDs _ _ xs ys (by simpa [shp] using ha) (by simpa [shp] using hb)
termination_by _ _ a _ => sizeOf a
theorem eqv_eqDs : ∀ (n m : Nat) (a b : List D), shps n a = true → shps m b = true → PyData.eqvAll (toPs a) (toPs b) = eqDs a b := by
  intro n m a b ha hb
  cases a <;> cases b <;> (try (simp only [toPs, PyData.eqvAll, eqDs]; done))
  rename_i x xs y ys
  simp only [shps, Bool.and_eq_true] at ha hb
  simp only [toPs, PyData.eqvAll, eqDs]
  rw [eqv_eqD n m x y ha.1 hb.1, eqv_eqDs n m xs ys ha.2 hb.2]
termination_by _ _ a _ => sizeOf a
end
mutual
theorem DR.dp {K : PySem.W.Frag} {Sh : Addr → Prop} {st : Option Addr} {H : Hp} : ∀ {n : Nat} {v : V} {d : D}, shp n d = true → DR K Sh st H v d → Dp K H v (toP d)
  | _, _, _, _, .non => .non
  | _, _, _, _, .bl b => .bl b
  | _, _, _, _, .int i => .int i
  | _, _, _, _, .str x => .str x
  | 0, _, _, h, .lst _ _ _ => by simp [shp] at h
  | n + 1, _, _, h, .lst _ h2 h3 => by
    simp only [toP]
    exact .lst (.of h2) (DRs.dp (n := n) (by simpa [shp] using h) h3)
  | 0, _, _, h, .tup _ _ => by simp [shp] at h
  | n + 1, _, _, h, .tup h2 h3 => by
    simp only [toP]
    exact .tup h2 (DRs.dp (n := n) (by simpa [shp] using h) h3)
  | _, _, _, h, .dK _ _ _ => by simp [shp] at h
  | _, _, _, h, .dT _ _ _ => by simp [shp] at h
  | _, _, _, h, .st _ => by simp [shp] at h
theorem DRs.dp {K : PySem.W.Frag} {Sh : Addr → Prop} {st : Option Addr} {H : Hp} : ∀ {n : Nat} {vs : List V} {ds : List D}, shps n ds = true → DRs K Sh st H vs ds → DpAll K H vs (toPs ds)
  | _, _, _, _, .nil => .nil
  | n, _, _, h, .cons a t => by
    simp only [shps, Bool.and_eq_true] at h
    exact .cons (DR.dp h.1 a) (DRs.dp h.2 t)
end
theorem RR.dp {K : PySem.W.Frag} {Sh : Addr → Prop} {st : Option Addr} {H : Hp} {v : V} {d : D} (h : shp 64 d = true) (r : RR K Sh st H v d) : Dp K H v (toP d) := by
  rcases r with r | ⟨a, rfl, r⟩
  · exact r.dp h
  · cases d <;> try exact r.elim
    · obtain ⟨xs, h1, h2⟩ := r
      simp only [toP]
      exact .lst (.of h1) (h2.dp (n := 63) (by simpa [shp] using h))
    · simp [shp] at h
theorem ro_eq (hu : X.A.units + 64 < cLine) : OpR X (compareOp .Eq) (rD2 X.K B (eqB false)) := by
  intro pins s σ H x y v u Q I rx ry h
  obtain ⟨Sh, S, σ', d, e, rs, b, r1, r2, hg, q⟩ := h
  simp only [eqB] at hg
  split at hg
  · rename_i hl
    cases hg
    rw [Bool.and_eq_true] at hl
    refine op_eqD hu pins s σ H _ _ v u Q I rx ry ⟨_, _, r1.dp hl.1, r2.dp hl.2, shp_shaped hl.1, shp_shaped hl.2, ?_⟩
    rw [eqv_eqD _ _ _ _ hl.1 hl.2]
    exact q.v b (.bl _)
  · cases hg
theorem ro_ne (hu : X.A.units + 64 < cLine) : OpR X (compareOp .NotEq) (rD2 X.K B (eqB true)) := by
  intro pins s σ H x y v u Q I rx ry h
  obtain ⟨Sh, S, σ', d, e, rs, b, r1, r2, hg, q⟩ := h
  simp only [eqB] at hg
  split at hg
  · rename_i hl
    cases hg
    rw [Bool.and_eq_true] at hl
    refine op_neD hu pins s σ H _ _ v u Q I rx ry ⟨_, _, r1.dp hl.1, r2.dp hl.2, shp_shaped hl.1, shp_shaped hl.2, ?_⟩
    rw [eqv_eqD _ _ _ _ hl.1 hl.2]
    exact q.v b (.bl _)
  · cases hg
theorem ro_cmp {op : CmpOp} {p : Int → Int → Bool} (hop : OpR X (compareOp op) (rI0 fun i j => .bl (p i j))) : OpR X (compareOp op) (rD2 X.K B (cmpI p)) := by
  intro pins s σ H x y v u Q I rx ry h
  obtain ⟨Sh, S, σ', d, e, rs, b, r1, r2, hg, q⟩ := h
  obtain ⟨i, j, rfl, rfl, e⟩ := i2_inv hg
  cases e
  cases r1.int; cases r2.int
  exact hop pins s σ H _ _ v u Q I rx ry ⟨_, _, rfl, rfl, q.v b (.bl _)⟩
theorem ro_is : OpR X (compareOp .Is) (rD2 X.K B (isB false)) := by
  intro pins s σ H x y v u Q I rx ry h
  obtain ⟨Sh, S, σ', d, e, rs, b, r1, r2, hg, q⟩ := h
  cases e with
  | non =>
    cases r2.non
    refine op_isN pins s σ H _ _ v u Q I rx ry ⟨rfl, ?_⟩
    have key : ∀ c : Bool, decide (x = V.non) = c → rs = .v (.bl c) → Q (.bl (decide (x = V.non))) H := fun c e1 e2 => by
      subst e2; rw [e1]; exact q.v b (.bl _)
    cases d <;> (try (simp [isB] at hg; done)) <;> simp [isB] at hg
    · cases r1.non; exact key _ rfl hg.symm
    · cases r1.bl; exact key _ rfl hg.symm
    · cases r1.int; exact key _ rfl hg.symm
    · cases r1.str; exact key _ rfl hg.symm
    · obtain ⟨a, xs, rfl, h1, h2⟩ := r1.lst
      exact key _ rfl hg.symm
    · obtain ⟨a, xs, rfl, h1, h2⟩ := r1.tup
      exact key _ rfl hg.symm
    · obtain ⟨a, rfl, _⟩ := r1.dct
      exact key _ rfl hg.symm
  | bl c =>
    cases d <;> (try (simp [isB] at hg; done))
    simp only [isB] at hg
    cases hg
    cases r1.bl; cases r2.bl
    exact op_isBl pins s σ H _ _ v u Q I rx ry ⟨_, _, rfl, rfl, q.v b (.bl _)⟩
  | _ => simp [isB] at hg
theorem ro_isn : OpR X (compareOp .IsNot) (rD2 X.K B (isB true)) := by
  intro pins s σ H x y v u Q I rx ry h
  obtain ⟨Sh, S, σ', d, e, rs, b, r1, r2, hg, q⟩ := h
  cases e with
  | non =>
    cases r2.non
    refine op_notN pins s σ H _ _ v u Q I rx ry ⟨rfl, ?_⟩
    have key : ∀ c : Bool, (!decide (x = V.non)) = c → rs = .v (.bl c) → Q (.bl (!decide (x = V.non))) H := fun c e1 e2 => by
      subst e2; rw [e1]; exact q.v b (.bl _)
    cases d <;> (try (simp [isB] at hg; done)) <;> simp [isB] at hg
    · cases r1.non; exact key _ rfl hg.symm
    · cases r1.bl; exact key _ rfl hg.symm
    · cases r1.int; exact key _ rfl hg.symm
    · cases r1.str; exact key _ rfl hg.symm
    · obtain ⟨a, xs, rfl, h1, h2⟩ := r1.lst
      exact key _ rfl hg.symm
    · obtain ⟨a, xs, rfl, h1, h2⟩ := r1.tup
      exact key _ rfl hg.symm
    · obtain ⟨a, rfl, _⟩ := r1.dct
      exact key _ rfl hg.symm
  | bl c =>
    cases d <;> (try (simp [isB] at hg; done))
    simp only [isB] at hg
    cases hg
    cases r1.bl; cases r2.bl
    exact op_notBl pins s σ H _ _ v u Q I rx ry ⟨_, _, rfl, rfl, q.v b (.bl _)⟩
  | _ => simp [isB] at hg
end
end MP
set_option Elab.async false
set_option linter.all false
set_option maxRecDepth 100000
/-! Reversed tuples and texts, tuple(text): what the layer lacks. -/
namespace MP
open PySem PySem.Spec PyProof.Rows L2

section
variable {prog : Program} {w : World} {A : Around} {E : Value → Shared → Prop} {s : Shared}
theorem rev_places (n : Nat) : Builtin.Slice.slicePlaces ((n : Int) - 1) (-1) (-1) = n := by
  unfold Builtin.Slice.slicePlaces
  rw [if_neg (by decide)]
  by_cases h : (n : Int) - 1 > -1
  · rw [if_pos h]
    rw [show (-(-1) : Int) = 1 by decide, Int.ediv_one]
    omega
  · rw [if_neg h]; omega
theorem fm_congr {α β : Type} {f g : α → Option β} : ∀ {l : List α}, (∀ x ∈ l, f x = g x) → l.filterMap f = l.filterMap g
  | [], _ => rfl
  | x :: r, h => by rw [List.filterMap_cons, List.filterMap_cons, h x List.mem_cons_self, fm_congr fun y hy => h y (List.mem_cons_of_mem _ hy)]
theorem rev_pick (xs : Array Value) : ((List.range xs.size).filterMap fun (k : Nat) => xs[(((xs.size : Int) - 1) + (k : Int) * (-1)).toNat]?).toArray = xs.toList.reverse.toArray := by
  congr 1
  have h1 : ((List.range xs.size).filterMap fun (k : Nat) => xs[(((xs.size : Int) - 1) + (k : Int) * (-1)).toNat]?) = ((List.range xs.size).map fun k => xs.size - 1 - k).filterMap (xs[·]?) := by
    rw [List.filterMap_map]
    refine fm_congr fun k hk => ?_
    have := List.mem_range.mp hk
    show _ = xs[xs.size - 1 - k]?
    congr 1
    omega
  rw [h1, PySem.W.krv_range, List.filterMap_reverse, PySem.W.krv_all]
theorem sliceApplied_rev {sl : Addr} {vk : Value} {n : Nat} {Q : Int × Int × Nat → Shared → Prop} (hs : s.heap.IsSliceOf sl .none .none vk) (pk : IsPart vk (some (-1)))
    (h : Q ((n : Int) - 1, -1, n) s) : wpAny (model prog w) A (Builtin.Slice.sliceApplied (.ref sl) (pure (n : Int))) Q E s := by
  obtain ⟨os, hos, hcs, hds⟩ := id hs
  unfold Builtin.Slice.sliceApplied Builtin.Slice.sliceFields
  refine wpAny_bind (wpAny_bind (wpAny_field hos hds (x := .none) rfl (wpAny_bind (wpAny_field hos hds (x := .none) rfl (wpAny_bind (wpAny_field hos hds (x := vk) rfl (wpAny_pure ?_)))))))
  refine wpAny_bind (HT.slicePart_ pk ?_)
  show wpAny _ _ (if ((-1 : Int) == 0) = true then _ else _) _ _ s
  rw [if_neg (by decide)]
  refine wpAny_bind (slicePart_none (wpAny_bind (slicePart_none (wpAny_bind (wpAny_pure ?_)))))
  show wpAny _ _ (pure (((n : Int) - 1), (-1 : Int), Builtin.Slice.slicePlaces ((n : Int) - 1) (-1) (-1))) _ _ s
  rw [rev_places]
  exact wpAny_pure h
theorem getItem_tuple_rev {t sl : Addr} {items : Array Value} {vk : Value} {Q : Value → Shared → Prop} (ht : IsTup s.heap t items) (hs : s.heap.IsSliceOf sl .none .none vk) (pk : IsPart vk (some (-1)))
    (h : Q (.ref s.heap.objs.size) { s with heap := s.heap.push { cls := .type "tuple", data := .seq items.toList.reverse.toArray } })
    (hsz : items.size ≤ sizeLine) : wpAny (model prog w) A (getItem (.ref t) (.ref sl)) Q E s := by
  have htake : sizeOk (.seq items.toList.reverse.toArray) := by
    show items.toList.reverse.toArray.size ≤ sizeLine
    rw [List.size_toArray, List.length_reverse, Array.length_toList]
    omega
  obtain ⟨os, hos, hcs, hds⟩ := id hs
  have hTs : s.TypeIs (.ref sl) "slice" := ⟨os, hos, hcs⟩
  unfold getItem
  try with_reducible refine wpAny_holding ?_
  first | refine wpAny_bind (wpAny_pure ?_) | skip
  refine wpAny_bind (wpAny_sequenceKey ht.typeIs (by decide) ?_)
  refine wpAny_bind (wpAny_callSpecial?_slot (name := Str.ofString "__getitem__") ht.typeIs PyProof.Rows.slot_tuple_getitem
    (wpAny_call_entry PyProof.Rows.slot_tuple_getitem ht.typeIs entry_tuple_getitem ?_ (args_tuple_getitem _ _)))
  show wpAny _ _ (Builtin.Tuple.tupleItemsOf (.ref t) >>= _) _ _ s
  refine wpAny_bind (tupleItemsOf_ ht ?_)
  refine wpAny_bind (wpAny_typeOf hTs ?_)
  rw [if_pos (by decide)]
  refine wpAny_bind (sliceApplied_rev hs pk ?_)
  have hno : ¬ ((((items.size : Int) - 1) == 0 && (-1 : Int) == 1 && items.size == items.size) = true) := by
    intro q
    rw [Bool.and_eq_true, Bool.and_eq_true] at q
    exact absurd q.1.2 (by decide)
  show wpAny _ _ (if (((items.size : Int) - 1) == 0 && (-1 : Int) == 1 && items.size == items.size) = true then _ else _) _ _ s
  rw [if_neg hno, rev_pick]
  first
    | exact wpAny_bind (m := Builtin.Tuple.tupleExact _) (wpAny_newObj_type (wpAny_pure ⟨_, rfl, wpAny_pure h⟩) htake)
    | exact wpAny_bind (m := Builtin.Tuple.tupleExact _) (wpAny_newObj_type (wpAny_bind (wpAny_pure (wpAny_pure ⟨_, rfl, wpAny_pure h⟩))) htake)
    | exact wpAny_bind (wpAny_bind (m := Builtin.Tuple.tupleExact _) (wpAny_newObj_type (wpAny_pure (wpAny_pure ⟨_, rfl, wpAny_pure h⟩)) htake))
    | exact wpAny_bind (wpAny_bind (m := Builtin.Tuple.tupleExact _) (wpAny_newObj_type (wpAny_pure ⟨_, rfl, wpAny_pure h⟩) htake))

/-! ### tuple(text) -/
theorem code_tuple_new_str {Q₁ : Value → Shared → Prop} (hh : A.handled = none) {x : Str} {t : Tok} (hn : x.cps.size ≤ sizeLine)
    (h : ∀ (s' : Shared) (acc : Array Value), (∀ b o, s.heap.get? b = some o → s'.heap.get? b = some o) → s'.gens = s.gens → s'.os = s.os → ItemsOf (SignAt x) acc x.cps.size →
      Q₁ (.ref s'.heap.objs.size) { s' with heap := s'.heap.push { cls := .type "tuple", data := .seq acc } }) :
    codeAny (model prog w) A (.call (.builtin "tuple.__new__") ⟨[.type "tuple", .str x t], []⟩) (wants Q₁ E) s := by
  refine codeAny_of_tree ?_
  show wpAny _ A.in1 (do checkBuiltinCall "tuple.__new__" ⟨[.type "tuple", .str x t], []⟩; again (.builtin "tuple.__new__" ⟨[.type "tuple", .str x t], []⟩)) _ _ s
  refine wpAny_bind (wpAny_of_eq (F.newCall_tuple_1 _) (wpAny_pure ⟨plainId_quiet F.plain_tuple_new _, codeAny_builtin F.entry_tuple_new ?_⟩))
  rw [Around.under_plainId F.plain_tuple_new _]
  have hsub := sub_tuple_self
  have hinit := init_tuple_lookup
  have hmh := madeHere_tuple
  have hTI : s.TypeIs (.str x t) "str" := rfl
  have hh1 : A.in1.handled = none := hh
  have hcol : ∀ {Q : List Value → Shared → Prop} {E : Value → Shared → Prop}, (∀ s' acc, (∀ b o, s.heap.get? b = some o → s'.heap.get? b = some o) → s'.gens = s.gens → s'.drawn = s.drawn → s'.os = s.os → ItemsOf (SignAt x) acc x.cps.size → Q acc.toList s') → wpAny (model prog w) A.in1 (collect (.str x t)) Q E s :=
    fun {Q E} hQ => wpAny_collect_str (A := A.in1) hh1 x t hQ hn
  wp_walk using wpAny_typeOf hTI, hcol
  intro s' acc hk hg _ ho hacc
  show wpAny _ _ (Builtin.Tuple.tupleExact acc.toList.toArray >>= fun v => ret v) _ _ _
  unfold Builtin.Tuple.tupleExact
  refine wpAny_bind (wpAny_newObj_type ?_ (by show acc.toList.toArray.size ≤ sizeLine; simp only [Array.toArray_toList]; rw [hacc.1]; exact hn))
  refine wpAny_pure ?_
  have e : acc.toList.toArray = acc := by simp
  rw [e]
  exact h s' acc hk hg ho hacc
theorem call_tuple_text {Q : Value → Shared → Prop} (hh : A.handled = none) {x : Str} {t : Tok} (hn : x.cps.size ≤ sizeLine)
    (hQ : ∀ (s' : Shared) (acc : Array Value), (∀ b o, s.heap.get? b = some o → s'.heap.get? b = some o) → s'.gens = s.gens → s'.os = s.os → ItemsOf (SignAt x) acc x.cps.size →
      Q (.ref s'.heap.objs.size) { s' with heap := s'.heap.push { cls := .type "tuple", data := .seq acc } }) :
    wpAny (model prog w) A (call (.type "tuple") [.str x t]) Q E s := by
  refine callType_codes (Q₁ := fun obj s₁ => s₁.TypeIs obj "tuple" ∧ Q obj s₁) F.called_tuple (F.typeCall_tuple_1 _) F.entry_object_init
    (code_tuple_new_str (A := A.in1) hh hn fun s' acc hk hg ho hacc => ⟨⟨_, Heap.get?_push_size _ rfl, rfl⟩, hQ s' acc hk hg ho hacc⟩) fun obj s₁ h₁ => ?_
  exact ⟨h₁.1, F.args_object_init_2 obj _, object_init_meets F.called_tuple.init.lookup F.called_tuple.made (by decide) prog w A.in1 _ s₁ ⟨h₁.1, rfl, h₁.2⟩⟩
end

section
variable {X : Cx} {te : TE}
def tRevA (K : PySem.W.Frag) (te : TE) : TE := fun σ H Q => te σ H fun x H1 =>
  (∃ a xs, x = .ref a ∧ SqL K H1 a xs ∧ ∀ p, H1 p = none → Q (.ref p) (upd H1 p (.lst xs.reverse))) ∨
  (∃ a xs, x = .ref a ∧ SqT K H1 a xs ∧ ∀ p, H1 p = none → Q (.ref p) (upd H1 p (.tup xs.reverse))) ∨
  (∃ z, x = .str z ∧ z.length ≤ sizeLine ∧ Q (.str ⟨z.cps.toList.reverse.toArray⟩) H1)
theorem rev_text (z : Str) (u : Tok) : ((Builtin.Str.strSliceIndices none none (-1) z.length).filterMap (z.cps[·]?)).toArray = z.cps.toList.reverse.toArray := by
  rw [picked_rev]
  congr 1
  have : ((List.range z.length).map fun k => z.length - 1 - k) = (List.range z.cps.size).reverse := PySem.W.krv_range z.cps.size
  rw [this, List.filterMap_reverse, PySem.W.krv_all]
theorem pe_revA {e : Expr} {k : Nat} {p1 p2 p3 pos : Pos} (he : PE X e te) : PE X (.Subscript e (.Slice none none (some (.UnaryOp .USub (.Constant (.int 1) k p1) p2)) p3) pos) (tRevA X.K te) := by
  refine ⟨fun pins s σ H Q I h => ?_⟩
  refine Subscript_ (thn (he.run pins s σ H _ I h) fun v s1 ⟨x, H1, I1, r1, q1⟩ => ?_)
  have hst : PO X (some (.UnaryOp .USub (.Constant (.int 1) k p1) p2)) (tPart (tUn (rU fun i => .int (-i)) (tC (.int 1)))) := po_some (pe_un un_neg pe_int)
  refine wpAny_Slice (thn (po_none.run pins s1 σ H1 (fun o H2 => o = none ∧ H2 = H1) I1 ⟨rfl, rfl⟩) fun vl s2 ⟨l, H2, I2, pl, el, e2⟩ => ?_)
  subst el e2
  refine thn (po_none.run pins s2 σ H2 (fun o H3 => o = none ∧ H3 = H2) I2 ⟨rfl, rfl⟩) fun vu s3 ⟨u, H3, I3, pu, eu, e3⟩ => ?_
  subst eu e3
  refine thn (hst.run pins s3 σ H3 (fun o H4 => o = some (-1) ∧ H4 = H3) I3 ⟨1, rfl, -1, rfl, rfl, rfl⟩) fun vs s4 ⟨o, H4, I4, ps, eo, e4⟩ => ?_
  subst eo e4
  have I5 : Inv X pins σ H4 { s4 with heap := s4.heap.push { cls := .type "slice", data := .fields #[vl, vu, vs] } } := I4.kept (t' := s4.toks) fun b ob q => Heap.get?_push_of_some _ q
  have hsl : (s4.heap.push { cls := .type "slice", data := .fields #[vl, vu, vs] }).IsSliceOf s4.heap.objs.size vl vu vs := Heap.IsSliceOf.new _ vl vu vs
  have el : vl = Value.none := by cases pl; rfl
  have eu : vu = Value.none := by cases pu; rfl
  rcases q1 with ⟨a, xs, ex, hx, q⟩ | ⟨a, xs, ex, hx, q⟩ | ⟨z, ex, hz, q⟩
  · subst ex
    cases r1
    obtain ⟨its, r, ht, hz⟩ := I5.list hx
    have hlen := r.length
    show wpAny (model X.prog X.w) X.A (subscriptTail e (.Slice none none (some (.UnaryOp .USub (.Constant (.int 1) k p1) p2)) p3) (.ref a) (.ref s4.heap.objs.size)) (EP X pins σ Q) X.xe { s4 with heap := s4.heap.push { cls := .type "slice", data := .fields #[vl, vu, vs] } }
    refine tail_any (ops := [.ref a, .ref s4.heap.objs.size]) ht.isList.typeIs (PySem.slot_list_getitem.lookup) ?_ (by with_unfolding_all rfl)
    refine wpAny_getItem_list_slice ht.isList hsl pl pu ps (by decide) ?_ (by rw [List.size_toArray]; omega)
    rw [PySem.W.krv_pick]
    refine ⟨.ref _, _, I5.laid (t' := s4.toks) (o := .lst xs.reverse) (fun b ob q => Heap.get?_push_of_some _ q) (Nat.le_refl _) ?_, rfl, q _ (I5.hok.fresh (Nat.le_refl _))⟩
    exact ⟨by rw [List.length_reverse]; exact hz, _, 0, r.reverse, Heap.get?_push_size _ rfl⟩
  · subst ex
    cases r1
    obtain ⟨its, r, ht, hz⟩ := I5.tuple hx
    have hlen := r.length
    subst el eu
    show wpAny (model X.prog X.w) X.A (subscriptTail e (.Slice none none (some (.UnaryOp .USub (.Constant (.int 1) k p1) p2)) p3) (.ref a) (.ref s4.heap.objs.size)) (EP X pins σ Q) X.xe _
    refine tail_any (ops := [.ref a, .ref s4.heap.objs.size]) ht.typeIs (PyProof.Rows.slot_tuple_getitem.lookup) ?_ (by with_unfolding_all rfl)
    refine getItem_tuple_rev ht hsl ps ?_ (by rw [List.size_toArray]; omega)
    refine ⟨.ref _, _, I5.laid (t' := s4.toks) (o := .tup xs.reverse) (fun b ob q => Heap.get?_push_of_some _ q) (Nat.le_refl _) ?_, rfl, q _ (I5.hok.fresh (Nat.le_refl _))⟩
    exact ⟨by rw [List.length_reverse]; exact hz, _, r.reverse, IsTup.new _ _⟩
  · subst ex
    obtain ⟨t, rfl⟩ := r1
    obtain ⟨os, hos, hcs, hds⟩ := id hsl
    obtain ⟨l', el', el2⟩ := IsPart.raw pl
    obtain ⟨u', eu', eu2⟩ := IsPart.raw pu
    obtain ⟨k', ek', ek2⟩ := IsPart.raw ps
    show wpAny (model X.prog X.w) X.A (subscriptTail e (.Slice none none (some (.UnaryOp .USub (.Constant (.int 1) k p1) p2)) p3) (.str z t) (.ref s4.heap.objs.size)) (EP X pins σ Q) X.xe _
    refine tail_any (ops := [.str z t, .ref s4.heap.objs.size]) (typeIs_str _ _ _) (F.slot_str_getitem.lookup) ?_ (by with_unfolding_all rfl)
    refine wpAny_getItem_str_slice (l := l') (u := u') (st := k') ⟨os, hos, hcs, by rw [hds, el', eu', ek']⟩ (by rw [ek2]; decide) ?_
    unfold sliceMade
    rw [if_neg (by rw [ek2]; intro h; rw [Bool.and_eq_true] at h; exact absurd h.1 (by decide))]
    have e9 : ((slicePicked z l' u' k').filterMap (z.cps[·]?)).toArray = z.cps.toList.reverse.toArray := by
      unfold slicePicked
      rw [el2, eu2, ek2]
      exact rev_text z t
    rw [e9]
    refine ⟨?_, .str _, H4, I5.tok _, ⟨_, rfl⟩, q⟩
    show (z.cps.toList.reverse.toArray).size ≤ sizeLine
    rw [List.size_toArray, List.length_reverse, Array.length_toList]
    exact hz
end
end MP
set_option Elab.async false
set_option linter.all false
set_option maxRecDepth 100000
/-! More operators over data. -/
namespace MP
open PySem PySem.Spec PyProof.Rows L2

def RRs (K : PySem.W.Frag) (Sh : Addr → Prop) (st : Option Addr) (H : Hp) : List V → List D → Prop
  | [], [] => True
  | v :: vs, d :: ds => RR K Sh st H v d ∧ RRs K Sh st H vs ds
  | _, _ => False
def rDn (K : PySem.W.Frag) (B : Bs) (g : List D → Option Rs) : List V → Hp → VK → Prop := fun xs H Q => ∃ Sh s σ ds rs, BI K B Sh s σ H ∧ RRs K Sh B.st H xs ds ∧ g ds = some rs ∧ Hands K B Sh s σ H (opd rs) Q
theorem RRs.one {K : PySem.W.Frag} {Sh : Addr → Prop} {st : Option Addr} {H : Hp} {xs : List V} {d : D} (h : RRs K Sh st H xs [d]) : ∃ v, xs = [v] ∧ RR K Sh st H v d := by
  cases xs with
  | nil => exact h.elim
  | cons v r => cases r with
    | nil => exact ⟨v, rfl, h.1⟩
    | cons _ _ => exact h.2.elim
theorem RRs.two {K : PySem.W.Frag} {Sh : Addr → Prop} {st : Option Addr} {H : Hp} {xs : List V} {d e : D} (h : RRs K Sh st H xs [d, e]) : ∃ v u, xs = [v, u] ∧ RR K Sh st H v d ∧ RR K Sh st H u e := by
  cases xs with
  | nil => exact h.elim
  | cons v r =>
    obtain ⟨u, e1, h2⟩ := RRs.one h.2
    subst e1
    exact ⟨v, u, rfl, h.1, h2⟩

section
variable {X : Cx} {B : Bs}
theorem any_congr {α β : Type} {f : α → Bool} {g : β → Bool} : ∀ {l : List α} {m : List β}, l.length = m.length → (∀ (i : Nat) (a : α) (b : β), l[i]? = some a → m[i]? = some b → f a = g b) → l.any f = m.any g
  | [], [], _, _ => rfl
  | [], _ :: _, h, _ => by simp at h
  | _ :: _, [], h, _ => by simp at h
  | a :: l, b :: m, h, k => by
    rw [List.any_cons, List.any_cons, k 0 a b rfl rfl, any_congr (by simpa using h) fun i x y e1 e2 => k (i + 1) x y (by simpa using e1) (by simpa using e2)]
theorem toPs_length : ∀ ds : List D, (toPs ds).length = ds.length
  | [] => rfl
  | _ :: r => by simp [toPs, toPs_length r]
theorem toPs_get : ∀ (ds : List D) (i : Nat) (x : PyData), (toPs ds)[i]? = some x → ∃ d, ds[i]? = some d ∧ x = toP d
  | [], _, _, h => by simp [toPs] at h
  | d :: _, 0, _, h => by simp [toPs] at h; exact ⟨d, rfl, h.symm⟩
  | _ :: r, i + 1, x, h => by
    obtain ⟨d, a, b⟩ := toPs_get r i x (by simpa [toPs] using h)
    exact ⟨d, by simpa using a, b⟩
theorem shps_get : ∀ {n : Nat} {ds : List D} {i : Nat} {d : D}, shps n ds = true → ds[i]? = some d → shp n d = true
  | _, [], _, _, _, h => by simp at h
  | n, x :: r, 0, d, h, e => by
    simp only [shps, Bool.and_eq_true] at h
    simp at e; subst e; exact h.1
  | n, x :: r, i + 1, d, h, e => by
    simp only [shps, Bool.and_eq_true] at h
    exact shps_get h.2 (by simpa using e)
theorem mem_any {a : D} {xs : List D} (ha : shp 64 a = true) (hx : shps 63 xs = true) : ((toPs xs).any fun y => PyData.eqv y (toP a)) = xs.any fun z => eqD z a := by
  refine any_congr (toPs_length xs) fun i p d e1 e2 => ?_
  obtain ⟨d', e3, rfl⟩ := toPs_get xs i p e1
  rw [e2] at e3; cases e3
  exact eqv_eqD _ _ _ _ (shps_get hx e2) ha
theorem ro_mem (hu : X.A.units + 65 < cLine) : OpR X (compareOp .In) (rD2 X.K B (memB false)) := by
  intro pins s σ H x y v u Q I rx ry h
  obtain ⟨Sh, S, σ', d, e, rs, b, r1, r2, hg, q⟩ := h
  cases e <;> (try (simp [memB] at hg; done))
  · rename_i xs
    simp only [memB] at hg
    split at hg
    · rename_i hl
      rw [Bool.and_eq_true] at hl
      cases hg
      obtain ⟨a, ys, rfl, h1, h2⟩ := r2.lst
      have hd : Dp X.K H (V.ref a) (.list (toPs xs)) := .lst (.of h1) (h2.dp hl.2)
      refine op_inD hu pins s σ H _ _ v u Q I rx ry ⟨toP d, toPs xs, r1.dp hl.1, hd, shp_shaped hl.1, shps_shaped hl.2, ?_⟩
      rw [mem_any hl.1 hl.2]
      exact q.v b (.bl _)
    · cases hg
  · rename_i xs
    simp only [memB] at hg
    split at hg
    · rename_i hl
      rw [Bool.and_eq_true] at hl
      cases hg
      obtain ⟨a, ys, rfl, h1, h2⟩ := r2.tup
      have hd : Dp X.K H (V.ref a) (.tuple (toPs xs)) := .tup h1 (h2.dp hl.2)
      obtain ⟨as, p1⟩ := Dp.reads I _ x v (r1.dp hl.1) rx
      obtain ⟨bs, p2⟩ := Dp.reads I _ _ u hd ry
      have sx := shps_shaped hl.2
      have cx : PyData.canLayAll0 (toPs xs) = true := (shps_ok 63 xs hl.2).1
      refine SeqAt.in_tuple_reads p2 p1 cx (SeqAt.canLay_of_shaped (shp_shaped hl.1)) (room_in_shaped (shp_shaped hl.1) hu) ⟨.bl _, H, I, rfl, ?_⟩
      rw [mem_any hl.1 hl.2]
      exact q.v b (.bl _)
    · cases hg
theorem ro_nmem (hu : X.A.units + 65 < cLine) : OpR X (compareOp .NotIn) (rD2 X.K B (memB true)) := by
  intro pins s σ H x y v u Q I rx ry h
  obtain ⟨Sh, S, σ', d, e, rs, b, r1, r2, hg, q⟩ := h
  cases e <;> (try (simp [memB] at hg; done))
  · rename_i xs
    simp only [memB] at hg
    split at hg
    · rename_i hl
      rw [Bool.and_eq_true] at hl
      cases hg
      obtain ⟨a, ys, rfl, h1, h2⟩ := r2.lst
      have hd : Dp X.K H (V.ref a) (.list (toPs xs)) := .lst (.of h1) (h2.dp hl.2)
      refine op_notInD hu pins s σ H _ _ v u Q I rx ry ⟨toP d, toPs xs, r1.dp hl.1, hd, shp_shaped hl.1, shps_shaped hl.2, ?_⟩
      rw [mem_any hl.1 hl.2]
      exact q.v b (.bl _)
    · cases hg
  · rename_i xs
    simp only [memB] at hg
    split at hg
    · rename_i hl
      rw [Bool.and_eq_true] at hl
      cases hg
      obtain ⟨a, ys, rfl, h1, h2⟩ := r2.tup
      have hd : Dp X.K H (V.ref a) (.tuple (toPs xs)) := .tup h1 (h2.dp hl.2)
      obtain ⟨as, p1⟩ := Dp.reads I _ x v (r1.dp hl.1) rx
      obtain ⟨bs, p2⟩ := Dp.reads I _ _ u hd ry
      have cx : PyData.canLayAll0 (toPs xs) = true := (shps_ok 63 xs hl.2).1
      refine SeqAt.notIn_tuple_reads p2 p1 cx (SeqAt.canLay_of_shaped (shp_shaped hl.1)) (room_in_shaped (shp_shaped hl.1) hu) ⟨.bl _, H, I, rfl, ?_⟩
      rw [mem_any hl.1 hl.2]
      exact q.v b (.bl _)
    · cases hg

/-! ### subscripts -/
theorem atI_rel {K : PySem.W.Frag} {Sh : Addr → Prop} {st : Option Addr} {H : Hp} {vs : List V} {ds : List D} {i : Int} {d : D} (h : DRs K Sh st H vs ds) (e : atI ds i = some d) : ∃ v, atI vs i = some v ∧ DR K Sh st H v d := by
  unfold atI at e ⊢
  rw [h.length]
  cases q : ixN ds.length i with
  | none => rw [q] at e; cases e
  | some j =>
    rw [q] at e
    obtain ⟨v, h1, h2⟩ := h.get (show ds[j]? = some d from e)
    exact ⟨v, h1, h2⟩
theorem ro_ix : IxR X (rD2 X.K B ixD) := by
  intro value slice pins s σ H x y v u Q I rx ry h hs
  obtain ⟨Sh, S, σ', d, e, rs, b, r1, r2, hg, q⟩ := h
  cases d <;> (try (simp [ixD] at hg; done))
  · cases e <;> (try (simp [ixD] at hg; done))
    simp only [ixD, Option.map_eq_some_iff] at hg
    obtain ⟨d, e1, e2⟩ := hg
    subst e2
    obtain ⟨a, xs, rfl, h1, h2⟩ := r1.lst
    cases r2.int
    obtain ⟨w, e3, r3⟩ := atI_rel h2 e1
    exact ix_list value slice pins s σ H _ _ v u Q I rx ry ⟨a, xs, _, w, rfl, rfl, .of h1, e3, q.v b r3⟩ hs
  · cases e <;> (try (simp [ixD] at hg; done))
    simp only [ixD, Option.map_eq_some_iff] at hg
    obtain ⟨d, e1, e2⟩ := hg
    subst e2
    obtain ⟨a, xs, rfl, h1, h2⟩ := r1.tup
    cases r2.int
    obtain ⟨w, e3, r3⟩ := atI_rel h2 e1
    exact ix_tup value slice pins s σ H _ _ v u Q I rx ry ⟨a, xs, _, w, rfl, rfl, h1, e3, q.v b r3⟩ hs
/-- a slice -/
def rSlD (K : PySem.W.Frag) (B : Bs) : V → Option Int → Option Int → Hp → VK → Prop := fun x lo hi H Q => ∃ Sh s σ d rs, BI K B Sh s σ H ∧ RR K Sh B.st H x d ∧ cutD d lo hi = some rs ∧ Hands K B Sh s σ H (opd rs) Q
theorem cut_rel {K : PySem.W.Frag} {Sh : Addr → Prop} {st : Option Addr} {H : Hp} {vs : List V} {ds : List D} (lo hi : Option Int) (h : DRs K Sh st H vs ds) : DRs K Sh st H (cutV vs lo hi) (cutL ds lo hi) := by
  unfold cutV cutL
  rw [h.length]
  exact (h.drop _).take _
theorem cut_whole {α : Type} {xs : List α} {lo hi : Option Int} (h : HT.sIx xs.length 0 lo = 0 ∧ HT.sIx xs.length xs.length hi = xs.length) : cutL xs lo hi = xs := by
  unfold cutL
  rw [h.1, h.2, List.drop_zero, Nat.sub_zero, List.take_length]
theorem ro_slice : SlR X (rSlD X.K B) := by
  intro pins s σ H x v vl vu lo hi sl Q I rx hs pl pu h
  obtain ⟨Sh, S, σ', d, rs, b, r1, hg, q⟩ := h
  cases d <;> (try (simp [cutD] at hg; done))
  · simp only [cutD] at hg
    split at hg
    · rename_i hl
      cases hg
      cases r1.str
      exact sl_str pins s σ H _ v vl vu lo hi sl Q I rx hs pl pu ⟨_, rfl, Nat.le_trans hl sizeLN, q.v b (.str _)⟩
    · cases hg
  · simp only [cutD] at hg
    cases hg
    obtain ⟨a, xs, rfl, h1, h2⟩ := r1.lst
    exact sl_list pins s σ H _ v vl vu lo hi sl Q I rx hs pl pu ⟨a, xs, rfl, .of h1, q.newL b (cut_rel lo hi h2)⟩
  · simp only [cutD] at hg
    cases hg
    obtain ⟨a, xs, rfl, h1, h2⟩ := r1.tup
    refine sl_tupA pins s σ H _ v vl vu lo hi sl Q I rx hs pl pu ⟨a, xs, rfl, h1, fun e => ?_, fun _ => q.newT b (cut_rel lo hi h2)⟩
    rw [h2.length] at e
    rw [cut_whole e] at q
    exact q.v b (.tup h1 h2)
/-- [::-1] -/
theorem rd_rev {te : TE} {K : PySem.W.Frag} {σ : L2.St} {H : Hp} {Q : VK} (h : te σ H fun x H1 => rD1 K B revD x H1 Q) (mono : ∀ {Q Q' : VK}, (∀ v H, Q v H → Q' v H) → te σ H Q → te σ H Q') : tRevA K te σ H Q := by
  refine mono (fun x H1 h => ?_) h
  obtain ⟨Sh, S, σ', d, rs, b, r1, hg, q⟩ := h
  cases d <;> (try (simp [revD] at hg; done))
  · simp only [revD] at hg
    split at hg
    · rename_i hl
      cases hg
      cases r1.str
      exact .inr (.inr ⟨_, rfl, Nat.le_trans hl sizeLN, q.v b (.str _)⟩)
    · cases hg
  · simp only [revD] at hg
    cases hg
    obtain ⟨a, xs, rfl, h1, h2⟩ := r1.lst
    exact .inl ⟨a, xs, rfl, .of h1, q.newL b h2.reverse⟩
  · simp only [revD] at hg
    cases hg
    obtain ⟨a, xs, rfl, h1, h2⟩ := r1.tup
    exact .inr (.inl ⟨a, xs, rfl, h1, q.newT b h2.reverse⟩)

/-! ### built-in functions -/
theorem ro_len : CallR X (.builtin "len") (rDn X.K B lenD) := by
  intro pins s σ H xs us Q I r h
  obtain ⟨Sh, S, σ', ds, rs, b, r1, hg, q⟩ := h
  cases ds with
  | nil => simp [lenD] at hg
  | cons d t =>
    cases t with
    | cons _ _ => cases d <;> simp [lenD] at hg
    | nil =>
      obtain ⟨v, rfl, r2⟩ := RRs.one r1
      cases d <;> (try (simp [lenD] at hg; done))
      · simp only [lenD] at hg
        split at hg
        · rename_i hl
          cases hg
          cases r2.str
          exact call_len_str pins s σ H _ us Q I r ⟨_, rfl, Nat.le_trans hl sizeLN, q.v b (.int _)⟩
        · cases hg
      · simp only [lenD] at hg
        cases hg
        obtain ⟨a, ys, rfl, h1, h2⟩ := r2.lst
        refine call_len_seq pins s σ H _ us Q I r ⟨a, ys, rfl, .inl (.of h1), ?_⟩
        rw [h2.length]
        exact q.v b (.int _)
      · simp only [lenD] at hg
        cases hg
        obtain ⟨a, ys, rfl, h1, h2⟩ := r2.tup
        refine call_len_seq pins s σ H _ us Q I r ⟨a, ys, rfl, .inr h1, ?_⟩
        rw [h2.length]
        exact q.v b (.int _)
theorem ro_int : CallR X (.type "int") (rDn X.K B intD) := by
  intro pins s σ H xs us Q I r h
  obtain ⟨Sh, S, σ', ds, rs, b, r1, hg, q⟩ := h
  cases ds with
  | nil => simp [intD] at hg
  | cons d t =>
    cases t with
    | cons _ _ => cases d <;> simp [intD] at hg
    | nil =>
      obtain ⟨v, rfl, r2⟩ := RRs.one r1
      cases d <;> (try (simp [intD] at hg; done))
      · simp only [intD] at hg
        cases hg
        cases r2.bl
        exact call_int1 pins s σ H _ us Q I r (.inr ⟨_, rfl, q.v b (.int _)⟩)
      · simp only [intD] at hg
        cases hg
        cases r2.int
        exact call_int1 pins s σ H _ us Q I r (.inl ⟨_, rfl, q.v b (.int _)⟩)
theorem ro_abs : CallR X (.builtin "abs") (rDn X.K B absD) := by
  intro pins s σ H xs us Q I r h
  obtain ⟨Sh, S, σ', ds, rs, b, r1, hg, q⟩ := h
  cases ds with
  | nil => simp [absD] at hg
  | cons d t =>
    cases t with
    | cons _ _ => cases d <;> simp [absD] at hg
    | nil =>
      obtain ⟨v, rfl, r2⟩ := RRs.one r1
      cases d <;> (try (simp [absD] at hg; done))
      simp only [absD] at hg
      cases hg
      cases r2.int
      exact call_abs pins s σ H _ us Q I r ⟨_, rfl, q.v b (.int _)⟩
theorem ro_str : CallR X (.type "str") (rDn X.K B strD) := by
  intro pins s σ H xs us Q I r h
  obtain ⟨Sh, S, σ', ds, rs, b, r1, hg, q⟩ := h
  cases ds with
  | nil => simp [strD] at hg
  | cons d t =>
    cases t with
    | cons _ _ => cases d <;> simp [strD] at hg
    | nil =>
      obtain ⟨v, rfl, r2⟩ := RRs.one r1
      cases d <;> (try (simp [strD] at hg; done))
      simp only [strD] at hg
      split at hg
      · rename_i hl
        cases hg
        cases r2.int
        exact call_str_int pins s σ H _ us Q I r ⟨_, rfl, hl, q.v b (.str _)⟩
      · cases hg
theorem ints2 {g : Int → Int → Option Rs} {ds : List D} {rs : Rs} (h : i2 g ds = some rs) : ∃ i j, ds = [.int i, .int j] ∧ g i j = some rs := by
  match ds, h with
  | [.int i, .int j], h => exact ⟨i, j, rfl, h⟩
theorem ro_max2 (hc : X.calm = true) : CallR X (.builtin "max") (rDn X.K B max2D) := by
  intro pins s σ H xs us Q I r h
  obtain ⟨Sh, S, σ', ds, rs, b, r1, hg, q⟩ := h
  obtain ⟨i, j, rfl, e⟩ := ints2 hg
  cases e
  obtain ⟨v, u, rfl, r2, r3⟩ := RRs.two r1
  cases r2.int; cases r3.int
  exact call_max2 hc pins s σ H _ us Q I r ⟨_, _, rfl, q.v b (.int _)⟩
theorem ro_min2 (hc : X.calm = true) : CallR X (.builtin "min") (rDn X.K B min2D) := by
  intro pins s σ H xs us Q I r h
  obtain ⟨Sh, S, σ', ds, rs, b, r1, hg, q⟩ := h
  obtain ⟨i, j, rfl, e⟩ := ints2 hg
  cases e
  obtain ⟨v, u, rfl, r2, r3⟩ := RRs.two r1
  cases r2.int; cases r3.int
  exact call_min2 hc pins s σ H _ us Q I r ⟨_, _, rfl, q.v b (.int _)⟩
theorem foldL_inv {g : List Int → Option Rs} {ds : List D} {rs : Rs} (h : foldL g ds = some rs) : ∃ xs ns, ds = [.lst xs] ∧ intsOf xs = some ns ∧ g ns = some rs := by
  match ds, h with
  | [.lst xs], h =>
    simp only [foldL, Option.bind_eq_some_iff] at h
    obtain ⟨ns, h1, h2⟩ := h
    exact ⟨xs, ns, rfl, h1, h2⟩
theorem ro_sum (hc : X.calm = true) : CallR X (.builtin "sum") (rDn X.K B sumD) := by
  intro pins s σ H xs us Q I r h
  obtain ⟨Sh, S, σ', ds, rs, b, r1, hg, q⟩ := h
  obtain ⟨ys, ns, rfl, e1, e2⟩ := foldL_inv hg
  cases e2
  obtain ⟨v, rfl, r2⟩ := RRs.one r1
  obtain ⟨a, zs, rfl, h1, h2⟩ := r2.lst
  have := h2.ints e1
  subst this
  exact cr_sum hc pins s σ H _ us Q I r ⟨a, ns, rfl, .of h1, q.v b (.int _)⟩
theorem best_max : ∀ (r : List Int) (m : Int), let z := r.foldl (fun m y => if decide (m < y) = true then y else m) m; (z = m ∨ z ∈ r) ∧ m ≤ z ∧ ∀ y ∈ r, y ≤ z
  | [], m => ⟨.inl rfl, Int.le_refl _, fun _ h => nomatch h⟩
  | y :: r, m => by
    simp only [List.foldl_cons]
    obtain ⟨h1, h2, h3⟩ := best_max r (if decide (m < y) = true then y else m)
    by_cases c : m < y
    · simp only [c, decide_true, if_true] at h1 h2 h3 ⊢
      refine ⟨?_, by omega, fun z hz => ?_⟩
      · rcases h1 with h1 | h1
        · exact .inr (by rw [h1]; exact List.mem_cons_self)
        · exact .inr (List.mem_cons_of_mem _ h1)
      · rcases List.mem_cons.mp hz with rfl | hz
        · exact h2
        · exact h3 z hz
    · simp only [c, decide_false, Bool.false_eq_true, if_false] at h1 h2 h3 ⊢
      refine ⟨?_, h2, fun z hz => ?_⟩
      · rcases h1 with h1 | h1
        · exact .inl h1
        · exact .inr (List.mem_cons_of_mem _ h1)
      · rcases List.mem_cons.mp hz with rfl | hz
        · omega
        · exact h3 z hz
theorem best_min : ∀ (r : List Int) (m : Int), let z := r.foldl (fun m y => if decide (y < m) = true then y else m) m; (z = m ∨ z ∈ r) ∧ z ≤ m ∧ ∀ y ∈ r, z ≤ y
  | [], m => ⟨.inl rfl, Int.le_refl _, fun _ h => nomatch h⟩
  | y :: r, m => by
    simp only [List.foldl_cons]
    obtain ⟨h1, h2, h3⟩ := best_min r (if decide (y < m) = true then y else m)
    by_cases c : y < m
    · simp only [c, decide_true, if_true] at h1 h2 h3 ⊢
      refine ⟨?_, by omega, fun z hz => ?_⟩
      · rcases h1 with h1 | h1
        · exact .inr (by rw [h1]; exact List.mem_cons_self)
        · exact .inr (List.mem_cons_of_mem _ h1)
      · rcases List.mem_cons.mp hz with rfl | hz
        · exact h2
        · exact h3 z hz
    · simp only [c, decide_false, Bool.false_eq_true, if_false] at h1 h2 h3 ⊢
      refine ⟨?_, h2, fun z hz => ?_⟩
      · rcases h1 with h1 | h1
        · exact .inl h1
        · exact .inr (List.mem_cons_of_mem _ h1)
      · rcases List.mem_cons.mp hz with rfl | hz
        · omega
        · exact h3 z hz
theorem ro_maxL (hc : X.calm = true) : CallR X (.builtin "max") (rDn X.K B maxD) := by
  intro pins s σ H xs us Q I r h
  obtain ⟨Sh, S, σ', ds, rs, b, r1, hg, q⟩ := h
  obtain ⟨ys, ns, rfl, e1, e2⟩ := foldL_inv hg
  obtain ⟨v, rfl, r2⟩ := RRs.one r1
  obtain ⟨a, zs, rfl, h1, h2⟩ := r2.lst
  have := h2.ints e1
  subst this
  cases ns with
  | nil => simp [best] at e2
  | cons n r' =>
    simp only [best, Option.map_some, Option.some.injEq] at e2
    subst e2
    refine cr_max hc pins s σ H _ us Q I r ⟨a, _, rfl, .of h1, by simp, fun m hm hle => ?_⟩
    obtain ⟨q1, q2, q3⟩ := best_max r' n
    have e : m = r'.foldl (fun m y => if decide (m < y) = true then y else m) n := by
      apply Int.le_antisymm
      · rcases List.mem_cons.mp hm with rfl | hm
        · exact q2
        · exact q3 m hm
      · apply hle
        rcases q1 with q1 | q1
        · rw [q1]; exact List.mem_cons_self
        · exact List.mem_cons_of_mem _ q1
    rw [e]
    exact q.v b (.int _)
theorem ro_minL (hc : X.calm = true) : CallR X (.builtin "min") (rDn X.K B minD) := by
  intro pins s σ H xs us Q I r h
  obtain ⟨Sh, S, σ', ds, rs, b, r1, hg, q⟩ := h
  obtain ⟨ys, ns, rfl, e1, e2⟩ := foldL_inv hg
  obtain ⟨v, rfl, r2⟩ := RRs.one r1
  obtain ⟨a, zs, rfl, h1, h2⟩ := r2.lst
  have := h2.ints e1
  subst this
  cases ns with
  | nil => simp [best] at e2
  | cons n r' =>
    simp only [best, Option.map_some, Option.some.injEq] at e2
    subst e2
    refine cr_min hc pins s σ H _ us Q I r ⟨a, _, rfl, .of h1, by simp, fun m hm hle => ?_⟩
    obtain ⟨q1, q2, q3⟩ := best_min r' n
    have e : m = r'.foldl (fun m y => if decide (y < m) = true then y else m) n := by
      apply Int.le_antisymm
      · apply hle
        rcases q1 with q1 | q1
        · rw [q1]; exact List.mem_cons_self
        · exact List.mem_cons_of_mem _ q1
      · rcases List.mem_cons.mp hm with rfl | hm
        · exact q2
        · exact q3 m hm
    rw [e]
    exact q.v b (.int _)
theorem ro_lst : CallR X (.type "list") (rDn X.K B lstD) := by
  intro pins s σ H xs us Q I r h
  obtain ⟨Sh, S, σ', ds, rs, b, r1, hg, q⟩ := h
  cases ds with
  | nil => simp [lstD] at hg
  | cons d t =>
    cases t with
    | cons _ _ => cases d <;> simp [lstD] at hg
    | nil =>
      obtain ⟨v, rfl, r2⟩ := RRs.one r1
      cases d <;> (try (simp [lstD] at hg; done))
      · simp only [lstD] at hg
        cases hg
        obtain ⟨a, ys, rfl, h1, h2⟩ := r2.lst
        exact call_list_of pins s σ H _ us Q I r ⟨a, ys, rfl, .inl (.of h1), q.newL b h2⟩
      · simp only [lstD] at hg
        cases hg
        obtain ⟨a, ys, rfl, h1, h2⟩ := r2.tup
        exact call_list_of pins s σ H _ us Q I r ⟨a, ys, rfl, .inr h1, q.newL b h2⟩
theorem signs_rel {K : PySem.W.Frag} {Sh : Addr → Prop} {st : Option Addr} {H : Hp} (x : Str) {acc : Array Value} (h : ItemsOf (SignAt x) acc x.cps.size) : Vals (x.cps.toList.map fun c => V.str ⟨#[c]⟩) acc.toList := by
  refine vals_of_at (by rw [List.length_map, Array.length_toList, Array.length_toList, h.1]) fun j v u e1 e2 => ?_
  have e2' : acc[j]? = some u := by rw [← Array.getElem?_toList]; exact e2
  obtain ⟨c, t, e3, rfl⟩ := h.2 j u e2'
  rw [List.getElem?_map, Array.getElem?_toList, e3] at e1
  cases e1
  exact ⟨t, rfl⟩
theorem ro_tup (hc : X.calm = true) : CallR X (.type "tuple") (rDn X.K B tupD) := by
  intro pins s σ H xs us Q I r h
  obtain ⟨Sh, S, σ', ds, rs, b, r1, hg, q⟩ := h
  cases ds with
  | nil => simp [tupD] at hg
  | cons d t =>
    cases t with
    | cons _ _ => cases d <;> simp [tupD] at hg
    | nil =>
      obtain ⟨v, rfl, r2⟩ := RRs.one r1
      cases d <;> (try (simp [tupD] at hg; done))
      · rename_i z
        simp only [tupD] at hg
        split at hg
        · rename_i hl
          cases hg
          cases r2.str
          obtain ⟨u, rfl, ru⟩ := vals1 r
          obtain ⟨tk, rfl⟩ := ru
          refine call_tuple_text (I.ok.hd hc) (Nat.le_trans hl sizeLN) fun s' acc hk hgn ho hacc => ?_
          have hd : DRs X.K Sh B.st H (z.cps.toList.map fun c => V.str ⟨#[c]⟩) (z.cps.toList.map fun c => D.str ⟨#[c]⟩) := by
            generalize z.cps.toList = l
            induction l with
            | nil => exact .nil
            | cons c l ih => exact .cons (.str _) ih
          obtain ⟨hh, g, dd, tt, os⟩ := s'
          obtain rfl : os = s.os := ho
          have bare : AllBare g := by
            have e : g = s.gens := hgn
            rw [e]; exact I.bare
          have I1 : Inv X pins σ H { s with heap := hh, gens := g, drawn := dd, toks := tt } :=
            I.call (g' := g) (d' := dd) (t' := tt) (ch := []) (Un.kept hk) (I.hok.kept hk) bare (fun _ z => nomatch z)
          have hz : (z.cps.toList.map fun c => V.str ⟨#[c]⟩).length ≤ sizeLine := by
            rw [List.length_map, Array.length_toList]
            exact Nat.le_trans hl sizeLN
          have I2 := I1.laid (a := hh.objs.size) (o := .tup (z.cps.toList.map fun c => V.str ⟨#[c]⟩)) (h' := hh.push { cls := .type "tuple", data := .seq acc }) (t' := tt) (fun b o e => Heap.get?_push_of_some _ e) (Nat.le_refl _)
            ⟨hz, acc.toList, signs_rel (K := X.K) (Sh := Sh) (st := B.st) (H := H) z hacc, ⟨_, Heap.get?_push_size _ rfl, rfl, 0, by simp⟩⟩
          exact ⟨.ref hh.objs.size, _, I2, rfl, q.newT b hd _ (I1.hok.fresh (Nat.le_refl _))⟩
        · cases hg
      · simp only [tupD] at hg
        cases hg
        obtain ⟨a, ys, rfl, h1, h2⟩ := r2.lst
        exact call_tuple_of pins s σ H _ us Q I r ⟨a, ys, rfl, .inl ⟨.of h1, q.newT b h2⟩⟩
      · simp only [tupD] at hg
        cases hg
        obtain ⟨a, ys, rfl, h1, h2⟩ := r2.tup
        exact call_tuple_of pins s σ H _ us Q I r ⟨a, ys, rfl, .inr ⟨h1, q.v b (.tup h1 h2)⟩⟩
/-- sep.join(xs) -/
def rDm (K : PySem.W.Frag) (B : Bs) (g : List D → Option Rs) : V → List V → Hp → VK → Prop := fun x xs H Q => rDn K B g (x :: xs) H Q
theorem ro_join : MtR X "str.join" (rDm X.K B joinD) := by
  intro pins s σ H x xs v us Q I rx rxs h
  obtain ⟨Sh, S, σ', ds, rs, b, r1, hg, q⟩ := h
  match ds, hg with
  | [.str a, .lst ys], hg =>
    obtain ⟨v1, v2, e, r2, r3⟩ := RRs.two r1
    cases e
    simp only [joinD, Option.bind_eq_some_iff] at hg
    obtain ⟨ss, e1, e2⟩ := hg
    split at e2
    · rename_i hl
      cases e2
      cases r2.str
      obtain ⟨p, zs, rfl, h1, h2⟩ := r3.lst
      have := h2.strs e1
      subst this
      exact mt_join pins s σ H _ _ v us Q I rx rxs ⟨a, p, ss, rfl, rfl, .inl (.of h1), hl, q.v b (.str _)⟩
    · cases e2
  | [.str a, .tup ys], hg =>
    obtain ⟨v1, v2, e, r2, r3⟩ := RRs.two r1
    cases e
    simp only [joinD, Option.bind_eq_some_iff] at hg
    obtain ⟨ss, e1, e2⟩ := hg
    split at e2
    · rename_i hl
      cases e2
      cases r2.str
      obtain ⟨p, zs, rfl, h1, h2⟩ := r3.tup
      have := h2.strs e1
      subst this
      exact mt_join pins s σ H _ _ v us Q I rx rxs ⟨a, p, ss, rfl, rfl, .inr h1, hl, q.v b (.str _)⟩
    · cases e2
end
end MP
set_option Elab.async false
set_option linter.all false
set_option maxRecDepth 100000
/-! What a run gives, as readings of the layer; the context; the forms of expressions. -/
namespace MP
open PySem PySem.Spec PyProof.Rows L2

theorem peM {X : Cx} {e : Expr} {t t' : TE} (h : PE X e t) (k : ∀ σ H Q, t' σ H Q → t σ H Q) : PE X e t' := ⟨fun pins s σ H Q I q => h.run pins s σ H Q I (k σ H Q q)⟩
theorem ptM {X : Cx} {e : Expr} {t t' : TT} (h : PT X e t) (k : ∀ σ H Q, t' σ H Q → t σ H Q) : PT X e t' := ⟨fun pins s σ H Q I q => h.run pins s σ H Q I (k σ H Q q)⟩
theorem paM {X : Cx} {e : List Expr} {t t' : TA} (h : PA X e t) (k : ∀ σ H Q, t' σ H Q → t σ H Q) : PA X e t' := ⟨fun pos pins s σ H Q I q => h.run pos pins s σ H Q I (k σ H Q q)⟩
theorem psM {X : Cx} {e : Stmt} {t t' : TS} (h : PS X e t) (k : ∀ D σ H, t' D σ H → t D σ H) : PS X e t' := ⟨fun pins s σ H Q I q => h.run pins s σ H Q I (k Q σ H q)⟩
theorem pssM {X : Cx} {e : List Stmt} {t t' : TS} (h : PSs X e t) (k : ∀ D σ H, t' D σ H → t D σ H) : PSs X e t' := ⟨fun pins s σ H Q I q => h.run pins s σ H Q I (k Q σ H q)⟩
theorem piM {X : Cx} {tg e : Expr} {t t' : TI} (h : PI X tg e t) (k : ∀ σ H Q, t' σ H Q → t σ H Q) : PI X tg e t' := ⟨fun pins s σ H Q I q => h.run pins s σ H Q I (k σ H Q q)⟩

/-- what is known of a run's end -/
def RP {α : Type} (K : PySem.W.Frag) (B : Bs) (XC : Nat → Addr) (W : WX) (σ : L2.St) (s : S) (Sh : Addr → Prop) (H : Hp) (r : R α) (P : α → S → (Addr → Prop) → Hp → Prop) : Prop :=
  match r with
  | .ok a s' => ∀ Sh' H', BI K B Sh' s' σ H' → Stp B σ s.env Sh H s'.env Sh' H' → P a s' Sh' H'
  | .exc c s' => ∀ Sh' H', BI K B Sh' s' σ H' → Stp B σ s.env Sh H s'.env Sh' H' → W (.ref (XC c)) none σ H'
  | .stuck => False
section
variable {α β : Type} {K : PySem.W.Frag} {B : Bs} {XC : Nat → Addr} {W : WX} {σ : L2.St} {s : S} {Sh : Addr → Prop} {H : Hp}
theorem RP.imp {r : R α} {P P' : α → S → (Addr → Prop) → Hp → Prop} (h : RP K B XC W σ s Sh H r P)
    (k : ∀ a s' Sh' H', BI K B Sh' s' σ H' → Stp B σ s.env Sh H s'.env Sh' H' → P a s' Sh' H' → P' a s' Sh' H') : RP K B XC W σ s Sh H r P' := by
  cases r with
  | ok a s' => exact fun Sh' H' b x => k a s' Sh' H' b x (h Sh' H' b x)
  | exc c s' => exact h
  | stuck => exact h
theorem RP.bnd {r : R α} {f : α → S → R β} {P : β → S → (Addr → Prop) → Hp → Prop} (h : RP K B XC W σ s Sh H (MP.bnd r f) P) :
    RP K B XC W σ s Sh H r fun a s1 Sh1 H1 => RP K B XC W σ s1 Sh1 H1 (f a s1) P := by
  cases r with
  | ok a s1 =>
    intro Sh1 H1 b1 x1
    have h : RP K B XC W σ s Sh H (f a s1) P := h
    revert h
    generalize f a s1 = q
    intro h
    cases q with
    | ok c s2 => exact fun Sh2 H2 b2 x2 => h Sh2 H2 b2 (b2.tr x1 x2)
    | exc c s2 => exact fun Sh2 H2 b2 x2 => h Sh2 H2 b2 (b2.tr x1 x2)
    | stuck => exact h
  | exc c s' => exact h
  | stuck => exact h
theorem RP.ok {a : α} {P : α → S → (Addr → Prop) → Hp → Prop} (b : BI K B Sh s σ H) (h : RP K B XC W σ s Sh H (.ok a s) P) : P a s Sh H := h Sh H b .refl
end
theorem bnd_assoc {α β γ : Type} (r : R α) (f : α → S → R β) (g : β → S → R γ) : bnd (bnd r f) g = bnd r fun a s => bnd (f a s) g := by
  cases r <;> rfl
theorem bnd_ok {α β : Type} (a : α) (s : S) (f : α → S → R β) : bnd (.ok a s) f = f a s := rfl

/-- what stands behind an expression -/
def PV (K : PySem.W.Frag) (B : Bs) (σ : L2.St) (H : Hp) (Q : VK) : Opd → S → (Addr → Prop) → Hp → Prop := fun o s' Sh' H' => ∀ v, OR K B Sh' s'.env σ H' v o → FreshIn H v o → Q v H'
/-- an expression's run as a reading -/
def tM (K : PySem.W.Frag) (B : Bs) (XC : Nat → Addr) (W : WX) (f : S → R Opd) : TE := fun σ H Q => ∃ Sh s, BI K B Sh s σ H ∧ RP K B XC W σ s Sh H (f s) (PV K B σ H Q)
/-- a test's -/
def tT (K : PySem.W.Frag) (B : Bs) (XC : Nat → Addr) (W : WX) (f : S → R Opd) : TT := fun σ H Q => ∃ Sh s, BI K B Sh s σ H ∧ RP K B XC W σ s Sh H (f s) fun o s' Sh' H' => match o.d with
  | .bl b => Q b H'
  | _ => False
/-- an argument list's -/
def tAs (K : PySem.W.Frag) (B : Bs) (XC : Nat → Addr) (W : WX) (f : S → R (List D)) : TA := fun σ H Q => ∃ Sh s, BI K B Sh s σ H ∧ RP K B XC W σ s Sh H (f s) fun ds s' Sh' H' => ∀ vs, DRs K Sh' B.st H' vs ds → Q vs H'

/-! ### a def's promise -/
def Keeps (st : Option Addr) (H H' : Hp) : Prop := ∀ a o, H a = some o → st ≠ some a → H' a = some o
def ShOK (st : Option Addr) (Sh : Addr → Prop) (H : Hp) : Prop := ∀ a, Sh a → H a ≠ none ∧ st ≠ some a
def spM (K : PySem.W.Frag) (XC : Nat → Addr) (T : Tab) (n f : Nat) : Sp := fun vs H Q E => ∃ Sh st ds w, DRs K Sh st H vs ds ∧ ShOK st Sh H ∧ StOK Sh st H w ∧
  match callF T n f ds w with
  | .ok d w' => ∀ v Sh' H', Keeps st H H' → (∀ a, Sh a → Sh' a) → (∀ a, Sh' a → Sh a ∨ H a = none) → ShOK st Sh' H' → StOK Sh' st H' w' → DR K Sh' st H' v d → Q v H'
  | .exc c w' => ∀ Sh' H', Keeps st H H' → (∀ a, Sh a → Sh' a) → (∀ a, Sh' a → Sh a ∨ H a = none) → ShOK st Sh' H' → StOK Sh' st H' w' → E (.ref (XC c)) none H'
  | .stuck => False

/-! ### the context of a body -/
def bnames : List Str := ["isinstance", "len", "range", "tuple", "int", "list", "zip", "sum", "abs", "str", "enumerate", "max", "min", "dict", "set", "sorted", "repr", "bool", "ValueError"]
def Tab.nameOf (T : Tab) (f : Nat) : Option Str := if f = 0 then some "_law_next" else (T.fn f).map (·.name)
structure GX (T : Tab) (n : Nat) (B : Bs) (XC : Nat → Addr) (W : WX) (X : Cx) (sc : Scope) : Prop where
  scope : X.env.scope = sc
  kind : sc.kind = .function
  nd : X.N.Nodup
  calm : X.calm = true
  tk : Takes X W
  room : Room n X.A
  fns : ∀ f nm, T.nameOf f = some nm → ∃ (a : Addr) (fdt : FuncData) (ps : List Str), X.mg nm = some (.ref a) ∧ PySem.W.keepIn X.K (.ref a) = true ∧ Binds X.K fdt ps [] ∧ FnOk X.prog X.w X.K X.mg X.base (L2.CX X.prog X.w) n a fdt ps (spM X.K XC T n f)
  gls : ∀ g nm d, T.gls.lookup g = some (nm, d) → ∃ (u : Value) (v : V), X.mg nm = some u ∧ RelV v u ∧ ∀ Sh st H, DR X.K Sh st H v d
  bts : ∀ x ∈ bnames, X.mg x = none

/-! ### forms of the text -/
def visB (sc : Scope) (x : Str) : Bool := match sc.names.lookup x with
  | some .local => true
  | some .cell => true
  | some .free => true
  | _ => false
def glB (sc : Scope) (x : Str) : Bool := (match sc.names.lookup x with
  | some .globalImplicit => true
  | _ => false) && !(x == ("__debug__" : Str))
theorem visB_ok {X : Cx} {sc : Scope} {x : Str} (e : X.env.scope = sc) (h : visB sc x = true) : Vis X.env.scope x := by
  unfold visB at h
  rw [e]
  unfold Vis
  split at h
  · exact .inl (by assumption)
  · exact .inr (.inl (by assumption))
  · exact .inr (.inr (by assumption))
  · cases h
theorem glB_ok {X : Cx} {sc : Scope} {x : Str} (e : X.env.scope = sc) (h : glB sc x = true) : Gl X x ∧ (x == ("__debug__" : Str)) = false := by
  unfold glB at h
  rw [Bool.and_eq_true] at h
  obtain ⟨h1, h2⟩ := h
  refine ⟨?_, by simpa using h2⟩
  split at h1
  · show X.env.scope.names.lookup x = _
    rw [e]; assumption
  · cases h1
/-- an expression that may stand as an operand -/
def okE : Expr → Bool
  | .Starred _ _ => false
  | .Set _ _ _ => false
  | .Slice _ _ _ _ => false
  | _ => true
theorem star_cons {e : Expr} {es : List Expr} {env : PySem.Env} (h : okE e = true) : starEach (e :: es) env = (false, eval e env) :: starEach es env := by
  cases e <;> first | rfl | (simp [okE] at h)
theorem star_any : ∀ {es : List Expr} {env : PySem.Env} {pos : Pos}, es.all okE = true → (backTo pos (starEach es env)).any (·.1) = false
  | [], _, _, _ => rfl
  | e :: r, env, pos, h => by
    simp only [List.all_cons, Bool.and_eq_true] at h
    rw [star_cons h.1]
    have ih := star_any (env := env) (pos := pos) h.2
    show (false || (backTo pos (starEach r env)).any (·.1)) = false
    rw [ih]; rfl
theorem mark_ok {op : CmpOp} {b : Expr} (h : okE b = true) : behindInMarks op b = false := by
  cases b <;> first | rfl | (simp [okE] at h)
theorem plainIx_ok {b : Expr} (h : okE b = true) : PlainIx b := by
  intro o i
  cases b <;> first | rfl | (simp [okE] at h)
theorem last_ok {o1 o2 : CmpOp} {b c : Expr} (h : okE c = true) : lastMarks [o1, o2] [b, c] = false := by
  show behindInMarks o2 c = false
  exact mark_ok h

def c1 (sc : Scope) (x : Str) (e : Expr) : Option (List Expr) := match e with
  | .Call (.Name y _) [a] [] _ => if y = x ∧ glB sc x = true ∧ okE a = true then some [a] else none
  | _ => none
def c2 (sc : Scope) (x : Str) (e : Expr) : Option (List Expr) := match e with
  | .Call (.Name y _) [a, b] [] _ => if y = x ∧ glB sc x = true ∧ okE a = true ∧ okE b = true then some [a, b] else none
  | _ => none
def b2 (op : Operator) (e : Expr) : Option (List Expr) := match e with
  | .BinOp a o b _ => if o = op then some [a, b] else none
  | _ => none
def q2 (op : CmpOp) (e : Expr) : Option (List Expr) := match e with
  | .Compare a [o] [b] _ => if o = op ∧ okE b = true then some [a, b] else none
  | _ => none
def isM1 (e : Expr) : Bool := match e with
  | .Slice none none (some (.UnaryOp .USub (.Constant (.int 1) _ _) _)) _ => true
  | _ => false
def mOp (sc : Scope) (o : Op) (e : Expr) : Option (List Expr) := match o with
  | .add => b2 .Add e | .sub => b2 .Sub e | .mul => b2 .Mult e | .fdiv => b2 .FloorDiv e | .mod => b2 .Mod e
  | .pow => b2 .Pow e
  | .neg => (match e with | .UnaryOp .USub a _ => some [a] | _ => none)
  | .eq => q2 .Eq e | .ne => q2 .NotEq e | .lt => q2 .Lt e | .le => q2 .LtE e | .gt => q2 .Gt e | .ge => q2 .GtE e
  | .is => q2 .Is e | .isn => q2 .IsNot e | .mem => q2 .In e | .nmem => q2 .NotIn e
  | .ix => (match e with | .Subscript a b _ => if okE b = true then some [a, b] else none | _ => none)
  | .slice false false => (match e with | .Subscript a (.Slice none none none _) _ => some [a] | _ => none)
  | .slice true false => (match e with | .Subscript a (.Slice (some l) none none _) _ => some [a, l] | _ => none)
  | .slice false true => (match e with | .Subscript a (.Slice none (some u) none _) _ => some [a, u] | _ => none)
  | .slice true true => none
  | .rev => (match e with | .Subscript a b _ => if isM1 b = true then some [a] else none | _ => none)
  | .len => c1 sc "len" e | .int => c1 sc "int" e | .abs => c1 sc "abs" e | .max2 => c2 sc "max" e | .min2 => c2 sc "min" e
  | .maxL => c1 sc "max" e | .minL => c1 sc "min" e | .sum => c1 sc "sum" e | .strI => c1 sc "str" e | .tupL => c1 sc "tuple" e | .lstL => c1 sc "list" e
  | _ => none
end MP
set_option Elab.async false
set_option linter.all false
set_option maxRecDepth 100000
/-! The operators' expressions. -/
namespace MP
open PySem PySem.Spec PyProof.Rows L2

section
variable {T : Tab} {n : Nat} {B : Bs} {XC : Nat → Addr} {W : WX} {X : Cx} {sc : Scope} {cx : Cxt} {σ : L2.St} {s : S} {Sh : Addr → Prop} {H : Hp} {Q : VK}
theorem outR_some (rs : Rs) (s : S) : outR false (some rs) s = .ok (opd rs) s := by cases rs <;> rfl
theorem RP.out {H0 : Hp} {r : Option Rs} (m : ∀ a u, H0 a = some u → B.st ≠ some a → H a = some u) (h : RP X.K B XC W σ s Sh H (outR false r s) (PV X.K B σ H0 Q)) :
    ∃ rs, r = some rs ∧ Hands X.K B Sh s σ H (opd rs) Q := by
  cases r with
  | none => exact h.elim
  | some rs =>
    rw [outR_some] at h
    exact ⟨rs, rfl, fun v Sh' H' b x o f => h Sh' H' b x v o (o.back m f)⟩
abbrev tE (X : Cx) (B : Bs) (XC : Nat → Addr) (W : WX) (f : S → R Opd) : TE := tM X.K B XC W f
def run1 (f : S → R Opd) (g : List D → Option Rs) : S → R Opd := fun s => bnd (f s) fun x s => outR false (g [x.d]) s
def run2 (f f' : S → R Opd) (g : List D → Option Rs) : S → R Opd := fun s => bnd (f s) fun x s => bnd (f' s) fun y s => outR false (g [x.d, y.d]) s
theorem tm1 {f : S → R Opd} {g : List D → Option Rs} {k : V → Hp → VK → Prop} (hk : ∀ Sh s σ H v o rs Q, BI X.K B Sh s σ H → OR X.K B Sh s.env σ H v o → g [o.d] = some rs → Hands X.K B Sh s σ H (opd rs) Q → k v H Q)
    (h : tE X B XC W (run1 f g) σ H Q) : tE X B XC W f σ H fun x H1 => k x H1 Q := by
  obtain ⟨Sh, s, b, h⟩ := h
  refine ⟨Sh, s, b, (RP.bnd h).imp fun o s1 Sh1 H1 b1 x1 h1 v r _ => ?_⟩
  obtain ⟨rs, e, q⟩ := RP.out x1.mem h1
  exact hk _ _ _ _ _ _ _ _ b1 r e q
theorem tm2 {f f' : S → R Opd} {g : List D → Option Rs} {k : V → V → Hp → VK → Prop}
    (hk : ∀ Sh s σ H v v' o o' rs Q, BI X.K B Sh s σ H → OR X.K B Sh s.env σ H v o → OR X.K B Sh s.env σ H v' o' → g [o.d, o'.d] = some rs → Hands X.K B Sh s σ H (opd rs) Q → k v v' H Q)
    (h : tE X B XC W (run2 f f' g) σ H Q) : tE X B XC W f σ H fun x H1 => tE X B XC W f' σ H1 fun y H2 => k x y H2 Q := by
  obtain ⟨Sh, s, b, h⟩ := h
  refine ⟨Sh, s, b, (RP.bnd h).imp fun o s1 Sh1 H1 b1 x1 h1 v r _ => ⟨Sh1, s1, b1, (RP.bnd h1).imp fun o2 s2 Sh2 H2 b2 x2 h2 v2 r2 _ => ?_⟩⟩
  obtain ⟨rs, e, q⟩ := RP.out (fun a u e k => x2.mem a u (x1.mem a u e k) k) h2
  exact hk _ _ _ _ _ _ _ _ _ _ b2 (r.stp b1 x2) r2 e q
theorem pe_bin {f f' : S → R Opd} {g : List D → Option Rs} {op : Operator} {a b : Expr} {pos : Pos} (ho : OpR X (binaryOp op) (rD2 X.K B g)) (ha : PE X a (tE X B XC W f)) (hb : PE X b (tE X B XC W f')) :
    PE X (.BinOp a op b pos) (tE X B XC W (run2 f f' g)) :=
  peM (pe_op ho ha hb) fun _ _ _ h => tm2 (fun Sh s σ H v v' o o' rs Q b r r' e q => ⟨Sh, s, σ, _, _, rs, b, r.rr b, r'.rr b, e, q⟩) h
theorem pe_cmq {f f' : S → R Opd} {g : List D → Option Rs} {op : CmpOp} {a b : Expr} {pos : Pos} (ho : OpR X (compareOp op) (rD2 X.K B g)) (ha : PE X a (tE X B XC W f)) (hb : PE X b (tE X B XC W f')) (hm : behindInMarks op b = false) :
    PE X (.Compare a [op] [b] pos) (tE X B XC W (run2 f f' g)) :=
  peM (pe_cmpR ho ha hb hm) fun _ _ _ h => tm2 (fun Sh s σ H v v' o o' rs Q b r r' e q => ⟨Sh, s, σ, _, _, rs, b, r.rr b, r'.rr b, e, q⟩) h
theorem pe_b1 {f : S → R Opd} {g : List D → Option Rs} {id : String} {x : Str} {a : Expr} {p pos : Pos} (hc : CallR X (.builtin id) (rDn X.K B g)) (hg : Gl X x) (hd : (x == ("__debug__" : Str)) = false) (hm : X.mg x = none) (hv : bootBuiltins x = some (.builtin id)) (hn : x ≠ "__name__") (ok : okE a = true)
    (ha : PE X a (tE X B XC W f)) : PE X (.Call (.Name x p) [a] [] pos) (tE X B XC W (run1 f g)) :=
  peM (pe_callB hc hg hm hv (pa_cons ha pa_nil (star_cons ok)) hn hd (star_cons ok) rfl) fun _ _ _ h =>
    tm1 (k := fun x H Q => rDn X.K B g [x] H Q) (fun Sh s σ H v o rs Q b r e q => ⟨Sh, s, σ, [o.d], rs, b, ⟨r.rr b, trivial⟩, e, q⟩) h
theorem pe_t1 {f : S → R Opd} {g : List D → Option Rs} {id : String} {x : Str} {a : Expr} {p pos : Pos} (hc : CallR X (.type id) (rDn X.K B g)) (hg : Gl X x) (hd : (x == ("__debug__" : Str)) = false) (hm : X.mg x = none) (hv : bootBuiltins x = some (.type id)) (hn : x ≠ "__name__") (ok : okE a = true)
    (ha : PE X a (tE X B XC W f)) : PE X (.Call (.Name x p) [a] [] pos) (tE X B XC W (run1 f g)) :=
  peM (pe_callTy hc hg hm hv (pa_cons ha pa_nil (star_cons ok)) hn hd (star_cons ok) rfl) fun _ _ _ h =>
    tm1 (k := fun x H Q => rDn X.K B g [x] H Q) (fun Sh s σ H v o rs Q b r e q => ⟨Sh, s, σ, [o.d], rs, b, ⟨r.rr b, trivial⟩, e, q⟩) h
theorem pe_b2 {f f' : S → R Opd} {g : List D → Option Rs} {id : String} {x : Str} {a b : Expr} {p pos : Pos} (hc : CallR X (.builtin id) (rDn X.K B g)) (hg : Gl X x) (hd : (x == ("__debug__" : Str)) = false) (hm : X.mg x = none) (hv : bootBuiltins x = some (.builtin id)) (hn : x ≠ "__name__")
    (ok : okE a = true) (ok' : okE b = true) (ha : PE X a (tE X B XC W f)) (hb : PE X b (tE X B XC W f')) : PE X (.Call (.Name x p) [a, b] [] pos) (tE X B XC W (run2 f f' g)) :=
  peM (pe_callB hc hg hm hv (pa_cons ha (pa_cons hb pa_nil (star_cons ok')) (star_cons ok)) hn hd (star_cons ok) (star_any (by simp [ok']))) fun _ _ _ h =>
    tm2 (k := fun x y H Q => rDn X.K B g [x, y] H Q) (fun Sh s σ H v v' o o' rs Q b r r' e q => ⟨Sh, s, σ, [o.d, o'.d], rs, b, ⟨r.rr b, r'.rr b, trivial⟩, e, q⟩) h
theorem evs1 (a : ME) (g : List D → Option Rs) : (fun s => bnd (evs cx [a] s) fun ds s => outR false (g ds) s) = run1 (ev cx false a) g := by
  funext s
  simp only [evs, bnd_assoc, bnd_ok, run1]
theorem evs2 (a b : ME) (g : List D → Option Rs) : (fun s => bnd (evs cx [a, b] s) fun ds s => outR false (g ds) s) = run2 (ev cx false a) (ev cx false b) g := by
  funext s
  simp only [evs, bnd_assoc, bnd_ok, run2]
/-- expressions and their minis -/
inductive PEs (X : Cx) (B : Bs) (XC : Nat → Addr) (W : WX) (cx : Cxt) : List Expr → List ME → Prop
  | nil : PEs X B XC W cx [] []
  | cons {e : Expr} {es : List Expr} {m : ME} {ms : List ME} : PE X e (tE X B XC W (ev cx false m)) → PEs X B XC W cx es ms → PEs X B XC W cx (e :: es) (m :: ms)
theorem PEs.one {a : Expr} {ms : List ME} (h : PEs X B XC W cx [a] ms) : ∃ m, ms = [m] ∧ PE X a (tE X B XC W (ev cx false m)) := by
  cases h with
  | cons h t => cases t; exact ⟨_, rfl, h⟩
theorem PEs.two {a b : Expr} {ms : List ME} (h : PEs X B XC W cx [a, b] ms) : ∃ m m', ms = [m, m'] ∧ PE X a (tE X B XC W (ev cx false m)) ∧ PE X b (tE X B XC W (ev cx false m')) := by
  cases h with
  | cons h t =>
    obtain ⟨m', e, h'⟩ := t.one
    subst e
    exact ⟨_, _, rfl, h, h'⟩
theorem PEs.three {a b c : Expr} {ms : List ME} (h : PEs X B XC W cx [a, b, c] ms) : ∃ m m' m'', ms = [m, m', m''] ∧ PE X a (tE X B XC W (ev cx false m)) ∧ PE X b (tE X B XC W (ev cx false m')) ∧ PE X c (tE X B XC W (ev cx false m'')) := by
  cases h with
  | cons h t =>
    obtain ⟨m', m'', e, h', h''⟩ := t.two
    subst e
    exact ⟨_, _, _, rfl, h, h', h''⟩
abbrev runO (cx : Cxt) (ms : List ME) (o : Op) : S → R Opd := fun s => bnd (evs cx ms s) fun ds s => outR false (opD o ds) s
theorem inv_b2 {op : Operator} {e : Expr} {as : List Expr} (h : b2 op e = some as) : ∃ a b pos, e = .BinOp a op b pos ∧ as = [a, b] := by
  unfold b2 at h
  split at h
  · split at h
    · rename_i e1
      subst e1
      cases h
      exact ⟨_, _, _, rfl, rfl⟩
    · cases h
  · cases h
theorem inv_q2 {op : CmpOp} {e : Expr} {as : List Expr} (h : q2 op e = some as) : ∃ a b pos, e = .Compare a [op] [b] pos ∧ as = [a, b] ∧ okE b = true := by
  unfold q2 at h
  split at h
  · split at h
    · rename_i e1
      obtain ⟨rfl, k⟩ := e1
      cases h
      exact ⟨_, _, _, rfl, rfl, k⟩
    · cases h
  · cases h
theorem inv_c1 {x : Str} {e : Expr} {as : List Expr} (h : c1 sc x e = some as) : ∃ a p pos, e = .Call (.Name x p) [a] [] pos ∧ as = [a] ∧ glB sc x = true ∧ okE a = true := by
  unfold c1 at h
  split at h
  · split at h
    · rename_i e1
      obtain ⟨rfl, k, k'⟩ := e1
      cases h
      exact ⟨_, _, _, rfl, rfl, k, k'⟩
    · cases h
  · cases h
theorem inv_c2 {x : Str} {e : Expr} {as : List Expr} (h : c2 sc x e = some as) : ∃ a b p pos, e = .Call (.Name x p) [a, b] [] pos ∧ as = [a, b] ∧ glB sc x = true ∧ okE a = true ∧ okE b = true := by
  unfold c2 at h
  split at h
  · split at h
    · rename_i e1
      obtain ⟨rfl, k, k', k''⟩ := e1
      cases h
      exact ⟨_, _, _, _, rfl, rfl, k, k', k''⟩
    · cases h
  · cases h
theorem po_b {g : GX T n B XC W X sc} {op : Operator} {o : Op} {e : Expr} {as : List Expr} {ms : List ME} (h : b2 op e = some as) (P : PEs X B XC W cx as ms) (ho : OpR X (binaryOp op) (rD2 X.K B (opD o))) : PE X e (tE X B XC W (runO cx ms o)) := by
  obtain ⟨a, b, pos, rfl, rfl⟩ := inv_b2 h
  obtain ⟨m, m', rfl, h1, h2⟩ := P.two
  unfold runO
  rw [evs2]
  exact pe_bin ho h1 h2
theorem po_q {op : CmpOp} {o : Op} {e : Expr} {as : List Expr} {ms : List ME} (h : q2 op e = some as) (P : PEs X B XC W cx as ms) (ho : OpR X (compareOp op) (rD2 X.K B (opD o))) : PE X e (tE X B XC W (runO cx ms o)) := by
  obtain ⟨a, b, pos, rfl, rfl, k⟩ := inv_q2 h
  obtain ⟨m, m', rfl, h1, h2⟩ := P.two
  unfold runO
  rw [evs2]
  exact pe_cmq ho h1 h2 (mark_ok k)
theorem po_c1 (g : GX T n B XC W X sc) {id : String} {x : Str} {o : Op} {e : Expr} {as : List Expr} {ms : List ME} (h : c1 sc x e = some as) (P : PEs X B XC W cx as ms) (hc : CallR X (.builtin id) (rDn X.K B (opD o)))
    (hx : x ∈ bnames) (hv : bootBuiltins x = some (.builtin id)) (hn : x ≠ "__name__") : PE X e (tE X B XC W (runO cx ms o)) := by
  obtain ⟨a, p, pos, rfl, rfl, k, k'⟩ := inv_c1 h
  obtain ⟨m, rfl, h1⟩ := P.one
  unfold runO
  rw [evs1]
  obtain ⟨q1, q2⟩ := glB_ok g.scope k
  exact pe_b1 hc q1 q2 (g.bts x hx) hv hn k' h1
theorem po_t1 (g : GX T n B XC W X sc) {id : String} {x : Str} {o : Op} {e : Expr} {as : List Expr} {ms : List ME} (h : c1 sc x e = some as) (P : PEs X B XC W cx as ms) (hc : CallR X (.type id) (rDn X.K B (opD o)))
    (hx : x ∈ bnames) (hv : bootBuiltins x = some (.type id)) (hn : x ≠ "__name__") : PE X e (tE X B XC W (runO cx ms o)) := by
  obtain ⟨a, p, pos, rfl, rfl, k, k'⟩ := inv_c1 h
  obtain ⟨m, rfl, h1⟩ := P.one
  unfold runO
  rw [evs1]
  obtain ⟨q1, q2⟩ := glB_ok g.scope k
  exact pe_t1 hc q1 q2 (g.bts x hx) hv hn k' h1
theorem po_c2 (g : GX T n B XC W X sc) {id : String} {x : Str} {o : Op} {e : Expr} {as : List Expr} {ms : List ME} (h : c2 sc x e = some as) (P : PEs X B XC W cx as ms) (hc : CallR X (.builtin id) (rDn X.K B (opD o)))
    (hx : x ∈ bnames) (hv : bootBuiltins x = some (.builtin id)) (hn : x ≠ "__name__") : PE X e (tE X B XC W (runO cx ms o)) := by
  obtain ⟨a, b, p, pos, rfl, rfl, k, k', k''⟩ := inv_c2 h
  obtain ⟨m, m', rfl, h1, h2⟩ := P.two
  unfold runO
  rw [evs2]
  obtain ⟨q1, q2⟩ := glB_ok g.scope k
  exact pe_b2 hc q1 q2 (g.bts x hx) hv hn k' k'' h1 h2
theorem intOf_po {f : S → R Opd} {e : Expr} (h : PE X e (tE X B XC W f)) : PO X (some e) (tPart (tE X B XC W f)) := po_some h
theorem RR_int {K : PySem.W.Frag} {Sh : Addr → Prop} {st : Option Addr} {H : Hp} {v : V} {d : D} {i : Int} (h : RR K Sh st H v d) (e : d = .int i) : v = V.int i := by subst e; exact h.int
theorem sl_inv {a b : Bool} {d : D} {ds : List D} {rs : Rs} (h : sliceD a b (d :: ds) = some rs) : ∃ lo hi : Option Int, ds = lo.toList.map D.int ++ hi.toList.map D.int ∧ lo.isSome = a ∧ hi.isSome = b ∧ cutD d lo hi = some rs := by
  cases a <;> cases b
  · match ds, h with
    | [], h => exact ⟨none, none, rfl, rfl, rfl, h⟩
  · match ds, h with
    | [.int j], h => exact ⟨none, some j, rfl, rfl, rfl, h⟩
  · match ds, h with
    | [.int i], h => exact ⟨some i, none, rfl, rfl, rfl, h⟩
  · simp [sliceD] at h
theorem pe_neg {f : S → R Opd} {a : Expr} {pos : Pos} (h1 : PE X a (tE X B XC W f)) : PE X (.UnaryOp .USub a pos) (tE X B XC W (run1 f negD)) :=
  peM (pe_un (ro_neg (B := B)) h1) fun _ _ _ h => tm1 (k := fun x H Q => rD1 X.K B negD x H Q) (fun Sh s σ H v o rs Q b r e q => ⟨Sh, s, σ, _, rs, b, r.rr b, e, q⟩) h
theorem pe_ixD {f f' : S → R Opd} {a b : Expr} {pos : Pos} (k : okE b = true) (h1 : PE X a (tE X B XC W f)) (h2 : PE X b (tE X B XC W f')) : PE X (.Subscript a b pos) (tE X B XC W (run2 f f' ixD)) :=
  peM (pe_ix (ro_ix (B := B)) h1 h2 (plainIx_ok k)) fun _ _ _ h => tm2 (fun Sh s σ H v v' o o' rs Q b r r' e q => ⟨Sh, s, σ, _, _, rs, b, r.rr b, r'.rr b, e, q⟩) h
theorem pe_sl0 {f : S → R Opd} {a : Expr} {p pos : Pos} (h1 : PE X a (tE X B XC W f)) : PE X (.Subscript a (.Slice none none none p) pos) (tE X B XC W (run1 f (sliceD false false))) :=
  peM (pe_slice (ro_slice (B := B)) h1 po_none po_none) fun σ H Q h =>
    tm1 (k := fun x H Q => rSlD X.K B x none none H Q) (fun Sh s σ H v o rs Q b r e q => ⟨Sh, s, σ, _, rs, b, r.rr b, e, q⟩) h
theorem pe_slL {f f' : S → R Opd} {a c : Expr} {p pos : Pos} (h1 : PE X a (tE X B XC W f)) (h2 : PE X c (tE X B XC W f')) : PE X (.Subscript a (.Slice (some c) none none p) pos) (tE X B XC W (run2 f f' (sliceD true false))) :=
  peM (pe_slice (ro_slice (B := B)) h1 (po_some h2) po_none) fun σ H Q h => by
    refine tm2 (k := fun x y H Q => ∃ i, y = .int i ∧ rSlD X.K B x (some i) none H Q) (fun Sh s σ H v v' o o' rs Q b r r' e q => ?_) h
    obtain ⟨l, u, e1, e2, e3, e4⟩ := sl_inv e
    cases l with
    | none => cases e2
    | some i => cases u with
      | some _ => cases e3
      | none =>
        have := RR_int (r'.rr b) (by simpa using e1)
        exact ⟨i, this, Sh, s, σ, _, rs, b, r.rr b, e4, q⟩
theorem pe_slU {f f' : S → R Opd} {a c : Expr} {p pos : Pos} (h1 : PE X a (tE X B XC W f)) (h2 : PE X c (tE X B XC W f')) : PE X (.Subscript a (.Slice none (some c) none p) pos) (tE X B XC W (run2 f f' (sliceD false true))) :=
  peM (pe_slice (ro_slice (B := B)) h1 po_none (po_some h2)) fun σ H Q h => by
    refine tm2 (k := fun x y H Q => ∃ i, y = .int i ∧ rSlD X.K B x none (some i) H Q) (fun Sh s σ H v v' o o' rs Q b r r' e q => ?_) h
    obtain ⟨l, u, e1, e2, e3, e4⟩ := sl_inv e
    cases l with
    | some _ => cases e2
    | none => cases u with
      | none => cases e3
      | some i =>
        have := RR_int (r'.rr b) (by simpa using e1)
        exact ⟨i, this, Sh, s, σ, _, rs, b, r.rr b, e4, q⟩
def run3 (f f' f'' : S → R Opd) : S → R Opd := fun s => bnd (f s) fun x s => bnd (f' s) fun y s => match y.d with
    | .int i => bnd (f'' s) fun z s => (match z.d with
      | .int j => outR false (cutD x.d (some i) (some j)) s
      | _ => .stuck)
    | _ => .stuck
theorem pe_slLU {f f' f'' : S → R Opd} {a c d : Expr} {p pos : Pos} (h1 : PE X a (tE X B XC W f)) (h2 : PE X c (tE X B XC W f')) (h3 : PE X d (tE X B XC W f'')) :
    PE X (.Subscript a (.Slice (some c) (some d) none p) pos) (tE X B XC W (run3 f f' f'')) :=
  peM (pe_slice (ro_slice (B := B)) h1 (po_some h2) (po_some h3)) fun σ H Q h => by
    obtain ⟨Sh, s, b, h⟩ := h
    refine ⟨Sh, s, b, (RP.bnd h).imp fun o s1 Sh1 H1 b1 x1 h1 v r _ => ⟨Sh1, s1, b1, (RP.bnd h1).imp fun o2 s2 Sh2 H2 b2 x2 h2 v2 r2 _ => ?_⟩⟩
    cases q : o2.d <;> rw [q] at h2 <;> dsimp only at h2 <;> (try exact h2.elim)
    rename_i i
    refine ⟨i, RR_int (r2.rr b2) q, Sh2, s2, b2, (RP.bnd h2).imp fun o3 s3 Sh3 H3 b3 x3 h3 v3 r3 _ => ?_⟩
    cases q' : o3.d <;> rw [q'] at h3 <;> dsimp only at h3 <;> (try exact h3.elim)
    rename_i j
    obtain ⟨rs, e, hq⟩ := RP.out (fun a u e k => x3.mem a u (x2.mem a u (x1.mem a u e k) k) k) h3
    exact ⟨j, RR_int (r3.rr b3) q', Sh3, s3, σ, _, rs, b3, ((r.stp b1 x2).stp b2 x3).rr b3, e, hq⟩
theorem tE_mono {f : S → R Opd} {Q Q' : VK} (k : ∀ v H, Q v H → Q' v H) (h : tE X B XC W f σ H Q) : tE X B XC W f σ H Q' := by
  obtain ⟨Sh, s, b, h⟩ := h
  exact ⟨Sh, s, b, h.imp fun o s1 Sh1 H1 b1 x1 h1 v r f => k _ _ (h1 v r f)⟩
theorem pe_rev {f : S → R Opd} {a b : Expr} {pos : Pos} (hb : isM1 b = true) (h1 : PE X a (tE X B XC W f)) : PE X (.Subscript a b pos) (tE X B XC W (run1 f revD)) := by
  unfold isM1 at hb
  split at hb
  · refine peM (pe_revA h1) fun σ H Q h => ?_
    exact rd_rev (tm1 (k := fun x H Q => rD1 X.K B revD x H Q) (fun Sh s σ H v o rs Q b r e q => ⟨Sh, s, σ, _, rs, b, r.rr b, e, q⟩) h) fun k h => tE_mono k h
  · cases hb
theorem pe_joinD {f' : S → R Opd} {c : Str} {k : Nat} {p apos pos : Pos} {b : Expr} (ok : okE b = true) (hl : (apos.endLine == pos.line) = true) (h1 : PE X b (tE X B XC W f')) :
    PE X (.Call (.Attribute (.Constant (.str c) k p) "join" apos) [b] [] pos) (tE X B XC W fun s => bnd (f' s) fun x s => outR false (joinD [.str c, x.d]) s) := by
  refine peM (pe_m1 PySem.F.slot_str_join PySem.F.type_str_join (ro_join (B := B)) pe_str h1 (star_cons ok) rfl hl) fun σ H Q h => ?_
  obtain ⟨Sh, s, b, h⟩ := h
  refine ⟨⟨c, rfl⟩, Sh, s, b, (RP.bnd h).imp fun o s1 Sh1 H1 b1 x1 h1 v r _ => ?_⟩
  obtain ⟨rs, e, hq⟩ := RP.out x1.mem h1
  exact ⟨Sh1, s1, σ, [.str c, o.d], rs, b1, ⟨.inl (.str c), r.rr b1, trivial⟩, e, hq⟩
/-- the pure operators -/
theorem pe_ops (g : GX T n B XC W X sc) {o : Op} {e : Expr} {as : List Expr} {ms : List ME} (h : mOp sc o e = some as) (P : PEs X B XC W cx as ms) : PE X e (tE X B XC W (runO cx ms o)) := by
  have hu64 : X.A.units + 64 < cLine := g.room.units
  have hu65 : X.A.units + 65 < cLine := by have := g.room.un; omega
  cases o with
  | add => exact po_b (g := g) h P ro_add
  | sub => exact po_b (g := g) h P ro_sub
  | mul => exact po_b (g := g) h P ro_mul
  | fdiv => exact po_b (g := g) h P ro_fdiv
  | mod => exact po_b (g := g) h P ro_mod
  | pow => exact po_b (g := g) h P ro_pow
  | neg =>
    unfold mOp at h
    dsimp only at h
    split at h
    · cases h
      obtain ⟨m, rfl, h1⟩ := P.one
      unfold runO
      rw [evs1]
      exact pe_neg h1
    · cases h
  | eq => exact po_q h P (ro_eq hu64)
  | ne => exact po_q h P (ro_ne hu64)
  | lt => exact po_q h P (ro_cmp op_lt)
  | le => exact po_q h P (ro_cmp op_le)
  | gt => exact po_q h P (ro_cmp op_gt)
  | ge => exact po_q h P (ro_cmp op_ge)
  | is => exact po_q h P ro_is
  | isn => exact po_q h P ro_isn
  | mem => exact po_q h P (ro_mem hu65)
  | nmem => exact po_q h P (ro_nmem hu65)
  | ix =>
    unfold mOp at h
    dsimp only at h
    split at h
    · split at h
      · rename_i k
        cases h
        obtain ⟨m, m', rfl, h1, h2⟩ := P.two
        unfold runO
        rw [evs2]
        exact pe_ixD k h1 h2
      · cases h
    · cases h
  | slice lo hi =>
    unfold mOp at h
    cases lo <;> cases hi <;> dsimp only at h
    · split at h
      · cases h
        obtain ⟨m, rfl, h1⟩ := P.one
        unfold runO
        rw [evs1]
        exact pe_sl0 h1
      · cases h
    · split at h
      · cases h
        obtain ⟨m, m', rfl, h1, h2⟩ := P.two
        unfold runO
        rw [evs2]
        exact pe_slU h1 h2
      · cases h
    · split at h
      · cases h
        obtain ⟨m, m', rfl, h1, h2⟩ := P.two
        unfold runO
        rw [evs2]
        exact pe_slL h1 h2
      · cases h
    · cases h
  | rev =>
    unfold mOp at h
    dsimp only at h
    split at h
    · split at h
      · rename_i k
        cases h
        obtain ⟨m, rfl, h1⟩ := P.one
        unfold runO
        rw [evs1]
        exact pe_rev k h1
      · cases h
    · cases h
  | len => exact po_c1 g h P ro_len (by decide) PySem.boot_len (by decide)
  | int => exact po_t1 g h P ro_int (by decide) (by decide +kernel) (by decide)
  | abs => exact po_c1 g h P ro_abs (by decide) (by decide +kernel) (by decide)
  | max2 => exact po_c2 g h P (ro_max2 g.calm) (by decide) (by decide +kernel) (by decide)
  | min2 => exact po_c2 g h P (ro_min2 g.calm) (by decide) (by decide +kernel) (by decide)
  | maxL => exact po_c1 g h P (ro_maxL g.calm) (by decide) (by decide +kernel) (by decide)
  | minL => exact po_c1 g h P (ro_minL g.calm) (by decide) (by decide +kernel) (by decide)
  | sum => exact po_c1 g h P (ro_sum g.calm) (by decide) (by decide +kernel) (by decide)
  | strI => exact po_t1 g h P ro_str (by decide) (by decide +kernel) (by decide)
  | tupL => exact po_t1 g h P (ro_tup g.calm) (by decide) (by decide +kernel) (by decide)
  | lstL => exact po_t1 g h P ro_lst (by decide) (by decide +kernel) (by decide)
  | join => cases h
  | repEq => cases h
  | get => cases h
end
end MP
set_option Elab.async false
set_option linter.all false
set_option maxRecDepth 100000
/-! Targets and what is walked. -/
namespace MP
open PySem PySem.Spec PyProof.Rows L2

section
variable {K : PySem.W.Frag} {B : Bs} {Sh : Addr → Prop} {s : S} {σ : L2.St} {H : Hp}
/-- a slot takes a value -/
theorem BI.setVar {i : Nat} {v : V} {d : D} (b : BI K B Sh s σ H) (hi : i < s.env.length) (r : DR K Sh B.st H v d) : BI K B Sh { s with env := s.env.set i (some (d, false)) } (σ.set i (some v)) H := by
  have hσ : i < σ.length := by rw [← b.len]; exact hi
  refine ⟨b.keep, b.sh0, b.shN, b.shL, b.stk, by simp [b.len], fun j d' e => ?_, fun j d' e => ?_, fun j k dj dk c e1 e2 e3 e4 => ?_⟩
  · by_cases hj : i = j
    · subst hj
      rw [List.getElem?_set_self hi] at e
      cases e
      exact ⟨v, by rw [List.getElem?_set_self hσ], r⟩
    · rw [List.getElem?_set_ne hj] at e
      obtain ⟨u, h1, h2⟩ := b.var j d' e
      exact ⟨u, by rw [List.getElem?_set_ne hj]; exact h1, h2⟩
  · have hj : i ≠ j := fun q => by
      subst q
      rw [List.getElem?_set_self hi] at e
      cases e
    rw [List.getElem?_set_ne hj] at e
    obtain ⟨a, h1, h2⟩ := b.own j d' e
    exact ⟨a, by rw [List.getElem?_set_ne hj]; exact h1, h2⟩
  · have hj : i ≠ j := fun q => by
      subst q
      rw [List.getElem?_set_self hi] at e1
      cases e1
    have hk : i ≠ k := fun q => by
      subst q
      rw [List.getElem?_set_self hi] at e2
      cases e2
    rw [List.getElem?_set_ne hj] at e1 e3
    rw [List.getElem?_set_ne hk] at e2 e4
    exact b.inj j k dj dk c e1 e2 e3 e4
end

/-! ### targets -/
mutual
def slotsT : MT → List Nat
  | .nm i => [i]
  | .tp ts => slotsTs ts
  | .tl ts => slotsTs ts
def slotsTs : List MT → List Nat
  | [] => []
  | t :: ts => slotsT t ++ slotsTs ts
end
def locB (sc : Scope) (fn : Str → Bool) (x : Str) : Bool := match sc.names.lookup x with
  | some .local => true
  | some .cell => fn x
  | _ => false
mutual
def mT (N : List Str) (sc : Scope) (fn : Str → Bool) : MT → Expr → Bool
  | .nm i, e => match e with
    | .Name x _ => decide (N[i]? = some x) && locB sc fn x
    | _ => false
  | .tp ts, e => match e with
    | .Tuple es _ _ => mTs N sc fn ts es
    | _ => false
  | .tl ts, e => match e with
    | .Tuple es _ _ => mTs N sc fn ts es
    | _ => false
def mTs (N : List Str) (sc : Scope) (fn : Str → Bool) : List MT → List Expr → Bool
  | [], es => es.isEmpty
  | t :: ts, es => match es with
    | [] => false
    | e :: r => mT N sc fn t e && mTs N sc fn ts r
end
/-- σ and σ' part at most at vs -/
def Off (vs : List Nat) (σ σ' : L2.St) : Prop := σ'.length = σ.length ∧ ∀ i, i ∉ vs → σ'[i]? = σ[i]?
theorem Off.refl {vs : List Nat} {σ : L2.St} : Off vs σ σ := ⟨rfl, fun _ _ => rfl⟩
theorem Off.trans {vs : List Nat} {a b c : L2.St} (x : Off vs a b) (y : Off vs b c) : Off vs a c := ⟨y.1.trans x.1, fun i h => (y.2 i h).trans (x.2 i h)⟩
theorem Off.mono {vs ws : List Nat} {a b : L2.St} (x : Off vs a b) (h : ∀ i ∈ vs, i ∈ ws) : Off ws a b := ⟨x.1, fun i k => x.2 i fun q => k (h i q)⟩
theorem Off.set {vs : List Nat} {σ : L2.St} {i : Nat} {v : Option V} (h : i ∈ vs) : Off vs σ (σ.set i v) := ⟨by simp, fun j k => by
  rw [List.getElem?_set_ne]
  rintro rfl
  exact k h⟩
theorem wipe_len (σ : L2.St) (vs : List Nat) : (wipe σ vs).length = σ.length := wipe_length σ vs
theorem wipe_in {σ : L2.St} {i : Nat} : ∀ {vs : List Nat}, i ∈ vs → i < σ.length → (wipe σ vs)[i]? = some none
  | v :: vs, h, hl => by
    unfold wipe
    by_cases hv : v = i
    · subst hv
      rw [List.getElem?_set_self (by rw [wipe_length]; exact hl)]
    · rw [List.getElem?_set_ne hv]
      rcases List.mem_cons.mp h with e | h
      · exact absurd e.symm hv
      · exact wipe_in h hl
theorem Off.wipe {vs : List Nat} {σ σ' : L2.St} (h : Off vs σ σ') : wipe σ' vs = wipe σ vs := by
  apply List.ext_getElem?
  intro i
  by_cases hi : i ∈ vs
  · by_cases hl : i < σ.length
    · rw [wipe_in hi hl, wipe_in hi (by rw [h.1]; exact hl)]
    · rw [List.getElem?_eq_none (by rw [wipe_length, h.1]; omega), List.getElem?_eq_none (by rw [wipe_length]; omega)]
  · rw [wipe_out hi, wipe_out hi]
    exact h.2 i hi
/-- a target's reading -/
def gM (K : PySem.W.Frag) (B : Bs) (t : MT) : TG := fun v σ H Q => ∃ Sh s d env', BI K B Sh s σ H ∧ DR K Sh B.st H v d ∧ asgT t d s.env = some env' ∧ ∀ σ', BI K B Sh { s with env := env' } σ' H → Off (slotsT t) σ σ' → Q σ' H
def gMs (K : PySem.W.Frag) (B : Bs) (t : List MT) : TGs := fun vs σ H Q => ∃ Sh s ds env', BI K B Sh s σ H ∧ DRs K Sh B.st H vs ds ∧ asgTs t ds s.env = some env' ∧ ∀ σ', BI K B Sh { s with env := env' } σ' H → Off (slotsTs t) σ σ' → Q σ' H
theorem pgM {X : Cx} {e : Expr} {t t' : TG} (h : PG X e t) (k : ∀ v σ H Q, t' v σ H Q → t v σ H Q) : PG X e t' := ⟨fun pins s σ H v u Q I r q => h.run pins s σ H v u Q I r (k v σ H Q q)⟩
theorem pgsM {X : Cx} {e : List Expr} {t t' : TGs} (h : PGs X e t) (k : ∀ v σ H Q, t' v σ H Q → t v σ H Q) : PGs X e t' := ⟨fun pins s σ H v u Q I r q => h.run pins s σ H v u Q I r (k v σ H Q q)⟩
theorem asgTs_len : ∀ (ts : List MT) (ds : List D) (env env' : MP.Env), asgTs ts ds env = some env' → ts.length = ds.length
  | [], [], _, _, _ => rfl
  | [], _ :: _, _, _, h => by simp [asgTs] at h
  | _ :: _, [], _, _, h => by simp [asgTs] at h
  | t :: ts, d :: ds, env, env', h => by
    simp only [asgTs, Option.bind_eq_some_iff] at h
    obtain ⟨e1, _, h2⟩ := h
    simp [asgTs_len ts ds e1 env' h2]
theorem mTs_len {N : List Str} {sc : Scope} {fn : Str → Bool} : ∀ (ts : List MT) (es : List Expr), mTs N sc fn ts es = true → es.length = ts.length
  | [], es, h => by
    simp only [mTs, List.isEmpty_iff] at h
    subst h; rfl
  | t :: ts, [], h => by simp [mTs] at h
  | t :: ts, e :: es, h => by
    simp only [mTs, Bool.and_eq_true] at h
    simp [mTs_len ts es h.2]
theorem mT_notStar {N : List Str} {sc : Scope} {fn : Str → Bool} : ∀ (t : MT) (e : Expr), mT N sc fn t e = true → ∀ a p, e ≠ .Starred a p := by
  intro t e h a p q
  subst q
  cases t <;> simp [mT] at h
theorem each_cons {t e : Expr} {es : List Expr} {env : PySem.Env} (h : ∀ a p, e ≠ .Starred a p) : assignEach (e :: es) env = (false, assign e env) :: assignEach es env := by
  cases e <;> first | rfl | exact absurd rfl (h _ _)
theorem each_len {N : List Str} {sc : Scope} {fn : Str → Bool} {env : PySem.Env} : ∀ (ts : List MT) (es : List Expr), mTs N sc fn ts es = true → (assignEach es env).length = es.length ∧ (assignEach es env).findIdx? (·.1) = none
  | [], es, h => by
    simp only [mTs, List.isEmpty_iff] at h
    subst h; exact ⟨rfl, rfl⟩
  | t :: ts, [], h => by simp [mTs] at h
  | t :: ts, e :: es, h => by
    simp only [mTs, Bool.and_eq_true] at h
    rw [each_cons (t := e) (mT_notStar t e h.1)]
    obtain ⟨h1, h2⟩ := each_len (env := env) ts es h.2
    refine ⟨by simp [h1], ?_⟩
    rw [List.findIdx?_cons]
    simp [h2]
mutual
theorem pg_all {X : Cx} {B : Bs} {sc : Scope} (hs : X.env.scope = sc) (hN : X.N.Nodup) (hc : X.calm = true) : ∀ (t : MT) (e : Expr), mT X.N sc X.fn t e = true → PG X e (gM X.K B t)
  | .nm i, e, h => by
    unfold mT at h
    split at h
    · rename_i x p
      rw [Bool.and_eq_true] at h
      obtain ⟨h1, h2⟩ := h
      have h1 := of_decide_eq_true h1
      have hl : Loc X.env.scope x ∧ (X.fn x = true ∨ X.env.scope.names.lookup x = some .local) := by
        rw [hs]
        unfold locB at h2
        split at h2
        · exact ⟨.inl (by assumption), .inr (by assumption)⟩
        · exact ⟨.inr (by assumption), .inl h2⟩
        · cases h2
      refine pgM (pg_name hN h1 hl.1 hl.2) fun v σ H Q q => ?_
      obtain ⟨Sh, s, d, env', b, r, e, q⟩ := q
      simp only [asgT] at e
      split at e
      · rename_i hi
        cases e
        exact q _ (b.setVar hi r) (Off.set (by simp [slotsT]))
      · cases e
    · cases h
  | .tp ts, e, h => by
    unfold mT at h
    split at h
    · rename_i es k p
      obtain ⟨q1, q2⟩ := each_len (env := X.env) ts es h
      refine pgM (pg_tup hc (pgs_all (B := B) hs hN hc ts es h) q1 q2) fun v σ H Q q => ?_
      obtain ⟨Sh, s, d, env', b, r, e, q⟩ := q
      simp only [asgT] at e
      split at e
      · rename_i ds
        cases r with
        | tup r1 r2 =>
          refine ⟨_, _, rfl, r1, ?_, Sh, s, ds, env', b, r2, e, q⟩
          rw [r2.length, ← asgTs_len _ _ _ _ e, mTs_len ts es h]
      · cases e
    · cases h
  | .tl ts, e, h => by
    unfold mT at h
    split at h
    · rename_i es k p
      obtain ⟨q1, q2⟩ := each_len (env := X.env) ts es h
      refine pgM (pg_lst hc (pgs_all (B := B) hs hN hc ts es h) q1 q2) fun v σ H Q q => ?_
      obtain ⟨Sh, s, d, env', b, r, e, q⟩ := q
      simp only [asgT] at e
      split at e
      · rename_i ds
        cases r with
        | lst r0 r1 r2 =>
          refine ⟨_, _, rfl, .of r1, ?_, Sh, s, ds, env', b, r2, e, q⟩
          rw [r2.length, ← asgTs_len _ _ _ _ e, mTs_len ts es h]
      · cases e
    · cases h
theorem pgs_all {X : Cx} {B : Bs} {sc : Scope} (hs : X.env.scope = sc) (hN : X.N.Nodup) (hc : X.calm = true) : ∀ (ts : List MT) (es : List Expr), mTs X.N sc X.fn ts es = true → PGs X es (gMs X.K B ts)
  | [], es, h => by
    simp only [mTs, List.isEmpty_iff] at h
    subst h
    refine pgsM pgs_nil fun v σ H Q q => ?_
    obtain ⟨Sh, s, ds, env', b, r, e, q⟩ := q
    cases r with
    | nil =>
      simp only [asgTs] at e
      cases e
      exact ⟨rfl, q σ b .refl⟩
    | cons _ _ => simp [asgTs] at e
  | t :: ts, [], h => by simp [mTs] at h
  | t :: ts, e :: es, h => by
    simp only [mTs, Bool.and_eq_true] at h
    refine pgsM (pgs_cons (pg_all (B := B) hs hN hc t e h.1) (pgs_all (B := B) hs hN hc ts es h.2) (by rw [each_cons (t := e) (mT_notStar t e h.1)]; rfl)) fun v σ H Q q => ?_
    obtain ⟨Sh, s, ds, env', b, r, e, q⟩ := q
    cases r with
    | nil => simp [asgTs] at e
    | cons r1 r2 =>
      simp only [asgTs, Option.bind_eq_some_iff] at e
      obtain ⟨env1, e1, e2⟩ := e
      refine ⟨_, _, rfl, Sh, s, _, env1, b, r1, e1, fun σ1 b1 o1 => ⟨Sh, { s with env := env1 }, _, env', b1, r2, e2, fun σ2 b2 o2 => q σ2 b2 ?_⟩⟩
      exact (o1.mono fun i hi => by simp [slotsTs, hi]).trans (o2.mono fun i hi => by simp [slotsTs, hi])
end

/-! ### what is walked -/
/-- an iterator over data: G says that its source stands -/
structure ItD (K : PySem.W.Frag) (B : Bs) (J : It) (ds : List D) (G : (Addr → Prop) → Hp → Prop) : Prop where
  go : ∀ i Sh H, G Sh H → i < ds.length → J.go i H
  stop : ∀ i Sh H, G Sh H → i = ds.length → J.stop i H
  yld : ∀ (i : Nat) Sh s σ H x H', G Sh H → BI K B Sh s σ H → J.yld i H x H' → i < ds.length → BI K B Sh s σ H' ∧ Stp B σ s.env Sh H s.env Sh H' ∧ ∀ d, ds[i]? = some d → DR K Sh B.st H' x d
/-- a source stands through steps of expressions; through statements -/
def GE (K : PySem.W.Frag) (B : Bs) (G : (Addr → Prop) → Hp → Prop) : Prop := ∀ Sh H Sh' H', G Sh H → Stays Sh H Sh' H' → (∀ a o, H a = some o → B.st ≠ some a → H' a = some o) → G Sh' H'
def GS (G : (Addr → Prop) → Hp → Prop) : Prop := ∀ Sh H Sh' H', G Sh H → Stays Sh H Sh' H' → G Sh' H'
/-- a walk's reading, over what is read; over what is kept -/
def tI (K : PySem.W.Frag) (B : Bs) (XC : Nat → Addr) (W : WX) (f : S → R (List D)) : TI := fun σ H Q => ∃ Sh s, BI K B Sh s σ H ∧ RP K B XC W σ s Sh H (f s) fun ds s' Sh' H' => ∀ J G, ItD K B J ds G → GE K B G → G Sh' H' → Q J H'
def tIc (K : PySem.W.Frag) (B : Bs) (XC : Nat → Addr) (W : WX) (f : S → R (List D)) : TI := fun σ H Q => ∃ Sh s, BI K B Sh s σ H ∧ RP K B XC W σ s Sh H (f s) fun ds s' Sh' H' => ∀ J G, ItD K B J ds G → GS G → G Sh' H' → Q J H'

section
variable {K : PySem.W.Frag} {B : Bs}
/-- the list at a -/
def GL (K : PySem.W.Frag) (B : Bs) (a : Addr) (ds : List D) : (Addr → Prop) → Hp → Prop := fun Sh H => B.st ≠ some a ∧ ∃ xs, H a = some (.lst xs) ∧ DRs K Sh B.st H xs ds
def GLs (K : PySem.W.Frag) (B : Bs) (a : Addr) (ds : List D) : (Addr → Prop) → Hp → Prop := fun Sh H => Sh a ∧ ∃ xs, H a = some (.lst xs) ∧ DRs K Sh B.st H xs ds
def GT (K : PySem.W.Frag) (B : Bs) (a : Addr) (ds : List D) : (Addr → Prop) → Hp → Prop := fun Sh H => ∃ xs, SqT K H a xs ∧ DRs K Sh B.st H xs ds
theorem ge_l {a : Addr} {ds : List D} : GE K B (GL K B a ds) := fun Sh H Sh' H' ⟨h0, xs, h1, h2⟩ y m => ⟨h0, xs, m _ _ h1 h0, h2.mono y⟩
theorem gs_l {a : Addr} {ds : List D} : GS (GLs K B a ds) := fun Sh H Sh' H' ⟨h0, xs, h1, h2⟩ y => ⟨y.sub _ h0, xs, y.obj _ _ h0 h1, h2.mono y⟩
theorem gs_t {a : Addr} {ds : List D} : GS (GT K B a ds) := fun Sh H Sh' H' ⟨xs, h1, h2⟩ y => ⟨xs, y.sqT h1, h2.mono y⟩
theorem ge_of {G : (Addr → Prop) → Hp → Prop} (h : GS G) : GE K B G := fun Sh H Sh' H' g y _ => h Sh H Sh' H' g y
theorem itd_list {a : Addr} {ds : List D} {G : (Addr → Prop) → Hp → Prop} (hG : ∀ Sh H, G Sh H → ∃ xs, H a = some (.lst xs) ∧ DRs K Sh B.st H xs ds) : ItD K B (Itl K a) ds G where
  go := fun i Sh H g hi => by
    obtain ⟨xs, h1, h2⟩ := hG Sh H g
    have : i < xs.length := by rw [h2.length]; exact hi
    exact ⟨xs, xs[i], .of h1, by simp [this]⟩
  stop := fun i Sh H g hi => by
    obtain ⟨xs, h1, h2⟩ := hG Sh H g
    exact ⟨xs, .of h1, by rw [h2.length, hi]; exact Nat.le_refl _⟩
  yld := fun i Sh s σ H x H' g b y _ => by
    obtain ⟨xs, h1, h2⟩ := hG Sh H g
    obtain ⟨rfl, q⟩ := y
    refine ⟨b, .refl, fun d e => ?_⟩
    obtain ⟨v, e1, r⟩ := h2.get e
    rw [q xs (.of h1)] at e1; cases e1
    exact r
theorem itd_tup {a : Addr} {ds : List D} : ItD K B (Itt K a) ds (GT K B a ds) where
  go := fun i Sh H g hi => by
    obtain ⟨xs, h1, h2⟩ := g
    have : i < xs.length := by rw [h2.length]; exact hi
    exact ⟨xs, xs[i], h1, by simp [this]⟩
  stop := fun i Sh H g hi => by
    obtain ⟨xs, h1, h2⟩ := g
    exact ⟨xs, h1, by rw [h2.length, hi]; exact Nat.le_refl _⟩
  yld := fun i Sh s σ H x H' g b y _ => by
    obtain ⟨xs, h1, h2⟩ := g
    obtain ⟨rfl, q⟩ := y
    refine ⟨b, .refl, fun d e => ?_⟩
    obtain ⟨v, e1, r⟩ := h2.get e
    rw [q xs h1] at e1; cases e1
    exact r
theorem rangeD_len (a c : Int) : (rangeD a c).length = (c - a).toNat := by simp [rangeD]
theorem rangeD_get {a c : Int} {i : Nat} {d : D} (h : (rangeD a c)[i]? = some d) : d = .int (a + (i : Int)) := by
  unfold rangeD at h
  rw [List.getElem?_map] at h
  cases q : (List.range (c - a).toNat)[i]? with
  | none => rw [q] at h; cases h
  | some j =>
    rw [q] at h
    obtain ⟨hj, e⟩ := List.getElem?_eq_some_iff.mp q
    rw [List.getElem_range] at e
    cases h
    rw [e]
theorem itd_range (a c : Int) : ItD K B (Itr a (c - a).toNat) (rangeD a c) (fun _ _ => True) where
  go := fun i Sh H _ hi => by rw [rangeD_len] at hi; exact hi
  stop := fun i Sh H _ hi => by rw [rangeD_len] at hi; exact Nat.le_of_eq hi.symm
  yld := fun i Sh s σ H x H' _ b y hi => by
    obtain ⟨rfl, rfl⟩ := y
    refine ⟨b, .refl, fun d e => ?_⟩
    rw [rangeD_get e]
    exact .int _
theorem enumD_get : ∀ {xs : List D} {n i : Nat} {d : D}, (enumD n xs)[i]? = some d → ∃ x, xs[i]? = some x ∧ d = .tup [.int ((n + i : Nat) : Int), x]
  | [], _, _, _, h => by simp [enumD] at h
  | x :: r, n, 0, d, h => by
    simp [enumD] at h
    exact ⟨x, rfl, h.symm⟩
  | x :: r, n, i + 1, d, h => by
    obtain ⟨y, h1, h2⟩ := enumD_get (xs := r) (n := n + 1) (i := i) (by simpa [enumD] using h)
    exact ⟨y, by simpa using h1, by rw [h2, Nat.add_assoc, Nat.add_comm 1 i]⟩
theorem enumD_len : ∀ (xs : List D) (n : Nat), (enumD n xs).length = xs.length
  | [], _ => rfl
  | _ :: r, n => by simp [enumD, enumD_len r]
theorem itd_enum {a : Addr} {ds : List D} {G : (Addr → Prop) → Hp → Prop} (hG : ∀ Sh H, G Sh H → ∃ xs, H a = some (.lst xs) ∧ DRs K Sh B.st H xs ds) : ItD K B (Ite K a) (enumD 0 ds) G where
  go := fun i Sh H g hi => by
    obtain ⟨xs, h1, h2⟩ := hG Sh H g
    rw [enumD_len] at hi
    have : i < xs.length := by rw [h2.length]; exact hi
    exact ⟨xs, xs[i], .of h1, by simp [this]⟩
  stop := fun i Sh H g hi => by
    obtain ⟨xs, h1, h2⟩ := hG Sh H g
    rw [enumD_len] at hi
    exact ⟨xs, .of h1, by rw [h2.length, hi]; exact Nat.le_refl _⟩
  yld := fun i Sh s σ H x H' g b y hi => by
    obtain ⟨xs, h1, h2⟩ := hG Sh H g
    obtain ⟨A, z, rfl, hA, rfl, q⟩ := y
    have hz := q xs (.of h1)
    obtain ⟨dz, e1, r1⟩ := h2.getV hz
    obtain ⟨q1, q2, q3⟩ := b.newT (ds := [.int (i : Nat), dz]) hA (.cons (.int _) (.cons r1 .nil))
    refine ⟨q1, q2, fun d e => ?_⟩
    obtain ⟨x, e2, rfl⟩ := enumD_get e
    rw [e1] at e2; cases e2
    rw [Nat.zero_add]
    exact q3
theorem itd_enumT {a : Addr} {ds : List D} : ItD K B (IteT K a) (enumD 0 ds) (GT K B a ds) where
  go := fun i Sh H g hi => by
    obtain ⟨xs, h1, h2⟩ := g
    rw [enumD_len] at hi
    have : i < xs.length := by rw [h2.length]; exact hi
    exact ⟨xs, xs[i], h1, by simp [this]⟩
  stop := fun i Sh H g hi => by
    obtain ⟨xs, h1, h2⟩ := g
    rw [enumD_len] at hi
    exact ⟨xs, h1, by rw [h2.length, hi]; exact Nat.le_refl _⟩
  yld := fun i Sh s σ H x H' g b y hi => by
    obtain ⟨xs, h1, h2⟩ := g
    obtain ⟨A, z, rfl, hA, rfl, q⟩ := y
    have hz := q xs h1
    obtain ⟨dz, e1, r1⟩ := h2.getV hz
    obtain ⟨q1, q2, q3⟩ := b.newT (ds := [.int (i : Nat), dz]) hA (.cons (.int _) (.cons r1 .nil))
    refine ⟨q1, q2, fun d e => ?_⟩
    obtain ⟨x, e2, rfl⟩ := enumD_get e
    rw [e1] at e2; cases e2
    rw [Nat.zero_add]
    exact q3
def zipD (xs ys : List D) : List D := (xs.zip ys).map fun p => .tup [p.1, p.2]
theorem zipD_len (xs ys : List D) : (zipD xs ys).length = min xs.length ys.length := by simp [zipD]
theorem zipD_get {xs ys : List D} {i : Nat} {d : D} (h : (zipD xs ys)[i]? = some d) : ∃ x y, xs[i]? = some x ∧ ys[i]? = some y ∧ d = .tup [x, y] := by
  unfold zipD at h
  rw [List.getElem?_map, Option.map_eq_some_iff] at h
  obtain ⟨p, h1, h2⟩ := h
  rw [List.getElem?_zip_eq_some] at h1
  exact ⟨p.1, p.2, h1.1, h1.2, h2.symm⟩
theorem itd_zip {a c : Addr} {ds es : List D} {G : (Addr → Prop) → Hp → Prop} (hG : ∀ Sh H, G Sh H → (∃ xs, H a = some (.lst xs) ∧ DRs K Sh B.st H xs ds) ∧ ∃ ys, H c = some (.lst ys) ∧ DRs K Sh B.st H ys es) : ItD K B (Itz K a c) (zipD ds es) G where
  go := fun i Sh H g hi => by
    obtain ⟨⟨xs, h1, h2⟩, ys, h3, h4⟩ := hG Sh H g
    rw [zipD_len] at hi
    have l1 : i < xs.length := by rw [h2.length]; omega
    have l2 : i < ys.length := by rw [h4.length]; omega
    exact ⟨xs, ys, xs[i], ys[i], .of h1, .of h3, by simp [l1], by simp [l2]⟩
  stop := fun i Sh H g hi => by
    obtain ⟨⟨xs, h1, h2⟩, ys, h3, h4⟩ := hG Sh H g
    rw [zipD_len] at hi
    exact ⟨xs, ys, .of h1, .of h3, by rw [h2.length, h4.length]; omega⟩
  yld := fun i Sh s σ H x H' g b y hi => by
    obtain ⟨⟨xs, h1, h2⟩, ys, h3, h4⟩ := hG Sh H g
    obtain ⟨A, z, z2, rfl, hA, rfl, q, q'⟩ := y
    obtain ⟨d1, e1, r1⟩ := h2.getV (q xs (.of h1))
    obtain ⟨d2, e2, r2⟩ := h4.getV (q' ys (.of h3))
    obtain ⟨q1, q2, q3⟩ := b.newT (ds := [d1, d2]) hA (.cons r1 (.cons r2 .nil))
    refine ⟨q1, q2, fun d e => ?_⟩
    obtain ⟨x, y, e3, e4, rfl⟩ := zipD_get e
    rw [e1] at e3; cases e3
    rw [e2] at e4; cases e4
    exact q3
theorem itd_zipT {a c : Addr} {ds es : List D} : ItD K B (RZ.ItzT K a c) (zipD ds es) (fun Sh H => GT K B a ds Sh H ∧ GT K B c es Sh H) where
  go := fun i Sh H g hi => by
    obtain ⟨⟨xs, h1, h2⟩, ys, h3, h4⟩ := g
    rw [zipD_len] at hi
    have l1 : i < xs.length := by rw [h2.length]; omega
    have l2 : i < ys.length := by rw [h4.length]; omega
    exact ⟨xs, ys, xs[i], ys[i], h1, h3, by simp [l1], by simp [l2]⟩
  stop := fun i Sh H g hi => by
    obtain ⟨⟨xs, h1, h2⟩, ys, h3, h4⟩ := g
    rw [zipD_len] at hi
    exact ⟨xs, ys, h1, h3, by rw [h2.length, h4.length]; omega⟩
  yld := fun i Sh s σ H x H' g b y hi => by
    obtain ⟨⟨xs, h1, h2⟩, ys, h3, h4⟩ := g
    obtain ⟨A, z, z2, rfl, hA, rfl, q, q'⟩ := y
    obtain ⟨d1, e1, r1⟩ := h2.getV (q xs h1)
    obtain ⟨d2, e2, r2⟩ := h4.getV (q' ys h3)
    obtain ⟨q1, q2, q3⟩ := b.newT (ds := [d1, d2]) hA (.cons r1 (.cons r2 .nil))
    refine ⟨q1, q2, fun d e => ?_⟩
    obtain ⟨x, y, e3, e4, rfl⟩ := zipD_get e
    rw [e1] at e3; cases e3
    rw [e2] at e4; cases e4
    exact q3
end

section
variable {T : Tab} {n : Nat} {B : Bs} {XC : Nat → Addr} {W : WX} {X : Cx} {sc : Scope} {cx : Cxt}
def iSeq (K : PySem.W.Frag) (tl : TE) : TI := fun σ H Rn => tl σ H fun x H1 => (∃ a, x = .ref a ∧ (∃ xs, SqL K H1 a xs) ∧ Rn (Itl K a) H1) ∨ (∃ a, x = .ref a ∧ (∃ xs, SqT K H1 a xs) ∧ Rn (Itt K a) H1)
theorem pi_seq {tg l : Expr} {tl : TE} (hl : PE X l tl) : PI X tg l (iSeq X.K tl) := by
  refine ⟨fun ps s σ H Rn I0 h => ?_⟩
  refine thn (hl.run ps s σ H _ I0 h) fun v s1 hv => ?_
  obtain ⟨x, H1, I1, r1, ⟨a, e, ⟨xs, hq⟩, q⟩ | ⟨a, e, ⟨xs, hq⟩, q⟩⟩ := hv
  · subst e
    cases r1
    obtain ⟨its, rv, p, hz⟩ := I1.list hq
    refine wpAny_pyIter_list p.isList ⟨s1.heap.objs.size, [s1.heap.objs.size], _, _, H1, rfl, I1.kept (t' := s1.toks) fun b o e => Heap.get?_push_of_some _ e, turn_list a _, ⟨_, Heap.get?_push_size _ rfl, rfl, rfl⟩, fun b hb => ?_, q⟩
    obtain rfl : b = s1.heap.objs.size := by simpa using hb
    exact I1.fpOk (Nat.le_refl _) (I1.hok.fresh (Nat.le_refl _))
  · subst e
    cases r1
    obtain ⟨its, rv, p, hz⟩ := I1.tuple hq
    refine wpAny_pyIter_tuple (show s1.heap.IsTuple a its.toArray from p) ⟨s1.heap.objs.size, [s1.heap.objs.size], _, _, H1, rfl, I1.kept (t' := s1.toks) fun b o e => Heap.get?_push_of_some _ e, turn_tuple a _, ⟨_, Heap.get?_push_size _ rfl, rfl, rfl⟩, fun b hb => ?_, q⟩
    obtain rfl : b = s1.heap.objs.size := by simpa using hb
    exact I1.fpOk (Nat.le_refl _) (I1.hok.fresh (Nat.le_refl _))
/-- the walk's forms -/
def mRange (sc : Scope) (e : Expr) : Option (List Expr) := match c1 sc "range" e with
  | some as => some as
  | none => c2 sc "range" e
theorem OR.srcL {Sh : Addr → Prop} {s : S} {σ : L2.St} {H : Hp} {v : V} {o : Opd} {ds : List D} {K : PySem.W.Frag} (b : BI K B Sh s σ H) (r : OR K B Sh s.env σ H v o) (e : o.d = .lst ds) : ∃ a, v = V.ref a ∧ GL K B a ds Sh H := by
  cases o with
  | val d =>
    simp only [Opd.d] at e
    subst e
    cases r with
    | lst h0 h1 h2 => exact ⟨_, rfl, (b.shL _ h0).2, _, h1, h2⟩
  | fresh d =>
    simp only [Opd.d] at e
    subst e
    obtain ⟨a, rfl, h1, h2, h3, h4, xs, h5, h6⟩ := r
    exact ⟨a, rfl, h3, xs, h5, h6⟩
  | var i d =>
    simp only [Opd.d] at e
    subst e
    obtain ⟨h1, o, h2⟩ := r
    cases o with
    | false =>
      obtain ⟨v', e', q⟩ := b.var _ _ h2
      rw [h1] at e'; cases e'
      cases q with
      | lst k0 k1 k2 => exact ⟨_, rfl, (b.shL _ k0).2, _, k1, k2⟩
    | true =>
      obtain ⟨a, e', h3, h4, h5, xs, h6, h7⟩ := b.own _ _ h2
      rw [h1] at e'; cases e'
      exact ⟨a, rfl, h5, xs, h6, h7⟩
theorem OR.srcT {Sh : Addr → Prop} {s : S} {σ : L2.St} {H : Hp} {v : V} {o : Opd} {ds : List D} {K : PySem.W.Frag} (b : BI K B Sh s σ H) (r : OR K B Sh s.env σ H v o) (e : o.d = .tup ds) : ∃ a, v = V.ref a ∧ GT K B a ds Sh H := by
  have q := r.rr b
  rw [e] at q
  obtain ⟨a, xs, rfl, h1, h2⟩ := q.tup
  exact ⟨a, rfl, xs, h1, h2⟩
theorem pi_seqD {tg e : Expr} {m : ME} (he : PE X e (tE X B XC W (ev cx false m))) : PI X tg e (tI X.K B XC W (evI cx (.seq m))) := by
  refine piM (pi_seq he) fun σ H Q h => ?_
  obtain ⟨Sh, s, b, h⟩ := h
  simp only [evI] at h
  refine ⟨Sh, s, b, (RP.bnd h).imp fun o s1 Sh1 H1 b1 x1 h1 v r _ => ?_⟩
  cases q : o.d <;> rw [q] at h1 <;> simp only [itemsD] at h1 <;> (try exact h1.elim)
  · obtain ⟨a, rfl, g⟩ := r.srcL b1 q
    obtain ⟨_, xs, h3, h4⟩ := id g
    exact .inl ⟨a, rfl, ⟨xs, .of h3⟩, RP.ok b1 h1 _ _ (itd_list fun _ _ g => g.2) ge_l g⟩
  · obtain ⟨a, rfl, g⟩ := r.srcT b1 q
    obtain ⟨xs, h3, h4⟩ := id g
    exact .inr ⟨a, rfl, ⟨xs, h3⟩, RP.ok b1 h1 _ _ itd_tup (ge_of gs_t) g⟩
theorem pi_rng1D (g : GX T n B XC W X sc) {tg e a : Expr} {m : ME} (hm : c1 sc "range" e = some [a]) (he : PE X a (tE X B XC W (ev cx false m))) : PI X tg e (tI X.K B XC W (evI cx (.rng1 m))) := by
  obtain ⟨a', p, pos, rfl, e1, k, k'⟩ := inv_c1 hm
  cases e1
  obtain ⟨q1, q2⟩ := glB_ok g.scope k
  refine piM (pi_range1 q1 (g.bts _ (by decide)) (pa_cons he pa_nil (star_cons k')) (star_cons k')) fun σ H Q h => ?_
  obtain ⟨Sh, s, b, h⟩ := h
  simp only [evI] at h
  refine ⟨Sh, s, b, (RP.bnd h).imp fun o s1 Sh1 H1 b1 x1 h1 v r _ => ?_⟩
  cases q : o.d <;> rw [q] at h1 <;> dsimp only at h1 <;> (try exact h1.elim)
  rename_i j
  split at h1
  · rename_i hj
    refine ⟨j, by rw [RR_int (r.rr b1) q], by omega, by omega, ?_⟩
    have := RP.ok b1 h1 _ _ (itd_range 0 j) (fun _ _ _ _ _ _ _ => trivial) trivial
    rwa [Int.sub_zero] at this
  · exact h1.elim
theorem pi_rng2D (g : GX T n B XC W X sc) {tg e a c : Expr} {m m' : ME} (hm : c2 sc "range" e = some [a, c]) (he : PE X a (tE X B XC W (ev cx false m))) (hc : PE X c (tE X B XC W (ev cx false m'))) : PI X tg e (tI X.K B XC W (evI cx (.rng2 m m'))) := by
  obtain ⟨a', c', p, pos, rfl, e1, k, k', k''⟩ := inv_c2 hm
  cases e1
  obtain ⟨q1, q2⟩ := glB_ok g.scope k
  have s2 : starEach [c] X.env = [(false, eval c X.env)] := star_cons k''
  have s1 : starEach [a, c] X.env = [(false, eval a X.env), (false, eval c X.env)] := by rw [star_cons k', s2]
  refine piM (pi_range2 q1 (g.bts _ (by decide)) (pa_cons he (pa_cons hc pa_nil (star_cons k'')) (star_cons k')) s1 s2) fun σ H Q h => ?_
  obtain ⟨Sh, s, b, h⟩ := h
  simp only [evI] at h
  refine ⟨Sh, s, b, (RP.bnd h).imp fun o s1 Sh1 H1 b1 x1 h1 v r _ => ⟨Sh1, s1, b1, (RP.bnd h1).imp fun o2 s2 Sh2 H2 b2 x2 h2 v2 r2 _ => ?_⟩⟩
  cases q : o.d <;> cases q' : o2.d <;> rw [q, q'] at h2 <;> dsimp only at h2 <;> (try exact h2.elim)
  rename_i i j
  split at h2
  · rename_i hj
    refine ⟨i, j, by rw [RR_int ((r.stp b1 x2).rr b2) q, RR_int (r2.rr b2) q'], by omega, ?_⟩
    exact RP.ok b2 h2 _ _ (itd_range i j) (fun _ _ _ _ _ _ _ => trivial) trivial
  · exact h2.elim
theorem pi_enumD (g : GX T n B XC W X sc) {e a : Expr} {elts : List Expr} {kk : Nat} {tpos : Pos} {m : ME} (hm : c1 sc "enumerate" e = some [a]) (he : PE X a (tE X B XC W (ev cx false m))) : PI X (.Tuple elts kk tpos) e (tI X.K B XC W (fun s => bnd (ev cx false m s) fun o s => match o.d with
    | .lst xs => .ok (enumD 0 xs) s
    | .tup xs => .ok (enumD 0 xs) s
    | _ => .stuck)) := by
  obtain ⟨a', p, pos, rfl, e1, k, k'⟩ := inv_c1 hm
  cases e1
  obtain ⟨q1, q2⟩ := glB_ok g.scope k
  refine piM (pi_enumA q1 (g.bts _ (by decide)) (pa_cons he pa_nil (star_cons k')) (star_cons k')) fun σ H Q h => ?_
  obtain ⟨Sh, s, b, h⟩ := h
  refine ⟨Sh, s, b, (RP.bnd h).imp fun o s1 Sh1 H1 b1 x1 h1 v r _ => ?_⟩
  cases q : o.d <;> rw [q] at h1 <;> dsimp only at h1 <;> (try exact h1.elim)
  · obtain ⟨a, rfl, g'⟩ := r.srcL b1 q
    obtain ⟨_, xs, h3, h4⟩ := id g'
    exact ⟨a, xs, rfl, .inl ⟨.of h3, RP.ok b1 h1 _ _ (itd_enum fun _ _ g => g.2) ge_l g'⟩⟩
  · obtain ⟨a, rfl, g'⟩ := r.srcT b1 q
    obtain ⟨xs, h3, h4⟩ := id g'
    exact ⟨a, xs, rfl, .inr ⟨h3, RP.ok b1 h1 _ _ itd_enumT (ge_of gs_t) g'⟩⟩
theorem ge_and {G1 G2 : (Addr → Prop) → Hp → Prop} {K : PySem.W.Frag} {B : Bs} (h1 : GE K B G1) (h2 : GE K B G2) : GE K B (fun Sh H => G1 Sh H ∧ G2 Sh H) := fun Sh H Sh' H' g y m => ⟨h1 _ _ _ _ g.1 y m, h2 _ _ _ _ g.2 y m⟩
theorem gs_and {G1 G2 : (Addr → Prop) → Hp → Prop} (h1 : GS G1) (h2 : GS G2) : GS (fun Sh H => G1 Sh H ∧ G2 Sh H) := fun Sh H Sh' H' g y => ⟨h1 _ _ _ _ g.1 y, h2 _ _ _ _ g.2 y⟩
theorem pi_zipD (g : GX T n B XC W X sc) {e a c : Expr} {elts : List Expr} {kk : Nat} {tpos : Pos} {m m' : ME} (hm : c2 sc "zip" e = some [a, c]) (he : PE X a (tE X B XC W (ev cx false m))) (hc : PE X c (tE X B XC W (ev cx false m'))) : PI X (.Tuple elts kk tpos) e (tI X.K B XC W (evI cx (.zip m m'))) := by
  obtain ⟨a', c', p, pos, rfl, e1, k, k', k''⟩ := inv_c2 hm
  cases e1
  obtain ⟨q1, q2⟩ := glB_ok g.scope k
  have s2 : starEach [c] X.env = [(false, eval c X.env)] := star_cons k''
  refine piM (RZ.pi_zipA q1 (g.bts _ (by decide)) (pa_cons he (pa_cons hc pa_nil (star_cons k'')) (star_cons k')) (star_cons k') (by rw [s2]; rfl)) fun σ H Q h => ?_
  obtain ⟨Sh, s, b, h⟩ := h
  simp only [evI] at h
  refine ⟨Sh, s, b, (RP.bnd h).imp fun o s1 Sh1 H1 b1 x1 h1 v r _ => ⟨Sh1, s1, b1, (RP.bnd h1).imp fun o2 s2 Sh2 H2 b2 x2 h2 v2 r2 _ => ?_⟩⟩
  cases q : o.d <;> cases q' : o2.d <;> rw [q, q'] at h2 <;> dsimp only at h2 <;> (try exact h2.elim)
  · obtain ⟨A1, rfl, g1⟩ := (r.stp b1 x2).srcL b2 q
    obtain ⟨A2, rfl, g2⟩ := r2.srcL b2 q'
    obtain ⟨_, xs, h3, h4⟩ := id g1
    obtain ⟨_, ys, h5, h6⟩ := id g2
    exact ⟨A1, A2, xs, ys, rfl, .inl ⟨.of h3, .of h5, RP.ok b2 h2 _ _ (itd_zip fun _ _ g => ⟨g.1.2, g.2.2⟩) (ge_and ge_l ge_l) ⟨g1, g2⟩⟩⟩
  · obtain ⟨A1, rfl, g1⟩ := (r.stp b1 x2).srcT b2 q
    obtain ⟨A2, rfl, g2⟩ := r2.srcT b2 q'
    obtain ⟨xs, h3, h4⟩ := id g1
    obtain ⟨ys, h5, h6⟩ := id g2
    exact ⟨A1, A2, xs, ys, rfl, .inr ⟨h3, h5, RP.ok b2 h2 _ _ itd_zipT (ge_and (ge_of gs_t) (ge_of gs_t)) ⟨g1, g2⟩⟩⟩
end
end MP
set_option Elab.async false
set_option linter.all false
set_option maxRecDepth 100000
/-! List comprehensions. -/
namespace MP
open PySem PySem.Spec PyProof.Rows L2

/-! ### wiped slots -/
theorem wipeE_len (env : MP.Env) : ∀ vs : List Nat, (wipeE env vs).length = env.length
  | [] => rfl
  | v :: vs => by simp [wipeE, wipeE_len env vs]
theorem wipeE_out {env : MP.Env} {i : Nat} : ∀ {vs : List Nat}, i ∉ vs → (wipeE env vs)[i]? = env[i]?
  | [], _ => rfl
  | v :: vs, h => by
    simp only [List.mem_cons, not_or] at h
    rw [wipeE, List.getElem?_set_ne (fun e => h.1 e.symm), wipeE_out h.2]
theorem wipeE_in {env : MP.Env} {i : Nat} : ∀ {vs : List Nat} {x : D × Bool}, i ∈ vs → (wipeE env vs)[i]? ≠ some (some x)
  | v :: vs, x, h, e => by
    rw [wipeE] at e
    by_cases hv : v = i
    · subst hv
      by_cases hl : v < (wipeE env vs).length
      · rw [List.getElem?_set_self hl] at e; cases e
      · rw [List.getElem?_eq_none (by simpa using hl)] at e; cases e
    · rw [List.getElem?_set_ne hv] at e
      rcases List.mem_cons.mp h with q | q
      · exact hv q.symm
      · exact wipeE_in q e
theorem wipeE_some {env : MP.Env} {i : Nat} {vs : List Nat} {x : D × Bool} (h : (wipeE env vs)[i]? = some (some x)) : i ∉ vs ∧ env[i]? = some (some x) := by
  by_cases hi : i ∈ vs
  · exact absurd h (wipeE_in hi)
  · rw [wipeE_out hi] at h
    exact ⟨hi, h⟩
theorem off_wipe (σ : L2.St) (vs : List Nat) : Off vs σ (wipe σ vs) := ⟨wipe_length σ vs, fun i h => wipe_out h⟩
theorem wipe_wipe (σ : L2.St) (vs : List Nat) : wipe (wipe σ vs) vs = wipe σ vs := (off_wipe σ vs).wipe
section
variable {K : PySem.W.Frag} {B : Bs} {Sh : Addr → Prop} {s : S} {σ : L2.St} {H : Hp}
theorem BI.wipe (b : BI K B Sh s σ H) (vs : List Nat) : BI K B Sh { s with env := wipeE s.env vs } (L2.wipe σ vs) H := by
  refine ⟨b.keep, b.sh0, b.shN, b.shL, b.stk, by rw [wipeE_len, wipe_length]; exact b.len, fun i d e => ?_, fun i d e => ?_, fun i j d d' a e1 e2 e3 e4 => ?_⟩
  · obtain ⟨hi, e⟩ := wipeE_some e
    obtain ⟨v, h1, h2⟩ := b.var i d e
    exact ⟨v, by rw [wipe_out hi]; exact h1, h2⟩
  · obtain ⟨hi, e⟩ := wipeE_some e
    obtain ⟨v, h1, h2⟩ := b.own i d e
    exact ⟨v, by rw [wipe_out hi]; exact h1, h2⟩
  · obtain ⟨hi, e1⟩ := wipeE_some e1
    obtain ⟨hj, e2⟩ := wipeE_some e2
    rw [wipe_out hi] at e3
    rw [wipe_out hj] at e4
    exact b.inj i j d d' a e1 e2 e3 e4
/-- an object that nobody holds changes -/
theorem BI.updFree {p : Addr} {xs ys : List V} (b : BI K B Sh s σ H) (hp : H p = some (.lst xs)) (h0 : B.H0 p = none) (h1 : ¬ Sh p) (h2 : B.st ≠ some p) (h3 : ¬ Owns s.env σ p) :
    BI K B Sh s σ (upd H p (.lst ys)) ∧ Stays Sh H Sh (upd H p (.lst ys)) := by
  have y : Stays Sh H Sh (upd H p (.lst ys)) := ⟨fun _ h => h, fun a o h e => by
    rw [upd_ne]; exact e
    rintro rfl; exact h1 h, fun a zs r => by
    have : a ≠ p := by
      rintro rfl
      rcases r with r | ⟨o, r⟩ <;> (rw [hp] at r; cases r)
    rcases r with r | ⟨o, r⟩
    · exact .inl (by rw [upd_ne this]; exact r)
    · exact .inr ⟨o, by rw [upd_ne this]; exact r⟩⟩
  refine ⟨⟨fun a o e q => ?_, b.sh0, b.shN, fun a q => ⟨?_, (b.shL a q).2⟩, fun a e => ?_, b.len, fun i d e => ?_, fun i d e => ?_, b.inj⟩, y⟩
  · rw [upd_ne]
    · exact b.keep a o e q
    · rintro rfl; rw [h0] at e; cases e
  · rw [upd_ne]
    · exact (b.shL a q).1
    · rintro rfl; exact h1 q
  · obtain ⟨l, e1, e2, e3, e4⟩ := b.stk a e
    have : a ≠ p := by rintro rfl; exact h2 e
    have : l ≠ p := by rintro rfl; exact h1 e2
    exact ⟨l, by rw [upd_ne (by assumption)]; exact e1, e2, by rw [upd_ne this]; exact e3, e4⟩
  · obtain ⟨v, e1, e2⟩ := b.var i d e
    exact ⟨v, e1, e2.mono y⟩
  · obtain ⟨a, e1, e2, e3, e4, e5⟩ := b.own i d e
    have : a ≠ p := by rintro rfl; exact h3 ⟨i, d, e, e1⟩
    exact ⟨a, e1, e2, e3, e4, e5.mono y fun o q => by rw [upd_ne this]; exact q⟩
/-! ### what a target changes -/
mutual
theorem asgT_at : ∀ (t : MT) (d : D) (env env' : MP.Env), asgT t d env = some env' → env'.length = env.length ∧ (∀ i, i ∉ slotsT t → env'[i]? = env[i]?) ∧ ∀ i x, i ∈ slotsT t → env'[i]? ≠ some (some (x, true))
  | .nm i, d, env, env', h => by
    simp only [asgT] at h
    split at h
    · rename_i hi
      cases h
      refine ⟨by simp, fun j hj => ?_, fun j x hj e => ?_⟩
      · rw [List.getElem?_set_ne]
        rintro rfl
        exact hj (by simp [slotsT])
      · have : j = i := by simpa [slotsT] using hj
        subst this
        rw [List.getElem?_set_self hi] at e
        cases e
    · cases h
  | .tp ts, d, env, env', h => by
    simp only [asgT] at h
    split at h
    · exact asgTs_at ts _ env env' h
    · cases h
  | .tl ts, d, env, env', h => by
    simp only [asgT] at h
    split at h
    · exact asgTs_at ts _ env env' h
    · cases h
theorem asgTs_at : ∀ (ts : List MT) (ds : List D) (env env' : MP.Env), asgTs ts ds env = some env' → env'.length = env.length ∧ (∀ i, i ∉ slotsTs ts → env'[i]? = env[i]?) ∧ ∀ i x, i ∈ slotsTs ts → env'[i]? ≠ some (some (x, true))
  | [], [], env, env', h => by
    simp only [asgTs] at h
    cases h
    exact ⟨rfl, fun _ _ => rfl, fun i x hi => by simp [slotsTs] at hi⟩
  | [], _ :: _, _, _, h => by simp [asgTs] at h
  | _ :: _, [], _, _, h => by simp [asgTs] at h
  | t :: ts, d :: ds, env, env', h => by
    simp only [asgTs, Option.bind_eq_some_iff] at h
    obtain ⟨env1, h1, h2⟩ := h
    obtain ⟨a1, a2, a3⟩ := asgT_at t d env env1 h1
    obtain ⟨b1, b2, b3⟩ := asgTs_at ts ds env1 env' h2
    refine ⟨b1.trans a1, fun i hi => ?_, fun i x hi e => ?_⟩
    · simp only [slotsTs, List.mem_append, not_or] at hi
      rw [b2 i hi.2, a2 i hi.1]
    · by_cases hq : i ∈ slotsTs ts
      · exact b3 i x hq e
      · rw [b2 i hq] at e
        simp only [slotsTs, List.mem_append] at hi
        exact a3 i x (hi.resolve_right hq) e
end
/-- a turn, its own names forgotten again -/
theorem Stp.turn {vs : List Nat} {t : MT} {d : D} {env env1 env3 : MP.Env} {σ2 : L2.St} {Sh3 : Addr → Prop} {H4 : Hp} (ht : asgT t d env = some env1) (hv : ∀ i ∈ slotsT t, i ∈ vs) (hw : wipeE env vs = env) (ho : Off (slotsT t) σ σ2)
    (x : Stp B σ2 env1 Sh H env3 Sh3 H4) : Stp B σ env Sh H (wipeE env3 vs) Sh3 H4 := by
  obtain ⟨a1, a2, a3⟩ := asgT_at t d env env1 ht
  have out : ∀ {i : Nat} {y : D × Bool}, env[i]? = some (some y) → i ∉ vs := fun {i y} e => by
    rw [← hw] at e
    exact (wipeE_some e).1
  refine ⟨⟨by rw [wipeE_len, x.le.len, a1], fun i y o e => ?_, fun i y o e => ?_⟩, x.sub, fun a h => ?_, x.mem⟩
  · obtain ⟨hi, e⟩ := wipeE_some e
    obtain ⟨o', e', k⟩ := x.le.at' i y o e
    rw [a2 i fun q => hi (hv i q)] at e'
    exact ⟨o', e', k⟩
  · have hi := out e
    rw [← a2 i fun q => hi (hv i q)] at e
    obtain ⟨o', e'⟩ := x.le.at_ i y o e
    exact ⟨o', by rw [wipeE_out hi]; exact e'⟩
  · rcases x.new a h with q | q | ⟨i, y, e1, e2⟩
    · exact .inl q
    · exact .inr (.inl q)
    · have hi : i ∉ slotsT t := fun q => a3 i y q e1
      rw [a2 i hi] at e1
      rw [ho.2 i hi] at e2
      exact .inr (.inr ⟨i, y, e1, e2⟩)
/-- the own names come back -/
theorem restE_len (env0 env : MP.Env) : ∀ vs : List Nat, (restE env0 env vs).length = env.length
  | [] => rfl
  | v :: vs => by simp [restE, restE_len env0 env vs]
theorem restE_out {env0 env : MP.Env} {i : Nat} : ∀ {vs : List Nat}, i ∉ vs → (restE env0 env vs)[i]? = env[i]?
  | [], _ => rfl
  | v :: vs, h => by
    simp only [List.mem_cons, not_or] at h
    rw [restE, List.getElem?_set_ne (fun e => h.1 e.symm), restE_out h.2]
theorem restE_in {env0 env : MP.Env} {i : Nat} : ∀ {vs : List Nat}, i ∈ vs → i < env.length → (restE env0 env vs)[i]? = some (env0.getD i none)
  | v :: vs, h, hl => by
    rw [restE]
    by_cases hv : v = i
    · subst hv
      rw [List.getElem?_set_self (by rw [restE_len]; exact hl)]
    · rw [List.getElem?_set_ne hv]
      rcases List.mem_cons.mp h with q | q
      · exact absurd q.symm hv
      · exact restE_in q hl
theorem getD_some {env0 : MP.Env} {i : Nat} {x : D × Bool} (h : env0.getD i none = some x) : env0[i]? = some (some x) := by
  rw [List.getD_eq_getElem?_getD] at h
  cases q : env0[i]? with
  | none => rw [q] at h; cases h
  | some y => rw [q] at h; simp at h; rw [h]
theorem noOwn_at {env : MP.Env} {vs : List Nat} (h : noOwn env vs = true) {i : Nat} {d : D} (hi : i ∈ vs) : env[i]? ≠ some (some (d, true)) := fun e => by
  have := List.all_eq_true.mp h i hi
  rw [e] at this
  cases this
theorem Stp.restore {vs : List Nat} {Sh1 : Addr → Prop} {H1 : Hp} {s1 : S} (b : BI K B Sh s σ H) (b1 : BI K B Sh1 s1 (L2.wipe σ vs) H1) (ho : noOwn s.env vs = true) (x : Stp B (L2.wipe σ vs) (wipeE s.env vs) Sh H s1.env Sh1 H1) :
    BI K B Sh1 { s1 with env := restE s.env s1.env vs } σ H1 ∧ Stp B σ s.env Sh H (restE s.env s1.env vs) Sh1 H1 := by
  have y : Stays Sh H Sh1 H1 := by
    refine ⟨x.sub, fun a o h e => x.mem a o e (b.shL a h).2, fun a xs r => ?_⟩
    have := b.stTup r
    rcases r with r | ⟨o, r⟩
    · exact .inl (x.mem _ _ r this)
    · exact .inr ⟨o, x.mem _ _ r this⟩
  have hl : s1.env.length = s.env.length := by rw [x.le.len, wipeE_len]
  have at1 : ∀ {i : Nat} {z : D × Bool}, (restE s.env s1.env vs)[i]? = some (some z) → (i ∈ vs ∧ s.env[i]? = some (some z) ∧ z.2 = false) ∨ (i ∉ vs ∧ s1.env[i]? = some (some z)) := fun {i z} e => by
    by_cases hi : i ∈ vs
    · by_cases hq : i < s1.env.length
      · rw [restE_in hi hq] at e
        have e' := getD_some (Option.some.inj e)
        refine .inl ⟨hi, e', ?_⟩
        obtain ⟨d, o⟩ := z
        cases o with
        | false => rfl
        | true => exact absurd e' (noOwn_at ho hi)
      · rw [List.getElem?_eq_none (by rw [restE_len]; omega)] at e; cases e
    · rw [restE_out hi] at e
      exact .inr ⟨hi, e⟩
  refine ⟨⟨b1.keep, b1.sh0, b1.shN, b1.shL, b1.stk, by
      show (restE s.env s1.env vs).length = σ.length
      rw [restE_len, hl]; exact b.len, fun i d e => ?_, fun i d e => ?_, fun i j d d' a e1 e2 e3 e4 => ?_⟩, ⟨by rw [restE_len, hl], fun i d o e => ?_, fun i d o e => ?_⟩, x.sub, fun a h => ?_, x.mem⟩
  · rcases at1 e with ⟨hi, e', _⟩ | ⟨hi, e'⟩
    · obtain ⟨v, h1, h2⟩ := b.var i d e'
      exact ⟨v, h1, h2.mono y⟩
    · obtain ⟨v, h1, h2⟩ := b1.var i d e'
      rw [wipe_out hi] at h1
      exact ⟨v, h1, h2⟩
  · rcases at1 e with ⟨hi, e', q⟩ | ⟨hi, e'⟩
    · cases q
    · obtain ⟨v, h1, h2⟩ := b1.own i d e'
      rw [wipe_out hi] at h1
      exact ⟨v, h1, h2⟩
  · rcases at1 e1 with ⟨_, _, q⟩ | ⟨hi, e1⟩
    · cases q
    rcases at1 e2 with ⟨_, _, q⟩ | ⟨hj, e2⟩
    · cases q
    refine b1.inj i j d d' a e1 e2 ?_ ?_
    · rw [wipe_out hi]; exact e3
    · rw [wipe_out hj]; exact e4
  · rcases at1 e with ⟨hi, e', _⟩ | ⟨hi, e'⟩
    · exact ⟨o, e', id⟩
    · obtain ⟨o', e2, k⟩ := x.le.at' i d o e'
      exact ⟨o', (wipeE_some e2).2, k⟩
  · by_cases hi : i ∈ vs
    · have hq : i < s1.env.length := by rw [hl]; exact (List.getElem?_eq_some_iff.mp e).1
      refine ⟨o, ?_⟩
      rw [restE_in hi hq, List.getD_eq_getElem?_getD, e]
      rfl
    · rw [← wipeE_out (vs := vs) hi] at e
      obtain ⟨o', e'⟩ := x.le.at_ i d o e
      exact ⟨o', by rw [restE_out hi]; exact e'⟩
  · rcases x.new a h with q | q | ⟨i, d, e1, e2⟩
    · exact .inl q
    · exact .inr (.inl q)
    · obtain ⟨hi, e1⟩ := wipeE_some e1
      rw [wipe_out hi] at e2
      exact .inr (.inr ⟨i, d, e1, e2⟩)
end

/-! ### the turns -/
abbrev W0 : WX := fun _ _ _ _ => False
def tO (K : PySem.W.Frag) (B : Bs) (XC : Nat → Addr) (f : S → R Bool) : TT := fun σ H Q => ∃ Sh s, BI K B Sh s σ H ∧ RP K B XC W0 σ s Sh H (f s) fun b s' Sh' H' => Q b H'
/-- what the end of the turns is to bring -/
def EndC (K : PySem.W.Frag) (B : Bs) (σw : L2.St) (env0 : MP.Env) (Sh0 : Addr → Prop) (H1 : Hp) (p : Addr) (Qd : Hp → Prop) (r : R (List D)) : Prop := match r with
  | .ok ds s => ∀ Sh H acc, BI K B Sh s σw H → Stp B σw env0 Sh0 H1 s.env Sh H → H p = some (.lst acc) → DRs K Sh B.st H acc ds → ¬ Sh p → Qd H
  | _ => False
theorem EndC.bndx {α : Type} {K : PySem.W.Frag} {B : Bs} {XC : Nat → Addr} {σw σ : L2.St} {env0 : MP.Env} {Sh0 Sh : Addr → Prop} {H1 H : Hp} {p : Addr} {Qd : Hp → Prop} {r : R α} {f : α → S → R (List D)} {s : S} (h : EndC K B σw env0 Sh0 H1 p Qd (MP.bndx r f)) :
    RP K B XC W0 σ s Sh H r fun a s1 _ _ => EndC K B σw env0 Sh0 H1 p Qd (f a s1) := by
  cases r with
  | ok a s1 => exact fun _ _ _ _ => h
  | exc c s1 => exact h.elim
  | stuck => exact h.elim
theorem EndC.one {K : PySem.W.Frag} {B : Bs} {XC : Nat → Addr} {σw σ : L2.St} {env0 : MP.Env} {Sh0 Sh : Addr → Prop} {H1 H : Hp} {p : Addr} {Qd : Hp → Prop} {r : R Opd} {f : D → S → R (List D)} {s : S} (h : EndC K B σw env0 Sh0 H1 p Qd (MP.bndx (oneR r) f)) :
    RP K B XC W0 σ s Sh H r fun o s1 _ _ => EndC K B σw env0 Sh0 H1 p Qd (f (consume o s1).1 (consume o s1).2) := by
  cases r with
  | ok a s1 => exact fun _ _ _ _ => h
  | exc c s1 => exact h.elim
  | stuck => exact h.elim
theorem Stp.owns0 {B : Bs} {σ : L2.St} {env env' : MP.Env} {Sh Sh' : Addr → Prop} {H H' : Hp} (x : Stp B σ env Sh H env' Sh' H') {a : Addr} (h : Owns env' σ a) : Owns env σ a := x.le.owns h
section
variable {K : PySem.W.Frag} {B : Bs} {XC : Nat → Addr} {Sh0 : Addr → Prop} {s0 : S} {σw : L2.St} {H1 : Hp} {p : Addr} {Qd : Hp → Prop} {J : It} {ds : List D} {G : (Addr → Prop) → Hp → Prop} {own : List Nat} {tg : MT} {cond : S → R Bool} {elt : S → R Opd}
theorem turns_ok (b0 : BI K B Sh0 s0 σw H1) (hJ : ItD K B J ds G) (hG : GE K B G) (g0 : G Sh0 H1) (hp : H1 p = none) (hv : ∀ i ∈ slotsT tg, i ∈ own) (hw : wipeE s0.env own = s0.env) (hws : wipe σw own = σw)
    (h : EndC K B σw s0.env Sh0 H1 p Qd (compR own tg cond (fun s => oneR (elt s)) ds [] s0)) :
    ∃ W : Nat → Nat → Hp → Prop, (∃ m, W 0 m (upd H1 p (.lst []))) ∧ ∀ i m H, W i m H →
      (J.stop i H ∧ Qd H) ∨ (J.go i H ∧ ∃ Nx : Hp → Prop, (∀ H', Nx H' → ∃ m', m' < m ∧ W (i + 1) m' H') ∧ ∀ x H', J.yld i H x H' → gM K B tg x σw H' fun σ2 H2 => wipe σ2 own = σw ∧ tO K B XC cond σ2 H2 fun b H3 =>
        if b = true then tM K B XC W0 elt σ2 H3 fun y H4 => ∃ acc, H4 p = some (.lst acc) ∧ acc.length < sizeLine ∧ Nx (upd H4 p (.lst (acc ++ [y]))) else Nx H3) := by
  have stp : B.st ≠ some p := b0.stNone hp
  have h0p : B.H0 p = none := b0.h0 hp
  let W : Nat → Nat → Hp → Prop := fun i m H => m = ds.length - i ∧ i ≤ ds.length ∧ ∃ Sh s acc accD, BI K B Sh s σw H ∧ Stp B σw s0.env Sh0 H1 s.env Sh H ∧ H p = some (.lst acc) ∧ DRs K Sh B.st H acc accD ∧ ¬ Sh p ∧ wipeE s.env own = s.env ∧
    EndC K B σw s0.env Sh0 H1 p Qd (compR own tg cond (fun s => oneR (elt s)) (ds.drop i) accD s)
  have start : W 0 ds.length (upd H1 p (.lst [])) := by
    obtain ⟨q1, q2, q3⟩ := b0.newL (xs := []) (ds := []) hp .nil
    exact ⟨rfl, Nat.zero_le _, Sh0, s0, [], [], q1, q2, upd_same, .nil, fun q => (b0.shL p q).1 hp, hw, by simpa using h⟩
  refine ⟨W, ⟨_, start⟩, ?_⟩
  rintro i m H ⟨rfl, hi, Sh, s, acc, accD, b, x, hH, r, hn, hwp, he⟩
  have gi : G Sh H := hG _ _ _ _ g0 (x.stays b0) x.mem
  have npO : ∀ {env : MP.Env} {σ : L2.St}, (Owns env σ p → Owns s0.env σw p) → ¬ Owns env σ p := fun k q => b0.ownSome (k q) hp
  by_cases hlt : i < ds.length
  · refine .inr ⟨hJ.go i Sh H gi hlt, W (i + 1) (ds.length - (i + 1)), fun H' q => ⟨_, by omega, q⟩, fun v H' y => ?_⟩
    obtain ⟨b1, x1, hd⟩ := hJ.yld i Sh s σw H v H' gi b y hlt
    have hds : ds.drop i = ds[i] :: ds.drop (i + 1) := List.drop_eq_getElem_cons hlt
    rw [hds] at he
    have rd : DR K Sh B.st H' v ds[i] := hd _ (List.getElem?_eq_getElem hlt)
    have hH' : H' p = some (.lst acc) := x1.mem _ _ hH stp
    have r' : DRs K Sh B.st H' acc accD := r.mono (x1.stays b)
    have xx : Stp B σw s0.env Sh0 H1 s.env Sh H' := b1.tr x x1
    rw [compR] at he
    cases ha : asgT tg ds[i] s.env with
    | none => rw [ha] at he; exact he.elim
    | some env1 =>
      rw [ha] at he
      dsimp only at he
      refine ⟨Sh, s, ds[i], env1, b1, rd, ha, fun σ2 b2 o2 => ⟨?_, ?_⟩⟩
      · rw [(o2.mono hv).wipe]; exact hws
      have hw2 : wipe σ2 own = σw := by rw [(o2.mono hv).wipe]; exact hws
      refine ⟨Sh, { s with env := env1 }, b2, (EndC.bndx he).imp fun c s3 Sh3 H3 b3 x3 he3 => ?_⟩
      have stH : ∀ {H5 : Hp}, (∀ a o, H' a = some o → B.st ≠ some a → H5 a = some o) → H5 p = some (.lst acc) := fun k => k _ _ hH' stp
      -- back at the start of the next turn
      have next : ∀ {s5 : S} {Sh5 : Addr → Prop} {H5 : Hp} {acc5 : List V} {accD5 : List D}, BI K B Sh5 s5 σ2 H5 → Stp B σ2 env1 Sh H' s5.env Sh5 H5 → DRs K Sh5 B.st H5 acc5 accD5 →
          EndC K B σw s0.env Sh0 H1 p Qd (compR own tg cond (fun s => oneR (elt s)) (ds.drop (i + 1)) accD5 { s5 with env := wipeE s5.env own }) → ∀ H6, (H6 = H5 ∧ H5 p = some (.lst acc5)) ∨ H6 = upd H5 p (.lst acc5) → W (i + 1) (ds.length - (i + 1)) H6 := by
        intro s5 Sh5 H5 acc5 accD5 b5 x5 r5 he5 H6 h6
        have b6 : BI K B Sh5 { s5 with env := wipeE s5.env own } σw H5 := by rw [← hw2]; exact b5.wipe own
        have x6 : Stp B σw s.env Sh H' (wipeE s5.env own) Sh5 H5 := Stp.turn ha hv hwp o2 x5
        have x7 : Stp B σw s0.env Sh0 H1 (wipeE s5.env own) Sh5 H5 := b6.tr xx x6
        have hn5 : ¬ Sh5 p := fun q => by
          rcases x6.new p q with q | q | q
          · exact hn q
          · rw [hH'] at q; cases q
          · exact npO (fun q => x.owns0 q) q
        have hwp6 : wipeE (wipeE s5.env own) own = wipeE s5.env own := by
          apply List.ext_getElem?
          intro j
          by_cases hj : j ∈ own
          · cases q1 : (wipeE (wipeE s5.env own) own)[j]? with
            | none =>
              have : (wipeE s5.env own).length ≤ j := by
                have := List.getElem?_eq_none_iff.mp q1
                rwa [wipeE_len] at this
              rw [List.getElem?_eq_none this]
            | some z1 =>
              cases z1 with
              | some w1 => exact absurd q1 (wipeE_in hj)
              | none =>
                have hjl : j < (wipeE s5.env own).length := by
                  have := (List.getElem?_eq_some_iff.mp q1).1
                  rwa [wipeE_len] at this
                rw [List.getElem?_eq_getElem hjl]
                cases q2 : (wipeE s5.env own)[j] with
                | none => rfl
                | some w2 => exact absurd (by rw [List.getElem?_eq_getElem hjl, q2]) (wipeE_in (env := s5.env) (x := w2) hj)
          · rw [wipeE_out hj]
        rcases h6 with ⟨rfl, h6⟩ | rfl
        · exact ⟨rfl, hlt, Sh5, _, acc5, accD5, b6, x7, h6, r5, hn5, hwp6, he5⟩
        · have hp5 : H5 p = some (.lst acc) := stH x5.mem
          obtain ⟨b8, y8⟩ := b6.updFree (ys := acc5) hp5 h0p hn5 stp (npO fun q => x7.owns0 q)
          refine ⟨rfl, hlt, Sh5, _, acc5, accD5, b8, ⟨x7.le, x7.sub, x7.new, fun a o e q => ?_⟩, upd_same, r5.mono y8, hn5, hwp6, he5⟩
          rw [upd_ne]
          · exact x7.mem a o e q
          · rintro rfl; rw [hp] at e; cases e
      cases c with
      | false =>
        rw [if_neg Bool.false_ne_true] at he3
        show if false = true then _ else W (i + 1) (ds.length - (i + 1)) H3
        rw [if_neg Bool.false_ne_true]
        exact next b3 x3 (r'.mono (x3.stays b2)) he3 H3 (.inl ⟨rfl, stH x3.mem⟩)
      | true =>
        rw [if_pos rfl] at he3
        show if true = true then _ else W (i + 1) (ds.length - (i + 1)) H3
        rw [if_pos rfl]
        refine ⟨Sh3, s3, b3, ?_⟩
        have he4 := EndC.one (XC := XC) (σ := σ2) (s := s3) (Sh := Sh3) (H := H3) he3
        refine he4.imp fun o s4 Sh4 H4 b4 x4 he6 v4 r4 f4 => ?_
        obtain ⟨Sh5, b5, k5, r5⟩ := b4.consume r4
        have x34 : Stp B σ2 env1 Sh H' s4.env Sh4 H4 := b4.tr x3 x4
        have x5 : Stp B σ2 env1 Sh H' (consume o s4).2.env Sh5 H4 := k5 _ _ _ x34 (r4.back x3.mem f4)
        have ra : DRs K Sh5 B.st H4 acc accD := r'.mono (x5.stays b2)
        split at he6
        · rename_i hlen
          refine ⟨acc, stH x5.mem, ?_, next b5 x5 (ra.append (.cons r5 .nil)) he6 _ (.inr rfl)⟩
          rw [ra.length]
          exact Nat.lt_of_lt_of_le hlen sizeLN
        · exact he6.elim
  · have hie : i = ds.length := by omega
    subst hie
    refine .inl ⟨hJ.stop _ Sh H gi rfl, ?_⟩
    rw [List.drop_length, compR] at he
    exact he Sh H acc b x hH r hn
end
end MP
set_option Elab.async false
set_option linter.all false
set_option maxRecDepth 100000
/-! Expressions: their forms, and that a run is borne out. -/
namespace MP
open PySem PySem.Spec PyProof.Rows L2

/-! ### truth -/
theorem outR_true (r : Option Rs) (s : S) : outR true r s = bnd (outR false r s) fun o s => tr true o s := by
  cases r with
  | none => rfl
  | some rs => cases rs <;> rfl
theorem tr_bl (b : Bool) (s : S) : tr true (.val (.bl b)) s = .ok (.val (.bl b)) s := rfl
theorem tr_tr (o : Opd) (s : S) : bnd (tr true o s) (fun o s => tr true o s) = tr true o s := by
  simp only [tr, if_true]
  cases truthD o.d <;> rfl
theorem bnd_congr {α β : Type} (r : R α) {f g : α → S → R β} (h : ∀ a s, f a s = g a s) : bnd r f = bnd r g := by
  cases r <;> simp [bnd, h]
theorem bndx_bnd {α β γ : Type} (r : R α) (f : α → S → R β) (g : β → S → R γ) : bnd (bndx r f) g = bndx r fun a s => bnd (f a s) g := by
  cases r <;> rfl
theorem bndx_congr {α β : Type} (r : R α) {f g : α → S → R β} (h : ∀ a s, f a s = g a s) : bndx r f = bndx r g := by
  cases r <;> simp [bndx, h]
theorem tr_false (o : Opd) (s : S) : tr false o s = .ok o s := rfl
theorem truth_tr (o : Opd) (s : S) : tr true o s = match truthD o.d with | some b => .ok (.val (.bl b)) s | none => .stuck := rfl
mutual
theorem ev_true (cx : Cxt) : ∀ (m : ME) (s : S), ev cx true m s = bnd (ev cx false m s) fun o s => tr true o s
  | .var i, s => by
    simp only [ev]
    split <;> rfl
  | .cI i, s => rfl
  | .cB i, s => rfl
  | .cN, s => rfl
  | .cS i, s => rfl
  | .glob g, s => by
    simp only [ev]
    split <;> rfl
  | .stG i k, s => by
    simp only [ev]
    split
    · split <;> rfl
    · rfl
  | .op o es, s => by
    simp only [ev, bnd_assoc]
    exact bnd_congr _ fun a s => outR_true _ _
  | .tup es, s => by
    simp only [ev, bnd_assoc]
    refine bnd_congr _ fun a s => ?_
    split <;> rfl
  | .lst es, s => by
    simp only [ev, bnd_assoc]
    refine bnd_congr _ fun a s => ?_
    split <;> rfl
  | .call f es, s => by
    simp only [ev, bnd_assoc]
    refine bnd_congr _ fun a s => ?_
    refine bnd_congr _ fun o s => ?_
    rfl
  | .andL es, s => by
    simp only [ev]
    exact evAnd_true cx es s
  | .orL es, s => by
    simp only [ev]
    exact evOr_true cx es s
  | .not a, s => by
    simp only [ev, bnd_assoc]
    refine bnd_congr _ fun o s => ?_
    split <;> rfl
  | .ife c a b, s => by
    simp only [ev, bnd_assoc]
    refine bnd_congr _ fun o s => ?_
    split
    · exact ev_true cx a s
    · exact ev_true cx b s
    · rfl
  | .chain o1 o2 a b c, s => by
    simp only [ev, bnd_assoc]
    refine bnd_congr _ fun x s => bnd_congr _ fun y s => ?_
    split
    · rfl
    · rw [bnd_assoc]
      exact bnd_congr _ fun z s => outR_true _ _
    · rfl
  | .slc a l u, s => by
    simp only [ev, bnd_assoc]
    refine bnd_congr _ fun x s => bnd_congr _ fun y s => ?_
    split
    · rw [bnd_assoc]
      refine bnd_congr _ fun z s => ?_
      split
      · exact outR_true _ _
      · rfl
    · rfl
  | .join c a, s => by
    simp only [ev, bnd_assoc]
    exact bnd_congr _ fun z s => outR_true _ _
  | .isi a tys, s => by
    simp only [ev, bnd_assoc]
    refine bnd_congr _ fun o s => ?_
    split <;> rfl
  | .comp own elt tg src cond, s => by
    simp only [ev, bnd_assoc]
    refine bnd_congr _ fun ds s => ?_
    split
    · rw [bndx_bnd]
      exact bndx_congr _ fun xs s1 => rfl
    · rfl
  | .comp2 own own2 elt tg src tg2 src2 cond, s => by
    simp only [ev, bnd_assoc]
    refine bnd_congr _ fun ds s => ?_
    split
    · rw [bndx_bnd]
      exact bndx_congr _ fun xs s1 => rfl
    · rfl
  | .dnew, s => rfl
theorem evAnd_true (cx : Cxt) : ∀ (es : List ME) (s : S), evAnd cx true es s = bnd (evAnd cx false es s) fun o s => tr true o s
  | [], s => rfl
  | [e], s => by
    simp only [evAnd]
    exact ev_true cx e s
  | e :: e2 :: r, s => by
    rw [evAnd, evAnd]
    rw [ev_true cx e s, bnd_assoc, bnd_assoc]
    refine bnd_congr _ fun o s => ?_
    rw [truth_tr]
    cases q : truthD o.d with
    | none => rfl
    | some b => cases b with
      | true => exact evAnd_true cx (e2 :: r) s
      | false =>
        show R.ok (Opd.val (D.bl false)) s = tr true o s
        rw [truth_tr, q]
theorem evOr_true (cx : Cxt) : ∀ (es : List ME) (s : S), evOr cx true es s = bnd (evOr cx false es s) fun o s => tr true o s
  | [], s => rfl
  | [e], s => by
    simp only [evOr]
    exact ev_true cx e s
  | e :: e2 :: r, s => by
    rw [evOr, evOr]
    rw [ev_true cx e s, bnd_assoc, bnd_assoc]
    refine bnd_congr _ fun o s => ?_
    rw [truth_tr]
    cases q : truthD o.d with
    | none => rfl
    | some b => cases b with
      | false => exact evOr_true cx (e2 :: r) s
      | true =>
        show R.ok (Opd.val (D.bl true)) s = tr true o s
        rw [truth_tr, q]
end

/-! ### more of what is known of an end -/
section
variable {α β : Type} {K : PySem.W.Frag} {B : Bs} {XC : Nat → Addr} {W : WX} {σ : L2.St} {s s1 : S} {Sh Sh1 : Addr → Prop} {H H1 : Hp}
theorem RP.from_ {r : R α} {P : α → S → (Addr → Prop) → Hp → Prop} (x : Stp B σ s.env Sh H s1.env Sh1 H1) (h : RP K B XC W σ s Sh H r P) : RP K B XC W σ s1 Sh1 H1 r P := by
  cases r with
  | ok a s2 => exact fun Sh2 H2 b2 x2 => h Sh2 H2 b2 (b2.tr x x2)
  | exc c s2 => exact fun Sh2 H2 b2 x2 => h Sh2 H2 b2 (b2.tr x x2)
  | stuck => exact h
theorem RP.bnd0 {r : R α} {f : α → S → R β} {P : β → S → (Addr → Prop) → Hp → Prop} (h : RP K B XC W σ s Sh H (MP.bnd r f) P) : RP K B XC W σ s Sh H r fun a s1 _ _ => RP K B XC W σ s Sh H (f a s1) P := by
  cases r with
  | ok a s2 => exact fun _ _ _ _ => h
  | exc c s2 => exact h
  | stuck => exact h
theorem RP.one {r : R Opd} {f : D → S → R β} {P : β → S → (Addr → Prop) → Hp → Prop} (h : RP K B XC W σ s Sh H (MP.bnd (oneR r) f) P) : RP K B XC W σ s Sh H r fun o s1 _ _ => RP K B XC W σ s Sh H (f (consume o s1).1 (consume o s1).2) P := by
  cases r with
  | ok a s2 => exact fun _ _ _ _ => h
  | exc c s2 => exact h
  | stuck => exact h
end
theorem rr_tru {K : PySem.W.Frag} {Sh : Addr → Prop} {st : Option Addr} {H : Hp} {v : V} {d : D} {b : Bool} (r : RR K Sh st H v d) (h : truthD d = some b) : TruV K v H b := by
  cases d <;> (try (simp [truthD] at h; done))
  · cases r.non; simp only [truthD] at h; cases h; rfl
  · cases r.bl; simp only [truthD] at h; cases h; rfl
  · cases r.int; simp only [truthD] at h; cases h; rfl
  · rename_i x
    cases r.str
    simp only [truthD] at h
    split at h
    · rename_i hl
      cases h
      refine ⟨Nat.le_trans hl sizeLN, ?_⟩
      have : ((x.length : Int) != 0) = (x.length != 0) := by
        by_cases q : x.length = 0
        · rw [q]; rfl
        · have q' : (x.length : Int) ≠ 0 := by omega
          rw [bne_iff_ne.mpr q, bne_iff_ne.mpr q']
      exact this.symm
    · cases h
  · obtain ⟨a, xs, rfl, h1, h2⟩ := r.lst
    simp only [truthD] at h
    cases h
    refine .inl ⟨xs, .of h1, ?_⟩
    cases h2 <;> rfl
  · obtain ⟨a, xs, rfl, h1, h2⟩ := r.tup
    simp only [truthD] at h
    cases h
    refine .inr (.inl ⟨xs, h1, ?_⟩)
    cases h2 <;> rfl

/-! ### types -/
def tyS : Ty → String
  | .int => "int" | .bool => "bool" | .tuple => "tuple" | .str => "str" | .list => "list"
def tyN : D → Option String
  | .non => some "NoneType" | .bl _ => some "bool" | .int _ => some "int" | .str _ => some "str" | .lst _ => some "list" | .tup _ => some "tuple" | .dct _ => some "dict"
  | _ => none
theorem rr_ty {K : PySem.W.Frag} {Sh : Addr → Prop} {st : Option Addr} {H : Hp} {v : V} {d : D} {nm : String} (r : RR K Sh st H v d) (h : tyN d = some nm) : TyX K H v (.type nm) := by
  cases d <;> simp [tyN] at h <;> subst h
  · cases r.non; exact .base .non
  · cases r.bl; exact .base (.bl _)
  · cases r.int; exact .base (.int _)
  · cases r.str; exact .base (.str _)
  · obtain ⟨a, xs, rfl, h1, h2⟩ := r.lst
    exact .base (.lst h1)
  · obtain ⟨a, xs, rfl, h1, h2⟩ := r.tup
    rcases h1 with (h1 | ⟨o, h1⟩) | ⟨o, its, n, h1, h3, _⟩
    · exact .base (.tup h1)
    · exact .fTuple h1
    · exact .kTuple h1 h3
  · obtain ⟨a, rfl, ⟨kvs, h1, h2⟩ | ⟨kvs, h1, h2⟩⟩ := r.dct
    · exact .base (.dK h1)
    · exact .base (.dT h1)
theorem kit_tab : (["NoneType", "bool", "int", "str", "list", "tuple", "dict"].all fun a => [Ty.int, .bool, .tuple, .str, .list].all fun t =>
    kitB a (tyS t) == some (a == tyS t || (a == "bool" && t == .int))) = true := by decide +kernel
theorem kit_D {K : PySem.W.Frag} {d : D} {nm : String} {t : Ty} {b : Bool} (h : tyN d = some nm) (e : isTy d t = some b) : PySem.W.kitOne K (.type nm) (.type (tyS t)) = some b := by
  have ht : t ∈ [Ty.int, .bool, .tuple, .str, .list] := by cases t <;> simp
  have key : ∀ a, a ∈ ["NoneType", "bool", "int", "str", "list", "tuple", "dict"] → kitB a (tyS t) = some (a == tyS t || (a == "bool" && t == .int)) := fun a ha => by
    have := List.all_eq_true.mp (List.all_eq_true.mp kit_tab a ha) t ht
    exact eq_of_beq this
  refine kit_ty ?_
  cases d <;> simp only [tyN, Option.some.injEq] at h <;> (try cases h) <;> simp only [isTy, Option.some.injEq] at e <;> subst e <;> (rw [key _ (by simp)]; cases t <;> decide)
theorem isTys_ty {d : D} {t : Ty} {ts : List Ty} {b : Bool} (h : isTys d (t :: ts) = some b) : ∃ nm, tyN d = some nm := by
  cases d <;> first | exact ⟨_, rfl⟩ | (simp [isTys, isTy] at h)
theorem kit_Ds {K : PySem.W.Frag} {d : D} {nm : String} (h : tyN d = some nm) : ∀ {ts : List Ty} {b : Bool}, isTys d ts = some b → PySem.W.kitAny K (.type nm) (ts.map fun t => Value.type (tyS t)) = some b
  | [], b, e => by simp only [isTys] at e; cases e; rfl
  | t :: ts, b, e => by
    simp only [isTys, Option.bind_eq_some_iff] at e
    obtain ⟨c, e1, e2⟩ := e
    refine kitAny_cons (kit_D h e1) (fun q => ?_) (fun q => ?_)
    · subst q
      exact kit_Ds h (by simpa using e2)
    · subst q
      simpa using e2.symm
end MP
set_option Elab.async false
set_option linter.all false
set_option maxRecDepth 100000
/-! The forms of expressions and the main theorem about them. -/
namespace MP
open PySem PySem.Spec PyProof.Rows L2

def tyNm : Ty → Str
  | .int => "int" | .bool => "bool" | .tuple => "tuple" | .str => "str" | .list => "list"
def mNm (sc : Scope) (t : Ty) (e : Expr) : Bool := match e with
  | .Name x _ => decide (x = tyNm t) && glB sc x
  | _ => false
def mNms (sc : Scope) : List Ty → List Expr → Bool
  | [], [] => true
  | t :: ts, e :: es => mNm sc t e && mNms sc ts es
  | _, _ => false
def mTy (sc : Scope) (tys : List Ty) (e : Expr) : Bool := match tys with
  | [t] => mNm sc t e
  | ts => match e with
    | .Tuple es _ _ => decide (ts.length ≤ 8 ∧ ts ≠ []) && mNms sc ts es
    | _ => false
def cmpOf : Op → Option CmpOp
  | .eq => some .Eq | .ne => some .NotEq | .lt => some .Lt | .le => some .LtE | .gt => some .Gt | .ge => some .GtE
  | .is => some .Is | .isn => some .IsNot | .mem => some .In | .nmem => some .NotIn
  | _ => none
def ownP (N : List Str) (own : List Nat) : List (Str × Nat) := own.map fun i => (N.getD i "", i)
def fnC (scope : Scope) : Str → Bool := fun x => scope.names.lookup x == some .cell
def isTup : Expr → Bool
  | .Tuple _ _ _ => true
  | _ => false
mutual
def mE (T : Tab) (N : List Str) (sc : Scope) : ME → Expr → Bool
  | .var i, e => match e with
    | .Name x _ => decide (N[i]? = some x) && visB sc x && !(x == ("__debug__" : Str)) && !(x == ("__classdict__" : Str))
    | _ => false
  | .cI i, e => match e with
    | .Constant (.int j) _ _ => decide (j = i)
    | _ => false
  | .cB b, e => match e with
    | .Constant (.bool c) _ _ => decide (c = b)
    | _ => false
  | .cN, e => match e with
    | .Constant .none _ _ => true
    | _ => false
  | .cS x, e => match e with
    | .Constant (.str y) _ _ => decide (y = x)
    | _ => false
  | .glob g, e => match e with
    | .Name x _ => decide ((T.gls.lookup g).map (·.1) = some x) && glB sc x
    | _ => false
  | .op o es, e => match mOp sc o e with
    | some as => mEs T N sc es as
    | none => false
  | .tup es, e => match e with
    | .Tuple as _ _ => as.all okE && mEs T N sc es as
    | _ => false
  | .lst es, e => match e with
    | .List as _ => as.all okE && mEs T N sc es as
    | _ => false
  | .call f es, e => match e with
    | .Call (.Name x _) as [] _ => decide (T.nameOf f = some x) && glB sc x && as.all okE && !as.isEmpty && mEs T N sc es as
    | _ => false
  | .andL es, e => match e with
    | .BoolOp .And as _ => mEs T N sc es as
    | _ => false
  | .orL es, e => match e with
    | .BoolOp .Or as _ => mEs T N sc es as
    | _ => false
  | .not a, e => match e with
    | .UnaryOp .Not x _ => mE T N sc a x
    | _ => false
  | .ife c a b, e => match e with
    | .IfExp x y z _ => mE T N sc c x && mE T N sc a y && mE T N sc b z
    | _ => false
  | .chain o1 o2 a b c, e => match e with
    | .Compare x [p, q] [y, z] _ => decide (cmpOf o1 = some p) && decide (cmpOf o2 = some q) && okE z && mE T N sc a x && mE T N sc b y && mE T N sc c z
    | _ => false
  | .slc a l u, e => match e with
    | .Subscript x (.Slice (some y) (some z) none _) _ => mE T N sc a x && mE T N sc l y && mE T N sc u z
    | _ => false
  | .join c a, e => match e with
    | .Call (.Attribute (.Constant (.str d) _ _) m apos) [x] [] pos => decide (d = c) && decide (m = "join") && okE x && (apos.endLine == pos.line) && mE T N sc a x
    | _ => false
  | .isi a tys, e => match e with
    | .Call (.Name x _) [y, z] [] _ => decide (x = "isinstance") && glB sc x && okE y && okE z && mTy sc tys z && mE T N sc a y
    | _ => false
  | .comp own elt tg src cond, e => match e with
    | .ListComp x [⟨t, it, ifs, k⟩] scope _ => decide (k = 0) && blkC N sc scope (ownP N own) && decide ((ownP N own).map (·.2) = own) && mT N (relS scope sc) (fnC scope) tg t && (slotsT tg).all (fun i => own.contains i) &&
        okE it && mI T N sc src t it && mE T N (relS scope sc) elt x && mO T N (relS scope sc) cond ifs
    | _ => false
  | .comp2 _ _ _ _ _ _ _ _, _ => false
  | .dnew, e => match e with
    | .Dict [] [] _ => true
    | _ => false
  | .stG i k, e => match e with
    | .Subscript (.Name x _) (.Constant (.int j) _ _) _ => decide (N[i]? = some x) && visB sc x && !(x == ("__debug__" : Str)) && !(x == ("__classdict__" : Str)) && decide (j = (k : Int))
    | _ => false
def mEs (T : Tab) (N : List Str) (sc : Scope) : List ME → List Expr → Bool
  | [], as => as.isEmpty
  | m :: ms, as => match as with
    | [] => false
    | a :: r => mE T N sc m a && mEs T N sc ms r
def mI (T : Tab) (N : List Str) (sc : Scope) : MI → Expr → Expr → Bool
  | .seq m, _, e => mE T N sc m e
  | .rng1 m, _, e => match c1 sc "range" e with
    | some [a] => mE T N sc m a
    | _ => false
  | .rng2 m m', _, e => match c2 sc "range" e with
    | some [a, b] => mE T N sc m a && mE T N sc m' b
    | _ => false
  | .enum m, t, e => isTup t && (match c1 sc "enumerate" e with
    | some [a] => mE T N sc m a
    | _ => false)
  | .zip m m', t, e => isTup t && (match c2 sc "zip" e with
    | some [a, b] => mE T N sc m a && mE T N sc m' b
    | _ => false)
  | .items _, _, _ => false
def mO (T : Tab) (N : List Str) (sc : Scope) : Option ME → List Expr → Bool
  | none, ifs => ifs.isEmpty
  | some m, ifs => match ifs with
    | [c] => mE T N sc m c
    | _ => false
end
end MP
set_option Elab.async false
set_option linter.all false
set_option maxRecDepth 100000
/-! The main theorem about expressions. -/
namespace MP
open PySem PySem.Spec PyProof.Rows L2

section
variable {T : Tab} {n : Nat} {B : Bs} {XC : Nat → Addr} {W : WX} {X : Cx} {sc : Scope} {cx : Cxt} {σ : L2.St} {s : S} {Sh : Addr → Prop} {H H1 : Hp} {Q : VK}
theorem PV.shift {K : PySem.W.Frag} {o : Opd} {s' : S} {Sh' : Addr → Prop} {H' : Hp} (m : ∀ a u, H a = some u → B.st ≠ some a → H1 a = some u) (h : PV K B σ H Q o s' Sh' H') : PV K B σ H1 Q o s' Sh' H' := fun v r f => h v r (r.back m f)
/-- a test that is no special form -/
theorem pt_plain {f : S → R Opd} {e : Expr} (h : PE X e (tE X B XC W f)) (hp : ∀ whole, isTrue e X.env whole = (do let v ← whole; standAt e.pos; holding [v] (truthy v))) : PT X e (tT X.K B XC W fun s => bnd (f s) fun o s => tr true o s) := by
  refine ptM (pt_truth h hp) fun σ H Q q => ?_
  obtain ⟨Sh, s, b, q⟩ := q
  refine ⟨Sh, s, b, (RP.bnd q).imp fun o s1 Sh1 H1 b1 x1 h1 v r f => ?_⟩
  rw [truth_tr] at h1
  cases k : truthD o.d with
  | none => rw [k] at h1; exact h1.elim
  | some c =>
    rw [k] at h1
    exact ⟨c, rr_tru (r.rr b1) k, RP.ok b1 h1⟩
theorem pt_cmq {f f' : S → R Opd} {g : List D → Option Rs} {op : CmpOp} {a b : Expr} {pos : Pos} (ho : OpR X (compareOp op) (rD2 X.K B g)) (hg : ∀ ds rs, g ds = some rs → ∃ b, rs = .v (.bl b)) (ha : PE X a (tE X B XC W f)) (hb : PE X b (tE X B XC W f')) (hm : behindInMarks op b = false) :
    PT X (.Compare a [op] [b] pos) (tT X.K B XC W fun s => bnd (run2 f f' g s) fun o s => tr true o s) := by
  refine ptM (pt_cmpR ho ha hb hm) fun σ H Q q => ?_
  refine tm2 (Q := fun x H' => ∃ k, x = .bl k ∧ Q k H') (fun Sh s σ H v v' o o' rs Q b r r' e q => ⟨Sh, s, σ, _, _, rs, b, r.rr b, r'.rr b, e, q⟩) ?_
  obtain ⟨Sh, s, b, q⟩ := q
  refine ⟨Sh, s, b, ?_⟩
  revert q
  have key : ∀ o s1, run2 f f' g s = .ok o s1 → ∃ c, o = .val (.bl c) := by
    intro o s1 e
    unfold run2 at e
    cases e1 : f s with
    | exc _ _ => rw [e1] at e; cases e
    | stuck => rw [e1] at e; cases e
    | ok x s2 =>
      rw [e1] at e
      cases e2 : f' s2 with
      | exc _ _ => simp only [bnd, e2] at e; cases e
      | stuck => simp only [bnd, e2] at e; cases e
      | ok y s3 =>
        simp only [bnd, e2] at e
        cases e3 : g [x.d, y.d] with
        | none => rw [e3] at e; cases e
        | some rs =>
          obtain ⟨c, rfl⟩ := hg _ _ e3
          rw [e3] at e
          cases e
          exact ⟨c, rfl⟩
  intro q
  have q : RP X.K B XC W σ s Sh H (bnd (run2 f f' g s) fun o s => tr true o s) _ := q
  cases e : run2 f f' g s with
  | exc c s1 => rw [e] at q; exact q
  | stuck => rw [e] at q; exact q
  | ok o s1 =>
    obtain ⟨c, rfl⟩ := key o s1 e
    rw [e] at q
    intro Sh' H' b' x' v r _
    cases r
    exact ⟨c, rfl, q Sh' H' b' x'⟩
theorem eqB_bl {neg : Bool} {ds : List D} {rs : Rs} (h : eqB neg ds = some rs) : ∃ b, rs = .v (.bl b) := by
  unfold eqB at h
  split at h
  · split at h
    · cases h; exact ⟨_, rfl⟩
    · cases h
  · cases h
theorem cmpI_bl {p : Int → Int → Bool} {ds : List D} {rs : Rs} (h : cmpI p ds = some rs) : ∃ b, rs = .v (.bl b) := by
  obtain ⟨i, j, rfl, e⟩ := ints2 h
  cases e; exact ⟨_, rfl⟩
theorem isB_bl {neg : Bool} {ds : List D} {rs : Rs} (h : isB neg ds = some rs) : ∃ b, rs = .v (.bl b) := by
  unfold isB at h
  split at h
  · simp only [Option.map_eq_some_iff] at h
    obtain ⟨c, _, e⟩ := h
    exact ⟨_, e.symm⟩
  · cases h; exact ⟨_, rfl⟩
  · cases h
theorem memB_bl {neg : Bool} {ds : List D} {rs : Rs} (h : memB neg ds = some rs) : ∃ b, rs = .v (.bl b) := by
  unfold memB at h
  split at h
  · split at h
    · cases h; exact ⟨_, rfl⟩
    · cases h
  · split at h
    · cases h; exact ⟨_, rfl⟩
    · cases h
  · cases h
/-- the comparisons -/
theorem ro_all (g : GX T n B XC W X sc) {o : Op} {p : CmpOp} (h : cmpOf o = some p) : OpR X (compareOp p) (rD2 X.K B (opD o)) ∧ ∀ ds rs, opD o ds = some rs → ∃ b, rs = .v (.bl b) := by
  have hu64 : X.A.units + 64 < cLine := g.room.units
  have hu65 : X.A.units + 65 < cLine := by have := g.room.un; omega
  cases o <;> (try (cases h; done)) <;> cases h
  · exact ⟨ro_eq hu64, fun _ _ => eqB_bl⟩
  · exact ⟨ro_ne hu64, fun _ _ => eqB_bl⟩
  · exact ⟨ro_cmp op_lt, fun _ _ => cmpI_bl⟩
  · exact ⟨ro_cmp op_le, fun _ _ => cmpI_bl⟩
  · exact ⟨ro_cmp op_gt, fun _ _ => cmpI_bl⟩
  · exact ⟨ro_cmp op_ge, fun _ _ => cmpI_bl⟩
  · exact ⟨ro_is, fun _ _ => isB_bl⟩
  · exact ⟨ro_isn, fun _ _ => isB_bl⟩
  · exact ⟨ro_mem hu65, fun _ _ => memB_bl⟩
  · exact ⟨ro_nmem hu65, fun _ _ => memB_bl⟩
theorem mOp_cmp {o : Op} {p : CmpOp} {e : Expr} {as : List Expr} (h : cmpOf o = some p) (k : mOp sc o e = some as) : q2 p e = some as := by
  cases o <;> (try (cases h; done)) <;> cases h <;> exact k
theorem mOp_plain {o : Op} {e : Expr} {as : List Expr} (h : cmpOf o = none) (k : mOp sc o e = some as) : okE e = true ∧ ∀ (env : PySem.Env) whole, isTrue e env whole = (do let v ← whole; standAt e.pos; holding [v] (truthy v)) := by
  have c1k : ∀ {x}, c1 sc x e = some as → okE e = true ∧ ∀ (env : PySem.Env) whole, isTrue e env whole = (do let v ← whole; standAt e.pos; holding [v] (truthy v)) := fun k => by
    obtain ⟨a, p, pos, rfl, _⟩ := inv_c1 k
    exact ⟨rfl, fun _ _ => rfl⟩
  have c2k : ∀ {x}, c2 sc x e = some as → okE e = true ∧ ∀ (env : PySem.Env) whole, isTrue e env whole = (do let v ← whole; standAt e.pos; holding [v] (truthy v)) := fun k => by
    obtain ⟨a, b, p, pos, rfl, _⟩ := inv_c2 k
    exact ⟨rfl, fun _ _ => rfl⟩
  have b2k : ∀ {x}, b2 x e = some as → okE e = true ∧ ∀ (env : PySem.Env) whole, isTrue e env whole = (do let v ← whole; standAt e.pos; holding [v] (truthy v)) := fun k => by
    obtain ⟨a, b, pos, rfl, _⟩ := inv_b2 k
    exact ⟨rfl, fun _ _ => rfl⟩
  cases o with
  | slice lo hi =>
    unfold mOp at k
    cases lo <;> cases hi <;> dsimp only at k <;> (try (cases k; done)) <;> (split at k <;> (try (cases k; done))) <;> exact ⟨rfl, fun _ _ => rfl⟩
  | neg =>
    unfold mOp at k
    dsimp only at k
    split at k
    · exact ⟨rfl, fun _ _ => rfl⟩
    · cases k
  | ix =>
    unfold mOp at k
    dsimp only at k
    split at k
    · exact ⟨rfl, fun _ _ => rfl⟩
    · cases k
  | rev =>
    unfold mOp at k
    dsimp only at k
    split at k
    · exact ⟨rfl, fun _ _ => rfl⟩
    · cases k
  | add => exact b2k k
  | sub => exact b2k k
  | mul => exact b2k k
  | fdiv => exact b2k k
  | mod => exact b2k k
  | pow => exact b2k k
  | len => exact c1k k
  | int => exact c1k k
  | abs => exact c1k k
  | max2 => exact c2k k
  | min2 => exact c2k k
  | maxL => exact c1k k
  | minL => exact c1k k
  | sum => exact c1k k
  | strI => exact c1k k
  | tupL => exact c1k k
  | lstL => exact c1k k
  | join => cases k
  | repEq => cases k
  | get => cases k
  | _ => cases h

/-! ### and, or -/
theorem ev_bl {m : ME} {s s1 : S} {o : Opd} (h : ev cx true m s = .ok o s1) : ∃ c, o = .val (.bl c) := by
  rw [ev_true] at h
  cases e : ev cx false m s with
  | exc _ _ => rw [e] at h; cases h
  | stuck => rw [e] at h; cases h
  | ok o' s2 =>
    rw [e] at h
    simp only [bnd, truth_tr] at h
    split at h
    · cases h; exact ⟨_, rfl⟩
    · cases h
theorem RP.bl {K : PySem.W.Frag} {m : ME} {P : Opd → S → (Addr → Prop) → Hp → Prop} (h : RP K B XC W σ s Sh H (ev cx true m s) P) : RP K B XC W σ s Sh H (ev cx true m s) fun o s' Sh' H' => ∃ c, o = .val (.bl c) ∧ P (.val (.bl c)) s' Sh' H' := by
  cases e : ev cx true m s with
  | exc _ _ => rw [e] at h; exact h
  | stuck => rw [e] at h; exact h
  | ok o s1 =>
    obtain ⟨c, rfl⟩ := ev_bl e
    rw [e] at h
    exact fun Sh' H' b x => ⟨c, rfl, h Sh' H' b x⟩
inductive PBs (X : Cx) (B : Bs) (XC : Nat → Addr) (W : WX) (cx : Cxt) : List Expr → List ME → Prop
  | nil : PBs X B XC W cx [] []
  | cons {e : Expr} {es : List Expr} {m : ME} {ms : List ME} : okE e = true → PE X e (tE X B XC W (ev cx false m)) → PT X e (tT X.K B XC W (ev cx true m)) → PBs X B XC W cx es ms → PBs X B XC W cx (e :: es) (m :: ms)
theorem PBs.es : ∀ {es : List Expr} {ms : List ME}, PBs X B XC W cx es ms → PEs X B XC W cx es ms
  | _, _, .nil => .nil
  | _, _, .cons _ h _ t => .cons h t.es
theorem p_and {pos : Pos} : ∀ {es : List Expr} {ms : List ME}, PBs X B XC W cx es ms → es ≠ [] → PE X (.BoolOp .And es pos) (tE X B XC W (evAnd cx false ms)) ∧ PW X (.BoolOp .And es pos) (tT X.K B XC W (evAnd cx true ms))
  | _, _, .nil, h => absurd rfl h
  | _, _, .cons _ h1 h2 .nil, _ => ⟨peM (pe_one h1) fun σ H Q q => q, ⟨fun w pins s σ H Q I q => (pw_and1 h2).run w pins s σ H Q I q⟩⟩
  | _, _, .cons (m := m) _ h1 h2 (.cons (m := m2) (ms := ms) k3 h3 h4 t), _ => by
    obtain ⟨r1, r2⟩ := p_and (pos := pos) (.cons k3 h3 h4 t) (by simp)
    refine ⟨peM (pe_andT h1 r1) fun σ H Q q => ?_, ⟨fun w pins s σ H Q I q => (pw_and h2 r2).run w pins s σ H Q I ?_⟩⟩
    · obtain ⟨Sh, s, b, q⟩ := q
      rw [evAnd] at q
      refine ⟨Sh, s, b, (RP.bnd q).imp fun o s1 Sh1 H1 b1 x1 h1 v r f => ?_⟩
      cases k : truthD o.d with
      | none => rw [k] at h1; exact h1.elim
      | some c =>
        rw [k] at h1
        refine ⟨c, rr_tru (r.rr b1) k, ?_⟩
        cases c with
        | true =>
          rw [if_pos rfl]
          exact ⟨Sh1, s1, b1, h1.imp fun _ _ _ _ _ _ p => p.shift x1.mem⟩
        | false =>
          rw [if_neg Bool.false_ne_true]
          exact RP.ok b1 h1 v r f
    · obtain ⟨Sh, s, b, q⟩ := q
      rw [evAnd] at q
      refine ⟨Sh, s, b, (RP.bnd q).bl.imp fun o s1 Sh1 H1 b1 x1 h1 => ?_⟩
      obtain ⟨c, rfl, h1⟩ := h1
      cases c with
      | true =>
        show if true = true then _ else Q false H1
        rw [if_pos rfl]
        exact ⟨Sh1, s1, b1, h1⟩
      | false => exact RP.ok b1 h1
theorem p_or {pos : Pos} : ∀ {es : List Expr} {ms : List ME}, PBs X B XC W cx es ms → es ≠ [] → PE X (.BoolOp .Or es pos) (tE X B XC W (evOr cx false ms)) ∧ PW X (.BoolOp .Or es pos) (tT X.K B XC W (evOr cx true ms))
  | _, _, .nil, h => absurd rfl h
  | _, _, .cons _ h1 h2 .nil, _ => ⟨peM (pe_one h1) fun σ H Q q => q, ⟨fun w pins s σ H Q I q => (pw_or1 h2).run w pins s σ H Q I q⟩⟩
  | _, _, .cons (m := m) _ h1 h2 (.cons (m := m2) (ms := ms) k3 h3 h4 t), _ => by
    obtain ⟨r1, r2⟩ := p_or (pos := pos) (.cons k3 h3 h4 t) (by simp)
    refine ⟨peM (pe_orT h1 r1) fun σ H Q q => ?_, ⟨fun w pins s σ H Q I q => (pw_or h2 r2).run w pins s σ H Q I ?_⟩⟩
    · obtain ⟨Sh, s, b, q⟩ := q
      rw [evOr] at q
      refine ⟨Sh, s, b, (RP.bnd q).imp fun o s1 Sh1 H1 b1 x1 h1 v r f => ?_⟩
      cases k : truthD o.d with
      | none => rw [k] at h1; exact h1.elim
      | some c =>
        rw [k] at h1
        refine ⟨c, rr_tru (r.rr b1) k, ?_⟩
        cases c with
        | false =>
          rw [if_neg Bool.false_ne_true]
          exact ⟨Sh1, s1, b1, h1.imp fun _ _ _ _ _ _ p => p.shift x1.mem⟩
        | true =>
          rw [if_pos rfl]
          exact RP.ok b1 h1 v r f
    · obtain ⟨Sh, s, b, q⟩ := q
      rw [evOr] at q
      refine ⟨Sh, s, b, (RP.bnd q).bl.imp fun o s1 Sh1 H1 b1 x1 h1 => ?_⟩
      obtain ⟨c, rfl, h1⟩ := h1
      cases c with
      | false =>
        show if false = true then Q true H1 else _
        rw [if_neg Bool.false_ne_true]
        exact ⟨Sh1, s1, b1, h1⟩
      | true => exact RP.ok b1 h1

/-! ### argument lists, calls -/
theorem pa_evc : ∀ {es : List Expr} {ms : List ME}, PEs X B XC W cx es ms → es.all okE = true → PA X es (tAs X.K B XC W (evc cx ms))
  | _, _, .nil, _ => paM pa_nil fun σ H Q q => by
    obtain ⟨Sh, s, b, q⟩ := q
    exact RP.ok b q [] .nil
  | _, _, .cons h t, k => by
    simp only [List.all_cons, Bool.and_eq_true] at k
    refine paM (pa_cons h (pa_evc t k.2) (star_cons k.1)) fun σ H Q q => ?_
    obtain ⟨Sh, s, b, q⟩ := q
    simp only [evc] at q
    refine ⟨Sh, s, b, (RP.one q).imp fun o s1 Sh1 H1 b1 x1 h1 v r f => ?_⟩
    obtain ⟨Sh2, b2, k2, r2⟩ := b1.consume r
    have x2 := k2 _ _ _ x1 f
    refine ⟨Sh2, _, b2, (RP.bnd (h1.from_ x2)).imp fun ds s3 Sh3 H3 b3 x3 h3 vs rs => ?_⟩
    exact RP.ok b3 h3 _ (.cons (r2.mono (x3.stays b2)) rs)
theorem BI.call {st : Option Addr} {K : PySem.W.Frag} {Sh' : Addr → Prop} {H' : Hp} {w' : MP.W} (b : BI K B Sh s σ H) (k : Keeps B.st H H') (h1 : ∀ a, Sh a → Sh' a) (h2 : ∀ a, Sh' a → Sh a ∨ H a = none) (h3 : ShOK B.st Sh' H') (h4 : StOK Sh' B.st H' w') :
    BI K B Sh' ⟨s.env, w'⟩ σ H' ∧ Stp B σ s.env Sh H s.env Sh' H' := by
  have x : Stp B σ s.env Sh H s.env Sh' H' := ⟨.refl, h1, fun a q => (h2 a q).imp_right .inl, fun a o e q => k a o e q⟩
  have y := x.stays b
  refine ⟨⟨fun a o e q => k a o (b.keep a o e q) q, fun a q => h1 a (b.sh0 a q), fun a q => ?_, h3, h4, b.len, fun i d e => ?_, fun i d e => ?_, b.inj⟩, x⟩
  · rcases h2 a q with q | q
    · exact b.shN a q
    · exact .inr (b.h0 q)
  · obtain ⟨v, e1, e2⟩ := b.var i d e
    exact ⟨v, e1, e2.mono y⟩
  · obtain ⟨a, e1, e2, e3, e4, e5⟩ := b.own i d e
    refine ⟨a, e1, fun q => ?_, e3, e4, e5.mono y fun o q => k a o q e4⟩
    rcases h2 a q with q | q
    · exact e2 q
    · exact e5.some q
theorem pe_callM (g : GX T n B XC W X sc) {f : Nat} {x : Str} {p pos : Pos} {es : List Expr} {ms : List ME} (hn : T.nameOf f = some x) (hg : glB sc x = true) (P : PEs X B XC W ⟨callF T n, T.gl⟩ es ms) (ok : es.all okE = true) (ne : es ≠ []) :
    PE X (.Call (.Name x p) es [] pos) (tE X B XC W (ev ⟨callF T n, T.gl⟩ false (.call f ms))) := by
  cases es with
  | nil => exact absurd rfl ne
  | cons e es =>
    obtain ⟨a, fdt, ps, h1, h2, h3, F⟩ := g.fns f x hn
    obtain ⟨q1, q2⟩ := glB_ok g.scope hg
    have ok' : okE e = true ∧ es.all okE = true := by simpa using ok
    refine peM (pe_callS (E := WE W) F g.room q1 h1 h2 h3 (fun σ => passAt g.tk σ) (pa_evc P ok) q2 (star_cons ok'.1) (star_any ok'.2)) fun σ H Q q => ?_
    obtain ⟨Sh, s, b, q⟩ := q
    simp only [ev] at q
    refine ⟨Sh, s, b, (RP.bnd q).imp fun ds s1 Sh1 H1 b1 x1 h1 vs rs => ?_⟩
    refine ⟨Sh1, B.st, ds, s1.w, rs, b1.shL, b1.stk, ?_⟩
    revert h1
    cases callF T n f ds s1.w with
    | stuck => exact fun h => h
    | exc c w' => exact fun h Sh' H' k1 k2 k3 k4 k5 => let y := b1.call (st := B.st) k1 k2 k3 k4 k5; h Sh' H' y.1 y.2
    | ok d w' =>
      intro h v Sh' H' k1 k2 k3 k4 k5 r
      obtain ⟨b2, x2⟩ := b1.call (st := B.st) k1 k2 k3 k4 k5
      exact h Sh' H' b2 x2 v r .val
end
end MP
set_option Elab.async false
set_option linter.all false
set_option maxRecDepth 100000
/-! The rest of the expressions' forms. -/
namespace MP
open PySem PySem.Spec PyProof.Rows L2

section
variable {T : Tab} {n : Nat} {B : Bs} {XC : Nat → Addr} {W : WX} {X : Cx} {sc : Scope} {cx : Cxt} {σ : L2.St} {s : S} {Sh : Addr → Prop} {H H1 : Hp} {Q : VK}
theorem tE_bl {f : S → R Opd} {Q : Bool → Hp → Prop} (key : ∀ s o s1, f s = .ok o s1 → ∃ c, o = .val (.bl c)) (q : tT X.K B XC W (fun s => bnd (f s) fun o s => tr true o s) σ H Q) : tE X B XC W f σ H fun x H' => ∃ k, x = .bl k ∧ Q k H' := by
  obtain ⟨Sh, s, b, q⟩ := q
  refine ⟨Sh, s, b, ?_⟩
  have q : RP X.K B XC W σ s Sh H (bnd (f s) fun o s => tr true o s) _ := q
  cases e : f s with
  | exc c s1 => rw [e] at q; exact q
  | stuck => rw [e] at q; exact q
  | ok o s1 =>
    obtain ⟨c, rfl⟩ := key s o s1 e
    rw [e] at q
    intro Sh' H' b' x' v r _
    cases r
    exact ⟨c, rfl, q Sh' H' b' x'⟩
/-- constants -/
theorem pe_const {e : Expr} {v : V} {d : D} (h : PE X e (tC v)) (r : ∀ Sh H, DR X.K Sh B.st H v d) : PE X e (tE X B XC W fun s => .ok (.val d) s) := peM h fun σ H Q q => by
  obtain ⟨Sh, s, b, q⟩ := q
  exact RP.ok b q v (r Sh H) .val
theorem pe_varM (g : GX T n B XC W X sc) {i : Nat} {x : Str} {pos : Pos} (hN : X.N[i]? = some x) (hv : visB sc x = true) (h1 : (x == ("__debug__" : Str)) = false) (h2 : (x == ("__classdict__" : Str)) = false) : PE X (.Name x pos) (tE X B XC W (ev cx false (.var i))) :=
  peM (pe_var hN (visB_ok g.scope hv) h1 h2) fun σ H Q q => by
    obtain ⟨Sh, s, b, q⟩ := q
    simp only [ev] at q
    split at q
    · rename_i d o e
      cases o with
      | false =>
        obtain ⟨v, e1, r⟩ := b.var i d e
        exact ⟨v, e1, RP.ok b q v r .val⟩
      | true =>
        obtain ⟨a, e1, _⟩ := b.own i d e
        exact ⟨_, e1, RP.ok b q _ ⟨e1, true, e⟩ .var⟩
    · exact q.elim
theorem pe_globM (g : GX T n B XC W X sc) {i : Nat} {x : Str} {pos : Pos} (hi : (T.gls.lookup i).map (·.1) = some x) (hg : glB sc x = true) : PE X (.Name x pos) (tE X B XC W (ev ⟨callF T n, T.gl⟩ false (.glob i))) := by
  obtain ⟨q1, q2⟩ := glB_ok g.scope hg
  simp only [Option.map_eq_some_iff] at hi
  obtain ⟨⟨nm, d⟩, e1, e2⟩ := hi
  simp only at e2
  subst e2
  obtain ⟨u, v, h1, h2, h3⟩ := g.gls i nm d e1
  refine peM (pe_const (B := B) (XC := XC) (W := W) (d := d) (pe_glob q1 h1 h2 q2) fun Sh H => h3 Sh B.st H) fun σ H Q q => ?_
  have e : ev ⟨callF T n, T.gl⟩ false (.glob i) = fun s => .ok (.val d) s := by
    funext s
    simp only [ev, Tab.gl, e1]
    rfl
  rw [e] at q
  exact q
/-- a part of the draws' state -/
theorem pe_stG (g : GX T n B XC W X sc) {i k : Nat} {x : Str} {p q0 q1 : Pos} {jj : Nat} (hN : X.N[i]? = some x) (hv : visB sc x = true) (h1 : (x == ("__debug__" : Str)) = false) (h2 : (x == ("__classdict__" : Str)) = false) :
    PE X (.Subscript (.Name x p) (.Constant (.int (k : Int)) jj q0) q1) (tE X B XC W (ev cx false (.stG i k))) :=
  peM (pe_ix ix_list (pe_var hN (visB_ok g.scope hv) h1 h2) pe_int (fun _ _ => rfl)) fun σ H Q q => by
    obtain ⟨Sh, s, b, q⟩ := q
    simp only [ev] at q
    split at q
    · rename_i e0
      obtain ⟨v, e1, r⟩ := b.var i _ e0
      cases r with
      | st hst =>
        rename_i a
        obtain ⟨l, m1, m2, m3, m4, m5⟩ := b.stk a hst
        refine ⟨_, e1, a, [.ref l, .int s.w.at_, .int s.w.rest, .int s.w.seed], (k : Int), ?_⟩
        split at q
        · rename_i d ed
          have fin : ∀ v, DR X.K Sh B.st H v d → Q v H := fun v r => RP.ok b q v r .val
          unfold stGet at ed
          split at ed
          · cases ed
            exact ⟨.ref l, rfl, rfl, .of m1, rfl, fin _ (.lst m2 m3 (by rw [show (List.map V.int s.w.cells) = s.w.cells.map V.int from rfl]; exact DRs.ofInts _))⟩
          · cases ed
            exact ⟨_, rfl, rfl, .of m1, rfl, fin _ (.int _)⟩
          · cases ed
            exact ⟨_, rfl, rfl, .of m1, rfl, fin _ (.int _)⟩
          · cases ed
            exact ⟨_, rfl, rfl, .of m1, rfl, fin _ (.int _)⟩
          · cases ed
        · exact q.elim
    · exact q.elim
/-- displays -/
theorem pe_tupM {es : List Expr} {ms : List ME} {k : Nat} {pos : Pos} (P : PEs X B XC W cx es ms) (ok : es.all okE = true) : PE X (.Tuple es k pos) (tE X B XC W (ev cx false (.tup ms))) :=
  peM (pe_tup (pa_evc P ok)) fun σ H Q q => by
    obtain ⟨Sh, s, b, q⟩ := q
    simp only [ev] at q
    refine ⟨Sh, s, b, (RP.bnd q).imp fun ds s1 Sh1 H1 b1 x1 h1 vs rs => ?_⟩
    split at h1
    · rename_i hl
      refine ⟨Nat.le_trans (by rw [rs.length]; exact hl) sizeLN, fun p hp => ?_⟩
      obtain ⟨c1, c2, c3⟩ := b1.newT hp rs
      exact h1 _ _ c1 c2 _ c3 .val
    · exact h1.elim
theorem pe_lstM {es : List Expr} {ms : List ME} {pos : Pos} (P : PEs X B XC W cx es ms) (ok : es.all okE = true) : PE X (.List es pos) (tE X B XC W (ev cx false (.lst ms))) :=
  peM (pe_lst (pa_evc P ok)) fun σ H Q q => by
    obtain ⟨Sh, s, b, q⟩ := q
    simp only [ev] at q
    refine ⟨Sh, s, b, (RP.bnd q).imp fun ds s1 Sh1 H1 b1 x1 h1 vs rs => ?_⟩
    split at h1
    · rename_i hl
      refine ⟨Nat.le_trans (by rw [rs.length]; exact hl) sizeLN, fun p hp => ?_⟩
      obtain ⟨c1, c2, c3⟩ := b1.newL hp rs
      refine h1 _ _ c1 c2 _ c3 fun d e a ev => ?_
      cases ev
      cases e2 : H p with
      | none => rfl
      | some o => rw [x1.mem p o e2 (b1.stNone hp)] at hp; cases hp
    · exact h1.elim
theorem pe_dnewM {pos : Pos} : PE X (.Dict [] [] pos) (tE X B XC W (ev cx false .dnew)) :=
  peM pe_dnewK fun σ H Q q => by
    obtain ⟨Sh, s, b, q⟩ := q
    intro p hp
    have m := upd_more (o := .dK []) hp
    exact q Sh _ (b.more m) (b.stpMore m) _ ⟨p, rfl, fun k => (b.shL p k).1 hp, b.h0 hp, b.stNone hp, fun k => b.ownSome k hp, .inl ⟨[], upd_same, .nil⟩⟩ fun _ _ _ e => by cases e; exact hp
/-- a if t else b -/
theorem pe_ifM {c a b : Expr} {mc ma mb : ME} {pos : Pos} (hc : PT X c (tT X.K B XC W (ev cx true mc))) (ha : PE X a (tE X B XC W (ev cx false ma))) (hb : PE X b (tE X B XC W (ev cx false mb))) : PE X (.IfExp c a b pos) (tE X B XC W (ev cx false (.ife mc ma mb))) :=
  peM (pe_ifExp hc ha hb) fun σ H Q q => by
    obtain ⟨Sh, s, b, q⟩ := q
    simp only [ev] at q
    refine ⟨Sh, s, b, (RP.bnd q).bl.imp fun o s1 Sh1 H1 b1 x1 h1 => ?_⟩
    obtain ⟨c, rfl, h1⟩ := h1
    cases c with
    | true =>
      show if true = true then tE X B XC W (ev cx false ma) σ H1 Q else _
      rw [if_pos rfl]
      exact ⟨Sh1, s1, b1, h1.imp fun _ _ _ _ _ _ p => p.shift x1.mem⟩
    | false =>
      show if false = true then _ else tE X B XC W (ev cx false mb) σ H1 Q
      rw [if_neg Bool.false_ne_true]
      exact ⟨Sh1, s1, b1, h1.imp fun _ _ _ _ _ _ p => p.shift x1.mem⟩
theorem pt_ifE {c a b : Expr} {tc ta tb : TT} {pos : Pos} (hc : PT X c tc) (ha : PT X a ta) (hb : PT X b tb) : PT X (.IfExp c a b pos) (fun σ H Q => tc σ H fun k H1 => if k = true then ta σ H1 Q else tb σ H1 Q) := by
  refine ⟨fun ps s σ H Q I h => PyProof.Rows.isTrue_IfExp (thn (hc.run ps s σ H _ I h) fun k s1 hk => ?_)⟩
  obtain ⟨H1, I1, q1⟩ := hk
  cases k with
  | true => exact ha.run ps s1 σ H1 Q I1 q1
  | false => exact hb.run ps s1 σ H1 Q I1 q1
theorem pt_ifM {c a b : Expr} {mc ma mb : ME} {pos : Pos} (hc : PT X c (tT X.K B XC W (ev cx true mc))) (ha : PT X a (tT X.K B XC W (ev cx true ma))) (hb : PT X b (tT X.K B XC W (ev cx true mb))) : PT X (.IfExp c a b pos) (tT X.K B XC W (ev cx true (.ife mc ma mb))) :=
  ptM (pt_ifE hc ha hb) fun σ H Q q => by
    obtain ⟨Sh, s, b, q⟩ := q
    simp only [ev] at q
    refine ⟨Sh, s, b, (RP.bnd q).bl.imp fun o s1 Sh1 H1 b1 x1 h1 => ?_⟩
    obtain ⟨c, rfl, h1⟩ := h1
    cases c with
    | true =>
      show if true = true then tT X.K B XC W (ev cx true ma) σ H1 Q else _
      rw [if_pos rfl]
      exact ⟨Sh1, s1, b1, h1⟩
    | false =>
      show if false = true then _ else tT X.K B XC W (ev cx true mb) σ H1 Q
      rw [if_neg Bool.false_ne_true]
      exact ⟨Sh1, s1, b1, h1⟩
/-- not -/
theorem pe_notM {a : Expr} {ma : ME} {pos : Pos} (ha : PE X a (tE X B XC W (ev cx false ma))) : PE X (.UnaryOp .Not a pos) (tE X B XC W (ev cx false (.not ma))) :=
  peM (pe_notT ha) fun σ H Q q => by
    obtain ⟨Sh, s, b, q⟩ := q
    simp only [ev, ev_true, bnd_assoc] at q
    refine ⟨Sh, s, b, (RP.bnd q).imp fun o s1 Sh1 H1 b1 x1 h1 v r f => ?_⟩
    rw [truth_tr] at h1
    cases k : truthD o.d with
    | none => rw [k] at h1; exact h1.elim
    | some c =>
      rw [k] at h1
      exact ⟨c, rr_tru (r.rr b1) k, RP.ok b1 h1 _ (.bl _) .val⟩
theorem pt_notM {a : Expr} {ma : ME} {pos : Pos} (ha : PT X a (tT X.K B XC W (ev cx true ma))) : PT X (.UnaryOp .Not a pos) (tT X.K B XC W (ev cx true (.not ma))) :=
  ptM (pt_not ha) fun σ H Q q => by
    obtain ⟨Sh, s, b, q⟩ := q
    simp only [ev] at q
    refine ⟨Sh, s, b, (RP.bnd q).bl.imp fun o s1 Sh1 H1 b1 x1 h1 => ?_⟩
    obtain ⟨c, rfl, h1⟩ := h1
    exact RP.ok b1 h1
/-- chains of two comparisons -/
theorem chain_rd {o1 o2 : Op} {ma mb mc : ME} (q : tE X B XC W (ev cx false (.chain o1 o2 ma mb mc)) σ H Q) :
    tChain (rD2 X.K B (opD o1)) (rD2 X.K B (opD o2)) (tE X B XC W (ev cx false ma)) (tE X B XC W (ev cx false mb)) (tE X B XC W (ev cx false mc)) σ H Q := by
  obtain ⟨Sh, s, b, q⟩ := q
  simp only [ev] at q
  refine ⟨Sh, s, b, (RP.bnd q).imp fun o s1 Sh1 H1 b1 x1 h1 v r f => ⟨Sh1, s1, b1, (RP.bnd h1).imp fun o' s2 Sh2 H2 b2 x2 h2 v2 r2 f2 => ?_⟩⟩
  split at h2
  · rename_i e
    refine ⟨Sh2, s2, σ, _, _, _, b2, (r.stp b1 x2).rr b2, r2.rr b2, e, fun v3 Sh3 H3 b3 x3 r3 f3 => ?_⟩
    cases r3
    refine ⟨false, rfl, ?_⟩
    rw [if_neg Bool.false_ne_true]
    exact h2 Sh3 H3 b3 x3 _ (.bl _) .val
  · rename_i e
    refine ⟨Sh2, s2, σ, _, _, _, b2, (r.stp b1 x2).rr b2, r2.rr b2, e, fun v3 Sh3 H3 b3 x3 r3 f3 => ?_⟩
    cases r3
    refine ⟨true, rfl, ?_⟩
    rw [if_pos rfl]
    refine ⟨Sh3, s2, b3, (RP.bnd (h2.from_ x3)).imp fun o4 s4 Sh4 H4 b4 x4 h4 v4 r4 f4 => ?_⟩
    obtain ⟨rs, e4, hq⟩ := RP.out (fun a u e k => x4.mem a u (x3.mem a u (x2.mem a u (x1.mem a u e k) k) k) k) h4
    exact ⟨Sh4, s4, σ, _, _, rs, b4, ((r2.stp b2 x3).stp b3 x4).rr b4, r4.rr b4, e4, hq⟩
  · exact h2.elim
theorem chain_key {o1 o2 : Op} {ma mb mc : ME} (h2 : ∀ ds rs, opD o2 ds = some rs → ∃ b, rs = .v (.bl b)) : ∀ s o s1, ev cx false (.chain o1 o2 ma mb mc) s = .ok o s1 → ∃ c, o = .val (.bl c) := by
  intro s o s1 e
  simp only [ev] at e
  cases e1 : ev cx false ma s with
  | exc _ _ => rw [e1] at e; cases e
  | stuck => rw [e1] at e; cases e
  | ok x s2 =>
    rw [e1] at e
    cases e2 : ev cx false mb s2 with
    | exc _ _ => simp only [bnd, e2] at e; cases e
    | stuck => simp only [bnd, e2] at e; cases e
    | ok y s3 =>
      simp only [bnd, e2] at e
      split at e
      · cases e; exact ⟨_, rfl⟩
      · cases e4 : ev cx false mc s3 with
        | exc _ _ => rw [e4] at e; cases e
        | stuck => rw [e4] at e; cases e
        | ok z s4 =>
          rw [e4] at e
          cases e5 : opD o2 [y.d, z.d] with
          | none => simp only [e5] at e; cases e
          | some rs =>
            obtain ⟨c, rfl⟩ := h2 _ _ e5
            simp only [e5] at e
            cases e
            exact ⟨c, rfl⟩
      · cases e
/-- isinstance -/
theorem ty_boot (t : Ty) : bootBuiltins (tyNm t) = some (.type (tyS t)) := by cases t <;> decide +kernel
theorem ty_mem (t : Ty) : tyNm t ∈ bnames ∧ tyNm t ≠ "__name__" := by cases t <;> decide
theorem pe_ty (g : GX T n B XC W X sc) {t : Ty} {e : Expr} (h : mNm sc t e = true) : okE e = true ∧ PE X e (tC (.ty (tyS t))) := by
  unfold mNm at h
  split at h
  · rw [Bool.and_eq_true] at h
    obtain ⟨h1, h2⟩ := h
    have h1 := of_decide_eq_true h1
    subst h1
    obtain ⟨q1, q2⟩ := glB_ok g.scope h2
    exact ⟨rfl, pe_bltn q1 (g.bts _ (ty_mem t).1) (ty_boot t) rfl (ty_mem t).2 q2⟩
  · cases h
theorem pa_tys (g : GX T n B XC W X sc) : ∀ {ts : List Ty} {es : List Expr}, mNms sc ts es = true → PA X es (fun σ H Q => Q (ts.map fun t => V.ty (tyS t)) H)
  | [], [], _ => pa_nil
  | [], _ :: _, h => by simp [mNms] at h
  | _ :: _, [], h => by simp [mNms] at h
  | t :: ts, e :: es, h => by
    simp only [mNms, Bool.and_eq_true] at h
    obtain ⟨k, p⟩ := pe_ty g h.1
    exact paM (pa_cons p (pa_tys g h.2) (star_cons k)) fun σ H Q q => q
theorem cls_tys : ∀ ts : List Ty, Paired ClsV (ts.map fun t => V.ty (tyS t)) (ts.map fun t => Value.type (tyS t))
  | [] => .nil
  | _ :: ts => .cons (.ty _) (cls_tys ts)
theorem isTys_one (d : D) (t : Ty) : isTys d [t] = isTy d t := by
  simp only [isTys]
  cases isTy d t with
  | none => rfl
  | some b => cases b <;> rfl
theorem pe_isiM (g : GX T n B XC W X sc) {x : Str} {p pos : Pos} {a z : Expr} {ma : ME} {tys : List Ty} (hx : x = "isinstance") (hg : glB sc x = true) (ka : okE a = true) (kz : okE z = true) (hz : mTy sc tys z = true) (ha : PE X a (tE X B XC W (ev cx false ma))) :
    PE X (.Call (.Name x p) [a, z] [] pos) (tE X B XC W (ev cx false (.isi ma tys))) := by
  subst hx
  obtain ⟨q1, q2⟩ := glB_ok g.scope hg
  have hm : X.mg "isinstance" = none := g.bts _ (by decide)
  have hv : bootBuiltins "isinstance" = some (.builtin "isinstance") := by decide +kernel
  have many : ∀ {ts : List Ty} {es : List Expr} {k : Nat} {p2 : Pos}, ts ≠ [] → ts.length ≤ 8 → mNms sc ts es = true → PE X (.Call (.Name "isinstance" p) [a, .Tuple es k p2] [] pos) (tE X B XC W (ev cx false (.isi ma ts))) := fun {ts es k p2} hne h8 hm2 => by
    refine peM (pe_callB call_isiT q1 hm hv (pa_cons ha (pa_cons (pe_tup (pa_tys g hm2)) pa_nil rfl) (star_cons ka)) (by decide) q2 (star_cons ka) rfl) fun σ H Q q => ?_
    obtain ⟨Sh, s, b, q⟩ := q
    simp only [ev] at q
    refine ⟨Sh, s, b, (RP.bnd q).imp fun o s1 Sh1 H1 b1 x1 h1 v r f => ?_⟩
    split at h1
    · rename_i c e
      have hl : (ts.map fun t => V.ty (tyS t)).length ≤ sizeLine := by
        rw [List.length_map]
        exact Nat.le_trans (Nat.le_trans h8 (by decide)) sizeLN
      refine ⟨hl, fun tp htp => ?_⟩
      have m := upd_more (o := .tup (ts.map fun t => V.ty (tyS t))) htp
      obtain ⟨nm, hn⟩ : ∃ nm, tyN o.d = some nm := by
        cases ts with
        | nil => exact absurd rfl hne
        | cons t ts => exact isTys_ty e
      have b2 := b1.more m
      refine ⟨v, tp, _, _, _, c, rfl, upd_same, cls_tys ts, rr_ty ((r.stp b1 (b1.stpMore m)).rr b2) hn, kit_Ds hn e, ?_⟩
      exact h1 _ _ b2 (b1.stpMore m) _ (.bl _) .val
    · exact h1.elim
  have one : ∀ {t : Ty}, mNm sc t z = true → PE X (.Call (.Name "isinstance" p) [a, z] [] pos) (tE X B XC W (ev cx false (.isi ma [t]))) := fun {t} h => by
    obtain ⟨k, pt⟩ := pe_ty g h
    refine peM (pe_callB call_isi q1 hm hv (pa_cons ha (pa_cons pt pa_nil (star_cons k)) (star_cons ka)) (by decide) q2 (star_cons ka) (star_any (by simp [k]))) fun σ H Q q => ?_
    obtain ⟨Sh, s, b, q⟩ := q
    simp only [ev, isTys_one] at q
    refine ⟨Sh, s, b, (RP.bnd q).imp fun o s1 Sh1 H1 b1 x1 h1 v r f => ?_⟩
    split at h1
    · rename_i c e
      obtain ⟨nm, hn⟩ : ∃ nm, tyN o.d = some nm := isTys_ty (t := t) (ts := []) (by rw [isTys_one]; exact e)
      exact ⟨v, _, _, _, c, rfl, .ty _, rr_ty (r.rr b1) hn, kit_D hn e, RP.ok b1 h1 _ (.bl _) .val⟩
    · exact h1.elim
  unfold mTy at hz
  split at hz
  · exact one hz
  · rename_i hne
    split at hz
    · rename_i es k p2
      rw [Bool.and_eq_true] at hz
      have h8 := of_decide_eq_true hz.1
      exact many h8.2 h8.1 hz.2
    · cases hz
end
end MP
set_option Elab.async false
set_option linter.all false
set_option maxRecDepth 100000
/-! Comprehensions as expressions; the theorem about all expressions. -/
namespace MP
open PySem PySem.Spec PyProof.Rows L2

theorem fold_ok {e : Expr} (h : okE e = true) : ∀ (env : PySem.Env) x, foldedSetIterable e env x = pure x := by
  intro env x
  cases e <;> first | rfl | (simp [okE] at h)
section
variable {T : Tab} {n : Nat} {B : Bs} {XC : Nat → Addr} {W : WX} {X : Cx} {sc : Scope} {cx : Cxt} {σ : L2.St} {s : S} {Sh : Addr → Prop} {H H1 : Hp} {Q : VK}
/-- the block's context -/
theorem GX.blk (g : GX T n B XC W X sc) {scope : Scope} (hk : scope.kind = .function) (s : Shared) (H : Hp) (C : Addr) (cl : List (Str × Addr)) (fp : List Addr) : GX T n B XC W0 (X.blk s H scope (compEnvC scope cl C X.env) fp) (relS scope sc) := by
  have e := g.scope
  refine ⟨?_, hk, g.nd, g.calm, takes0, g.room, g.fns, g.gls, g.bts⟩
  rw [← e]
  rfl
theorem blkC_kind {N : List Str} {sc scope : Scope} {own : List (Str × Nat)} (h : blkC N sc scope own = true) : scope.kind = .function := (blkOk_by h).kind
/-- the result of a comprehension, back in the def -/
theorem comp_rd {own : List Nat} {elt : ME} {tg : MT} {src : MI} {cond : Option ME} (hv : ∀ i ∈ slotsT tg, i ∈ own) (q : tE X B XC W (ev cx false (.comp own elt tg src cond)) σ H Q) :
    tLc (tI X.K B XC W (evI cx src)) (gM X.K B tg) (tO X.K B XC (fun s => evO cx cond s)) (tE X B XC W0 (ev cx false elt)) own σ H Q := by
  obtain ⟨Sh, s, b, q⟩ := q
  simp only [ev] at q
  refine ⟨Sh, s, b, (RP.bnd q).imp fun ds s1 Sh1 H1 b1 x1 h1 J G hJ hG g1 p hp => ?_⟩
  split at h1
  · rename_i ho
    have bw := b1.wipe own
    refine turns_ok (σw := wipe σ own) bw hJ hG g1 hp hv ?_ (wipe_wipe σ own) ?_
    · show wipeE (wipeE s1.env own) own = wipeE s1.env own
      apply List.ext_getElem?
      intro j
      by_cases hj : j ∈ own
      · cases q1 : (wipeE (wipeE s1.env own) own)[j]? with
        | none =>
          have : (wipeE s1.env own).length ≤ j := by
            have := List.getElem?_eq_none_iff.mp q1
            rwa [wipeE_len] at this
          rw [List.getElem?_eq_none this]
        | some z1 =>
          cases z1 with
          | some w1 => exact absurd q1 (wipeE_in hj)
          | none =>
            have hjl : j < (wipeE s1.env own).length := by
              have := (List.getElem?_eq_some_iff.mp q1).1
              rwa [wipeE_len] at this
            rw [List.getElem?_eq_getElem hjl]
            cases q2 : (wipeE s1.env own)[j] with
            | none => rfl
            | some w2 => exact absurd (by rw [List.getElem?_eq_getElem hjl, q2]) (wipeE_in (env := s1.env) (x := w2) hj)
      · rw [wipeE_out hj]
    · revert h1
      generalize compR own tg (fun s => evO cx cond s) (fun s => oneR (ev cx false elt s)) ds [] { s1 with env := wipeE s1.env own } = r
      intro h1
      cases r with
      | exc c s2 => exact h1.elim
      | stuck => exact h1.elim
      | ok xs s2 =>
        intro Sh2 H2 acc b2 x2 hacc racc hn
        obtain ⟨c1, c2⟩ := Stp.restore b1 b2 ho x2
        refine h1 Sh2 H2 c1 c2 _ ⟨p, rfl, hn, b1.h0 hp, b1.stNone hp, fun k => ?_, acc, hacc, racc⟩ fun d e a ev => ?_
        · exact b1.ownSome (c2.le.owns k) hp
        · cases ev
          cases e2 : H p with
          | none => rfl
          | some o => rw [x1.mem p o e2 (b1.stNone hp)] at hp; cases hp
  · exact h1.elim
theorem pe_compM (g : GX T n B XC W X sc) {x it t : Expr} {ifs : List Expr} {scope : Scope} {pos : Pos} {own : List Nat} {elt : ME} {tg : MT} {src : MI} {cond : Option ME} (hb : blkC X.N sc scope (ownP X.N own) = true) (ho : (ownP X.N own).map (·.2) = own)
    (ht : mT X.N (relS scope sc) (fnC scope) tg t = true) (hv : ∀ i ∈ slotsT tg, i ∈ own) (hit : okE it = true) (hi : PI X t it (tI X.K B XC W (evI cx src)))
    (he : ∀ (s : Shared) (H : Hp) (C : Addr) (cl : List (Str × Addr)) (fp : List Addr), PE (X.blk s H scope (compEnvC scope cl C X.env) fp) x (tE X B XC W0 (ev cx false elt)))
    (hc : ∀ (s : Shared) (H : Hp) (C : Addr) (cl : List (Str × Addr)) (fp : List Addr), PTs (X.blk s H scope (compEnvC scope cl C X.env) fp) ifs (tO X.K B XC (fun s => evO cx cond s))) :
    PE X (.ListComp x [⟨t, it, ifs, 0⟩] scope pos) (tE X B XC W (ev cx false (.comp own elt tg src cond))) := by
  have ok := blkOk_by hb
  rw [← g.scope] at ok
  refine peM (pe_lc (g := gM X.K B tg) g.calm g.nd hi ok (fun s H C cl fp => pg_all (B := B) (g.blk ok.kind s H C cl fp).scope g.nd g.calm tg t ht) hc he (fold_ok hit X.env)) fun σ H Q q => ?_
  rw [ho]
  exact comp_rd hv q

/-- a value's proof, where the test is its truth -/
theorem fin_ok {m : ME} {e : Expr} (k : okE e = true) (p : PE X e (tE X B XC W (ev cx false m))) (hp : ∀ whole, isTrue e X.env whole = (do let v ← whole; standAt e.pos; holding [v] (truthy v))) :
    okE e = true ∧ PE X e (tE X B XC W (ev cx false m)) ∧ PT X e (tT X.K B XC W (ev cx true m)) :=
  ⟨k, p, ptM (pt_plain p hp) fun σ H Q q => by
    have e : ev cx true m = fun s => bnd (ev cx false m s) fun o s => tr true o s := funext fun s => ev_true cx m s
    rw [e] at q
    exact q⟩
/-- one whose runs give truth values, by its own test -/
theorem fin_bl {m : ME} {e : Expr} {t : TE} (k : okE e = true) (p : PE X e t) (pt : PT X e (tTest t)) (conv : ∀ {σ : L2.St} {H : Hp} {Q : VK}, tE X B XC W (ev cx false m) σ H Q → t σ H Q) (key : ∀ s o s1, ev cx false m s = .ok o s1 → ∃ c, o = .val (.bl c)) :
    okE e = true ∧ PE X e (tE X B XC W (ev cx false m)) ∧ PT X e (tT X.K B XC W (ev cx true m)) :=
  ⟨k, peM p fun σ H Q q => conv q, ptM pt fun σ H Q q => by
    have e : ev cx true m = fun s => bnd (ev cx false m s) fun o s => tr true o s := funext fun s => ev_true cx m s
    rw [e] at q
    exact conv (tE_bl key q)⟩
theorem op_ev {o : Op} {ms : List ME} : ev cx false (.op o ms) = runO cx ms o := funext fun s => by simp only [ev]
theorem runO_key {o : Op} {ms : List ME} (h : ∀ ds rs, opD o ds = some rs → ∃ b, rs = .v (.bl b)) : ∀ s o' s1, ev cx false (.op o ms) s = .ok o' s1 → ∃ c, o' = .val (.bl c) := by
  intro s o' s1 e
  simp only [ev] at e
  cases e1 : evs cx ms s with
  | exc _ _ => rw [e1] at e; cases e
  | stuck => rw [e1] at e; cases e
  | ok ds s2 =>
    rw [e1] at e
    simp only [bnd] at e
    cases e2 : opD o ds with
    | none => rw [e2] at e; cases e
    | some rs =>
      obtain ⟨c, rfl⟩ := h _ _ e2
      rw [e2] at e
      cases e
      exact ⟨c, rfl⟩

theorem join_ev (c : Str) (a : ME) : ev cx false (.join c a) = fun s => bnd (ev cx false a s) fun x s => outR false (joinD [.str c, x.d]) s := funext fun s => by simp only [ev]

mutual
theorem pe_all : ∀ (m : ME) {W : WX} {X : Cx} {sc : Scope} {e : Expr}, GX T n B XC W X sc → mE T X.N sc m e = true →
    okE e = true ∧ PE X e (tE X B XC W (ev ⟨callF T n, T.gl⟩ false m)) ∧ PT X e (tT X.K B XC W (ev ⟨callF T n, T.gl⟩ true m))
  | .var i, W, X, sc, e, g, h => by
    unfold mE at h
    split at h
    · rename_i x pos
      simp only [Bool.and_eq_true, decide_eq_true_eq, Bool.not_eq_true'] at h
      exact fin_ok rfl (pe_varM (pos := pos) g h.1.1.1 h.1.1.2 h.1.2 h.2) fun _ => rfl
    · cases h
  | .cI i, W, X, sc, e, g, h => by
    unfold mE at h
    split at h
    · rename_i j k pos
      have h := of_decide_eq_true h
      subst h
      exact fin_ok rfl (pe_const (pe_int (i := j) (j := k) (pos := pos)) fun Sh H => .int j) fun _ => rfl
    · cases h
  | .cB i, W, X, sc, e, g, h => by
    unfold mE at h
    split at h
    · rename_i j k pos
      have h := of_decide_eq_true h
      subst h
      exact fin_ok rfl (pe_const (pe_bl (b := j) (j := k) (pos := pos)) fun Sh H => .bl j) fun _ => rfl
    · cases h
  | .cN, W, X, sc, e, g, h => by
    unfold mE at h
    split at h
    · rename_i k pos
      exact fin_ok rfl (pe_const (pe_non (j := k) (pos := pos)) fun Sh H => .non) fun _ => rfl
    · cases h
  | .cS i, W, X, sc, e, g, h => by
    unfold mE at h
    split at h
    · rename_i j k pos
      have h := of_decide_eq_true h
      subst h
      exact fin_ok rfl (pe_const (pe_str (x := j) (j := k) (pos := pos)) fun Sh H => .str j) fun _ => rfl
    · cases h
  | .glob i, W, X, sc, e, g, h => by
    unfold mE at h
    split at h
    · rename_i x pos
      rw [Bool.and_eq_true] at h
      exact fin_ok rfl (pe_globM (pos := pos) g (of_decide_eq_true h.1) h.2) fun _ => rfl
    · cases h
  | .op o es, W, X, sc, e, g, h => by
    unfold mE at h
    split at h
    · rename_i as hm
      have P := (pes_all es g h).es
      cases hc : cmpOf o with
      | none =>
        obtain ⟨k, hp⟩ := mOp_plain hc hm
        refine fin_ok k ?_ (hp X.env)
        rw [op_ev]
        exact pe_ops g hm P
      | some p =>
        obtain ⟨r1, r2⟩ := ro_all g hc
        obtain ⟨a, b, pos, rfl, rfl, kb⟩ := inv_q2 (mOp_cmp hc hm)
        obtain ⟨m, m', rfl, h1, h2⟩ := P.two
        refine fin_bl rfl (pe_cmpR r1 h1 h2 (mark_ok kb)) (pt_cmpR r1 h1 h2 (mark_ok kb)) (fun {σ H Q} q => ?_) (runO_key r2)
        rw [op_ev] at q
        unfold runO at q
        rw [evs2] at q
        exact tm2 (fun Sh s σ H v v' o o' rs Q b r r' e q => ⟨Sh, s, σ, _, _, rs, b, r.rr b, r'.rr b, e, q⟩) q
    · cases h
  | .tup es, W, X, sc, e, g, h => by
    unfold mE at h
    split at h
    · rename_i as k pos
      rw [Bool.and_eq_true] at h
      exact fin_ok rfl (pe_tupM (pes_all es g h.2).es h.1) fun _ => rfl
    · cases h
  | .lst es, W, X, sc, e, g, h => by
    unfold mE at h
    split at h
    · rename_i as pos
      rw [Bool.and_eq_true] at h
      exact fin_ok rfl (pe_lstM (pes_all es g h.2).es h.1) fun _ => rfl
    · cases h
  | .call f es, W, X, sc, e, g, h => by
    unfold mE at h
    split at h
    · rename_i x p as pos
      simp only [Bool.and_eq_true, decide_eq_true_eq, Bool.not_eq_true'] at h
      obtain ⟨⟨⟨⟨h1, h2⟩, h3⟩, h4⟩, h5⟩ := h
      refine fin_ok rfl (pe_callM g h1 h2 (pes_all es g h5).es h3 ?_) fun _ => rfl
      rintro rfl
      cases h4
    · cases h
  | .andL es, W, X, sc, e, g, h => by
    unfold mE at h
    split at h
    · rename_i as pos
      have P := pes_all es g h
      by_cases hne : as = []
      · subst hne
        cases P
        refine ⟨rfl, ⟨fun pins s σ H Q I q => ?_⟩, ⟨fun pins s σ H Q I q => ?_⟩⟩
        · obtain ⟨_, _, _, q⟩ := q
          simp only [ev, evAnd] at q
          exact q.elim
        · obtain ⟨_, _, _, q⟩ := q
          simp only [ev, evAnd] at q
          exact q.elim
      · obtain ⟨p1, p2⟩ := p_and (pos := pos) P hne
        refine ⟨rfl, peM p1 fun σ H Q q => ?_, ptM p2.pt fun σ H Q q => ?_⟩
        · simpa only [ev] using q
        · simpa only [ev] using q
    · cases h
  | .orL es, W, X, sc, e, g, h => by
    unfold mE at h
    split at h
    · rename_i as pos
      have P := pes_all es g h
      by_cases hne : as = []
      · subst hne
        cases P
        refine ⟨rfl, ⟨fun pins s σ H Q I q => ?_⟩, ⟨fun pins s σ H Q I q => ?_⟩⟩
        · obtain ⟨_, _, _, q⟩ := q
          simp only [ev, evOr] at q
          exact q.elim
        · obtain ⟨_, _, _, q⟩ := q
          simp only [ev, evOr] at q
          exact q.elim
      · obtain ⟨p1, p2⟩ := p_or (pos := pos) P hne
        refine ⟨rfl, peM p1 fun σ H Q q => ?_, ptM p2.pt fun σ H Q q => ?_⟩
        · simpa only [ev] using q
        · simpa only [ev] using q
    · cases h
  | .not a, W, X, sc, e, g, h => by
    unfold mE at h
    split at h
    · obtain ⟨_, p1, p2⟩ := pe_all a g h
      exact ⟨rfl, pe_notM p1, pt_notM p2⟩
    · cases h
  | .ife c a b, W, X, sc, e, g, h => by
    unfold mE at h
    split at h
    · simp only [Bool.and_eq_true] at h
      obtain ⟨_, _, c2⟩ := pe_all c g h.1.1
      obtain ⟨_, a1, a2⟩ := pe_all a g h.1.2
      obtain ⟨_, b1, b2⟩ := pe_all b g h.2
      exact ⟨rfl, pe_ifM c2 a1 b1, pt_ifM c2 a2 b2⟩
    · cases h
  | .chain o1 o2 a b c, W, X, sc, e, g, h => by
    unfold mE at h
    split at h
    · simp only [Bool.and_eq_true, decide_eq_true_eq] at h
      obtain ⟨⟨⟨⟨⟨k1, k2⟩, kz⟩, ha⟩, hb⟩, hc⟩ := h
      obtain ⟨r1, _⟩ := ro_all g k1
      obtain ⟨r2, r3⟩ := ro_all g k2
      obtain ⟨_, a1, _⟩ := pe_all a g ha
      obtain ⟨_, b1, _⟩ := pe_all b g hb
      obtain ⟨_, c1, _⟩ := pe_all c g hc
      exact fin_bl rfl (pe_chain r1 r2 a1 b1 c1 (last_ok kz)) (pt_chain r1 r2 a1 b1 c1 (last_ok kz)) (fun q => chain_rd q) (chain_key r3)
    · cases h
  | .slc a l u, W, X, sc, e, g, h => by
    unfold mE at h
    split at h
    · simp only [Bool.and_eq_true] at h
      obtain ⟨_, a1, _⟩ := pe_all a g h.1.1
      obtain ⟨_, l1, _⟩ := pe_all l g h.1.2
      obtain ⟨_, u1, _⟩ := pe_all u g h.2
      refine fin_ok rfl ?_ fun _ => rfl
      have e : ev ⟨callF T n, T.gl⟩ false (.slc a l u) = run3 (ev ⟨callF T n, T.gl⟩ false a) (ev ⟨callF T n, T.gl⟩ false l) (ev ⟨callF T n, T.gl⟩ false u) := funext fun s => by simp only [ev, run3] <;> rfl
      rw [e]
      exact pe_slLU a1 l1 u1
    · cases h
  | .join c a, W, X, sc, e, g, h => by
    unfold mE at h
    split at h
    · simp only [Bool.and_eq_true, decide_eq_true_eq] at h
      obtain ⟨⟨⟨⟨k1, k2⟩, k3⟩, k4⟩, ha⟩ := h
      subst k1 k2
      obtain ⟨_, a1, _⟩ := pe_all a g ha
      refine fin_ok rfl ?_ fun _ => rfl
      rw [join_ev]
      exact pe_joinD k3 k4 a1
    · cases h
  | .isi a tys, W, X, sc, e, g, h => by
    unfold mE at h
    split at h
    · simp only [Bool.and_eq_true, decide_eq_true_eq] at h
      obtain ⟨⟨⟨⟨⟨k1, k2⟩, k3⟩, k4⟩, k5⟩, ha⟩ := h
      obtain ⟨_, a1, _⟩ := pe_all a g ha
      exact fin_ok rfl (pe_isiM g k1 k2 k3 k4 k5 a1) fun _ => rfl
    · cases h
  | .comp own elt tg src cond, W, X, sc, e, g, h => by
    unfold mE at h
    split at h
    · simp only [Bool.and_eq_true, decide_eq_true_eq] at h
      obtain ⟨⟨⟨⟨⟨⟨⟨⟨k0, k1⟩, k2⟩, k3⟩, k4⟩, k5⟩, k6⟩, k7⟩, k8⟩ := h
      subst k0
      refine fin_ok rfl (pe_compM g k1 k2 k3 (fun i hi => by simpa using List.all_eq_true.mp k4 i hi) k5 (pi_all src g k6) (fun s H C cl fp => (pe_all elt (g.blk (blkC_kind k1) s H C cl fp) k7).2.1)
        (fun s H C cl fp => pts_all cond (g.blk (blkC_kind k1) s H C cl fp) k8)) fun _ => rfl
    · cases h
  | .comp2 _ _ _ _ _ _ _ _, W, X, sc, e, g, h => by simp [mE] at h
  | .dnew, W, X, sc, e, g, h => by
    unfold mE at h
    split at h
    · exact fin_ok rfl pe_dnewM fun _ => rfl
    · cases h
  | .stG i k, W, X, sc, e, g, h => by
    unfold mE at h
    split at h
    · simp only [Bool.and_eq_true, decide_eq_true_eq, Bool.not_eq_true'] at h
      obtain ⟨⟨⟨⟨h1, h2⟩, h3⟩, h4⟩, rfl⟩ := h
      exact fin_ok rfl (pe_stG g h1 h2 h3 h4) fun _ => rfl
    · cases h
theorem pes_all : ∀ (ms : List ME) {W : WX} {X : Cx} {sc : Scope} {es : List Expr}, GX T n B XC W X sc → mEs T X.N sc ms es = true → PBs X B XC W ⟨callF T n, T.gl⟩ es ms
  | [], W, X, sc, es, g, h => by
    simp only [mEs, List.isEmpty_iff] at h
    subst h
    exact .nil
  | m :: ms, W, X, sc, es, g, h => by
    cases es with
    | nil => simp [mEs] at h
    | cons e es =>
      simp only [mEs, Bool.and_eq_true] at h
      obtain ⟨k, p1, p2⟩ := pe_all m g h.1
      exact .cons k p1 p2 (pes_all ms g h.2)
theorem pi_all : ∀ (src : MI) {W : WX} {X : Cx} {sc : Scope} {t e : Expr}, GX T n B XC W X sc → mI T X.N sc src t e = true → PI X t e (tI X.K B XC W (evI ⟨callF T n, T.gl⟩ src))
  | .seq m, W, X, sc, t, e, g, h => by
    unfold mI at h
    exact pi_seqD (pe_all m g h).2.1
  | .rng1 m, W, X, sc, t, e, g, h => by
    unfold mI at h
    split at h
    · rename_i a hm
      exact pi_rng1D g hm (pe_all m g h).2.1
    · cases h
  | .rng2 m m', W, X, sc, t, e, g, h => by
    unfold mI at h
    split at h
    · rename_i a b hm
      rw [Bool.and_eq_true] at h
      exact pi_rng2D g hm (pe_all m g h.1).2.1 (pe_all m' g h.2).2.1
    · cases h
  | .enum m, W, X, sc, t, e, g, h => by
    unfold mI at h
    rw [Bool.and_eq_true] at h
    obtain ⟨ht, h⟩ := h
    unfold isTup at ht
    split at ht
    · split at h
      · rename_i a hm
        refine piM (pi_enumD (B := B) (XC := XC) (W := W) (cx := ⟨callF T n, T.gl⟩) g hm (pe_all m g h).2.1) fun σ H Q q => ?_
        have e : evI ⟨callF T n, T.gl⟩ (.enum m) = fun s => bnd (ev ⟨callF T n, T.gl⟩ false m s) fun o s => match o.d with
          | .lst xs => .ok (enumD 0 xs) s
          | .tup xs => .ok (enumD 0 xs) s
          | _ => .stuck := funext fun s => by simp only [evI] <;> rfl
        rw [e] at q
        exact q
      · cases h
    · cases ht
  | .zip m m', W, X, sc, t, e, g, h => by
    unfold mI at h
    rw [Bool.and_eq_true] at h
    obtain ⟨ht, h⟩ := h
    unfold isTup at ht
    split at ht
    · split at h
      · rename_i a b hm
        rw [Bool.and_eq_true] at h
        exact pi_zipD g hm (pe_all m g h.1).2.1 (pe_all m' g h.2).2.1
      · cases h
    · cases ht
  | .items _, W, X, sc, t, e, g, h => by simp [mI] at h
theorem pts_all : ∀ (c : Option ME) {X : Cx} {sc : Scope} {ifs : List Expr}, GX T n B XC W0 X sc → mO T X.N sc c ifs = true → PTs X ifs (tO X.K B XC (fun s => evO ⟨callF T n, T.gl⟩ c s))
  | none, X, sc, ifs, g, h => by
    simp only [mO, List.isEmpty_iff] at h
    subst h
    refine ⟨fun pins s σ H Q I q => pts_nil.run pins s σ H Q I ?_⟩
    obtain ⟨Sh, s', b, q⟩ := q
    simp only [evO] at q
    exact RP.ok b q
  | some m, X, sc, ifs, g, h => by
    unfold mO at h
    split at h
    · obtain ⟨_, _, p⟩ := pe_all m g h
      refine ⟨fun pins s σ H Q I q => (pts_one p).run pins s σ H Q I ?_⟩
      obtain ⟨Sh, s', b, q⟩ := q
      simp only [evO] at q
      refine ⟨Sh, s', b, ?_⟩
      revert q
      cases e : ev ⟨callF T n, T.gl⟩ true m s' with
      | exc c s1 => exact fun q => q
      | stuck => exact fun q => q
      | ok o s1 =>
        obtain ⟨c, rfl⟩ := ev_bl e
        exact fun q => q
    · cases h
end
end
end MP
set_option Elab.async false
set_option linter.all false
set_option maxRecDepth 100000
/-! Statements: the heap behind stores, what a run's end brings. -/
namespace MP
open PySem PySem.Spec PyProof.Rows L2

section
variable {K : PySem.W.Frag} {B : Bs} {Sh : Addr → Prop} {s : S} {σ : L2.St} {H : Hp}
/-- a slot takes an object of its own -/
theorem BI.setOwn {i : Nat} {a : Addr} {d : D} (b : BI K B Sh s σ H) (hi : i < s.env.length) (h1 : ¬ Sh a) (h2 : B.H0 a = none) (h3 : B.st ≠ some a) (h4 : ¬ Owns s.env σ a) (h5 : TopR K Sh B.st H a d) :
    BI K B Sh { s with env := s.env.set i (some (d, true)) } (σ.set i (some (V.ref a))) H := by
  have hσ : i < σ.length := by rw [← b.len]; exact hi
  refine ⟨b.keep, b.sh0, b.shN, b.shL, b.stk, by simp [b.len], fun j d' e => ?_, fun j d' e => ?_, fun j k dj dk c e1 e2 e3 e4 => ?_⟩
  · by_cases hj : i = j
    · subst hj
      rw [List.getElem?_set_self hi] at e
      cases e
    · rw [List.getElem?_set_ne hj] at e
      obtain ⟨u, q1, q2⟩ := b.var j d' e
      exact ⟨u, by rw [List.getElem?_set_ne hj]; exact q1, q2⟩
  · by_cases hj : i = j
    · subst hj
      rw [List.getElem?_set_self hi] at e
      cases e
      exact ⟨a, by rw [List.getElem?_set_self hσ], h1, h2, h3, h5⟩
    · rw [List.getElem?_set_ne hj] at e
      obtain ⟨c, q1, q2⟩ := b.own j d' e
      exact ⟨c, by rw [List.getElem?_set_ne hj]; exact q1, q2⟩
  · by_cases hj : i = j
    · by_cases hk : i = k
      · rw [← hj, ← hk]
      · subst hj
        rw [List.getElem?_set_ne hk] at e2 e4
        rw [List.getElem?_set_self hσ] at e3
        cases e3
        exact absurd ⟨k, dk, e2, e4⟩ h4
    · rw [List.getElem?_set_ne hj] at e1 e3
      by_cases hk : i = k
      · subst hk
        rw [List.getElem?_set_self hσ] at e4
        cases e4
        exact absurd ⟨j, dj, e1, e3⟩ h4
      · rw [List.getElem?_set_ne hk] at e2 e4
        exact b.inj j k dj dk c e1 e2 e3 e4
/-- a slot is emptied -/
theorem BI.unset (b : BI K B Sh s σ H) (i : Nat) : BI K B Sh { s with env := s.env.set i none } (σ.set i none) H := by
  have key : ∀ {j : Nat} {x : D × Bool}, (s.env.set i none)[j]? = some (some x) → i ≠ j ∧ s.env[j]? = some (some x) := fun {j x} e => by
    by_cases hj : i = j
    · subst hj
      by_cases hl : i < s.env.length
      · rw [List.getElem?_set_self hl] at e; cases e
      · rw [List.getElem?_eq_none (by simpa using hl)] at e; cases e
    · rw [List.getElem?_set_ne hj] at e
      exact ⟨hj, e⟩
  refine ⟨b.keep, b.sh0, b.shN, b.shL, b.stk, by simp [b.len], fun j d' e => ?_, fun j d' e => ?_, fun j k dj dk c e1 e2 e3 e4 => ?_⟩
  · obtain ⟨hj, e⟩ := key e
    obtain ⟨u, q1, q2⟩ := b.var j d' e
    exact ⟨u, by rw [List.getElem?_set_ne hj]; exact q1, q2⟩
  · obtain ⟨hj, e⟩ := key e
    obtain ⟨u, q1, q2⟩ := b.own j d' e
    exact ⟨u, by rw [List.getElem?_set_ne hj]; exact q1, q2⟩
  · obtain ⟨hj, e1⟩ := key e1
    obtain ⟨hk, e2⟩ := key e2
    rw [List.getElem?_set_ne hj] at e3
    rw [List.getElem?_set_ne hk] at e4
    exact b.inj j k dj dk c e1 e2 e3 e4
/-- an object of one slot changes -/
theorem BI.updOwn {i : Nat} {a : Addr} {d d' : D} {u : HO} (b : BI K B Sh s σ H) (h : s.env[i]? = some (some (d, true))) (hσ : σ[i]? = some (some (V.ref a))) (hu : ∀ H', Stays Sh H Sh H' → H' a = some u → TopR K Sh B.st H' a d') :
    BI K B Sh { s with env := s.env.set i (some (d', true)) } σ (upd H a u) ∧ Stays Sh H Sh (upd H a u) := by
  obtain ⟨a', e, h1, h2, h3, h4⟩ := b.own i d h
  rw [hσ] at e; cases e
  have hi : i < s.env.length := (List.getElem?_eq_some_iff.mp h).1
  have y : Stays Sh H Sh (upd H a u) := ⟨fun _ h => h, fun c o h e => by
    rw [upd_ne]; exact e
    rintro rfl; exact h1 h, fun c zs r => by
    have : c ≠ a := by
      rintro rfl
      exact h4.notTup r
    rcases r with r | ⟨o, r⟩
    · exact .inl (by rw [upd_ne this]; exact r)
    · exact .inr ⟨o, by rw [upd_ne this]; exact r⟩⟩
  refine ⟨⟨fun c o e q => ?_, b.sh0, b.shN, fun c q => ⟨?_, (b.shL c q).2⟩, fun c e => ?_, by simpa using b.len, fun j dj e => ?_, fun j dj e => ?_, fun j k dj dk c e1 e2 e3 e4 => ?_⟩, y⟩
  · rw [upd_ne]
    · exact b.keep c o e q
    · rintro rfl; rw [h2] at e; cases e
  · rw [upd_ne]
    · exact (b.shL c q).1
    · rintro rfl; exact h1 q
  · obtain ⟨l, e1, e2, e3, e4⟩ := b.stk c e
    have : c ≠ a := by rintro rfl; exact h3 e
    have : l ≠ a := by rintro rfl; exact h1 e2
    exact ⟨l, by rw [upd_ne (by assumption)]; exact e1, e2, by rw [upd_ne this]; exact e3, e4⟩
  · have hj : i ≠ j := fun q => by
      subst q
      rw [List.getElem?_set_self hi] at e
      cases e
    rw [List.getElem?_set_ne hj] at e
    obtain ⟨v, e1, e2⟩ := b.var j dj e
    exact ⟨v, e1, e2.mono y⟩
  · by_cases hj : i = j
    · subst hj
      rw [List.getElem?_set_self hi] at e
      cases e
      exact ⟨a, hσ, h1, h2, h3, hu _ y upd_same⟩
    · rw [List.getElem?_set_ne hj] at e
      obtain ⟨c, e1, e2, e3, e4, e5⟩ := b.own j dj e
      have : c ≠ a := by
        rintro rfl
        exact hj (b.inj i j d dj c h e hσ e1)
      exact ⟨c, e1, e2, e3, e4, e5.mono y fun o q => by rw [upd_ne this]; exact q⟩
  · have old : ∀ {m : Nat} {x : D}, (s.env.set i (some (d', true)))[m]? = some (some (x, true)) → ∃ x', s.env[m]? = some (some (x', true)) := fun {m x} e => by
      by_cases hm : i = m
      · subst hm; exact ⟨_, h⟩
      · rw [List.getElem?_set_ne hm] at e
        exact ⟨_, e⟩
    obtain ⟨_, e1⟩ := old e1
    obtain ⟨_, e2⟩ := old e2
    exact b.inj j k _ _ c e1 e2 e3 e4
end

/-- what is known of a statement's end -/
def RS (K : PySem.W.Frag) (B : Bs) (XC : Nat → Addr) (W : WX) (Dn : Ends) (Sh : Addr → Prop) (H : Hp) (r : R Fl) : Prop :=
  match r with
  | .ok .next s' => ∀ σ' Sh' H', BI K B Sh' s' σ' H' → Stays Sh H Sh' H' → Dn.nx σ' H'
  | .ok (.ret d) s' => ∀ v σ' Sh' H', BI K B Sh' s' σ' H' → DR K Sh' B.st H' v d → Dn.rt v H'
  | .ok .brk s' => ∀ σ' Sh' H', BI K B Sh' s' σ' H' → Stays Sh H Sh' H' → Dn.bk σ' H'
  | .ok .cnt s' => ∀ σ' Sh' H', BI K B Sh' s' σ' H' → Stays Sh H Sh' H' → Dn.ct σ' H'
  | .exc c s' => ∀ σ' Sh' H', BI K B Sh' s' σ' H' → Stays Sh H Sh' H' → W (.ref (XC c)) none σ' H'
  | .stuck => False
/-- a statement's run as a reading -/
def tS (K : PySem.W.Frag) (B : Bs) (XC : Nat → Addr) (W : WX) (f : S → R Fl) : TS := fun Dn σ H => ∃ Sh s, BI K B Sh s σ H ∧ RS K B XC W Dn Sh H (f s)
section
variable {α : Type} {K : PySem.W.Frag} {B : Bs} {XC : Nat → Addr} {W : WX} {Dn Dn' : Ends} {σ : L2.St} {s s1 : S} {Sh Sh1 : Addr → Prop} {H H1 : Hp}
theorem RS.from_ {r : R Fl} (y : Stays Sh H Sh1 H1) (h : RS K B XC W Dn Sh H r) : RS K B XC W Dn Sh1 H1 r := by
  cases r with
  | ok f s' =>
    cases f with
    | next => exact fun σ' Sh' H' b x => h σ' Sh' H' b (y.trans x)
    | ret d => exact h
    | brk => exact fun σ' Sh' H' b x => h σ' Sh' H' b (y.trans x)
    | cnt => exact fun σ' Sh' H' b x => h σ' Sh' H' b (y.trans x)
  | exc c s' => exact fun σ' Sh' H' b x => h σ' Sh' H' b (y.trans x)
  | stuck => exact h
theorem RS.bnd {r : R α} {f : α → S → R Fl} (b : BI K B Sh s σ H) (h : RS K B XC W Dn Sh H (MP.bnd r f)) : RP K B XC W σ s Sh H r fun a s1 Sh1 H1 => RS K B XC W Dn Sh1 H1 (f a s1) := by
  cases r with
  | ok a s1 => exact fun Sh1 H1 b1 x1 => RS.from_ (x1.stays b) h
  | exc c s1 => exact fun Sh1 H1 b1 x1 => h σ Sh1 H1 b1 (x1.stays b)
  | stuck => exact h
theorem RS.one {r : R Opd} {f : D → S → R Fl} (b : BI K B Sh s σ H) (h : RS K B XC W Dn Sh H (MP.bnd (oneR r) f)) : RP K B XC W σ s Sh H r fun o s1 Sh1 H1 => ∀ v, OR K B Sh1 s1.env σ H1 v o → FreshIn H v o → ∃ Sh2, BI K B Sh2 (consume o s1).2 σ H1 ∧ Stp B σ s.env Sh H (consume o s1).2.env Sh2 H1 ∧ DR K Sh2 B.st H1 v (consume o s1).1 ∧ RS K B XC W Dn Sh2 H1 (f (consume o s1).1 (consume o s1).2) := by
  cases r with
  | ok o s1 =>
    intro Sh1 H1 b1 x1 v r fr
    obtain ⟨Sh2, b2, k2, r2⟩ := b1.consume r
    exact ⟨Sh2, b2, k2 _ _ _ x1 fr, r2, RS.from_ ((k2 _ _ _ x1 fr).stays b) h⟩
  | exc c s1 => exact fun Sh1 H1 b1 x1 => h σ Sh1 H1 b1 (x1.stays b)
  | stuck => exact h
/-- the statements behind a statement -/
theorem RS.seq {r : R Fl} {f : S → R Fl} (h : RS K B XC W Dn Sh H (MP.bnd r fun fl s => match fl with | .next => f s | fl => .ok fl s)) : RS K B XC W { Dn with nx := tS K B XC W f Dn } Sh H r := by
  cases r with
  | ok fl s1 =>
    cases fl with
    | next => exact fun σ' Sh' H' b y => ⟨Sh', s1, b, RS.from_ y h⟩
    | ret d => exact h
    | brk => exact h
    | cnt => exact h
  | exc c s1 => exact h
  | stuck => exact h
end
/-- what stands when a statement is left -/
structure GXS (T : Tab) (n : Nat) (B : Bs) (XC : Nat → Addr) (W : WX) (X : Cx) (sc : Scope) : Prop extends GX T n B XC W X sc where
  fnT : X.fn = fun _ => true
  po : PassesOwn (model X.prog X.w) X.A X.env X.xe
  stk : X.stack = X.env :: X.outer
  frm : X.env.frame = some X.env.locals
def excNm : Nat → Str
  | 1 => "UnfitChance"
  | _ => "TooWide"
/-- what is known of the exceptions' classes -/
structure EX (K : PySem.W.Frag) (mg : Str → Option Value) (XC : Nat → Addr) : Prop where
  nm : ∀ c, c = 1 ∨ c = 2 → mg (excNm c) = some (.ref (XC c)) ∧ PySem.W.keepIn K (.ref (XC c)) = true ∧ PySem.W.subIn K (.ref (XC c)) (.type "BaseException") = some true ∧ PySem.W.typeIn K (.ref (XC c)) = some (.type "type")
  made : ∀ c, c = 1 ∨ c = 2 → PySem.W.excIn K (XC c) [.type "ValueError", .type "Exception", .type "BaseException", .type "object"] "ValueError.__new__" = true
  exm : ∀ c k, c = 1 ∨ c = 2 → k = 1 ∨ k = 2 → PySem.W.exmOne K (.ref (XC c)) (.ref (XC k)) = some (decide (k = c))
  isE : ∀ c, c = 1 ∨ c = 2 → ExcC K (XC c) ∧ PySem.W.kitOne K (.ref (XC c)) (.type "ValueError") = some true
end MP
set_option Elab.async false
set_option linter.all false
set_option maxRecDepth 100000
/-! try with several clauses, each with its own name. -/
namespace MP
open PySem PySem.Spec PyProof.Rows L2

abbrev ESuite : Type := Addr → Value → Option Addr → TS
/-- the ends of a clause's suite: the name goes -/
def offN (Dn : Ends) (i : Nat) : Ends := { nx := fun σ H => Dn.nx (σ.set i none) H, rt := Dn.rt, bk := fun σ H => Dn.bk (σ.set i none) H, ct := fun σ H => Dn.ct (σ.set i none) H }
/-- what the clauses wish of an error -/
def wNmd (K : PySem.W.Frag) (Wo : WX) (Dn : Ends) : List (Value × Nat × ESuite) → WX
  | [], cls, d, σ, H => Wo cls d σ H
  | (c, i, ts) :: more, cls, d, σ, H => ∃ hit : Bool, PySem.W.exmOne K cls c = some hit ∧
      if hit = true then (∀ a, H a = none → ts a cls d (offN Dn i) (σ.set i (some (V.ref a))) H) else wNmd K Wo Dn more cls d σ H
/-- the clauses of a try -/
inductive HdN (X : Cx) : List ExceptHandler → List (Value × Nat × ESuite) → Prop
  | none : HdN X [] []
  | more {c : Value} {i : Nat} {ts : ESuite} {nmC nm : Str} {s0 : Stmt} {ss : List Stmt} {p1 p2 : Pos} {hs : List ExceptHandler} {l : List (Value × Nat × ESuite)} (nC : Names X nmC c) (ni : X.N[i]? = some nm) (nl : X.env.kindOf nm = some .local)
      (su : ∀ (a : Addr) (o : Obj) (cls : Value) (d : Option Addr) (pn : List (Addr × Obj)), Zc cls d o → (∃ vs, o.data = .fields vs) → PSs (X.suite a ((a, o) :: pn)) (s0 :: ss) (ts a cls d)) (rest : HdN X hs l) :
      HdN X (.ExceptHandler (some (.Name nmC p1)) (some nm) (s0 :: ss) p2 :: hs) ((c, i, ts) :: l)
section
variable {X : Cx} {pins : List (Addr × Obj)} {Bh : Heap} {a : Addr} {sI s1 s2 : Shared} {σ : L2.St} {H : Hp} {cls : Value} {d : Option Addr} {Dn : Ends} {Wo : WX}
/-- an error that is caught: what the clauses do with it -/
theorem clauses_ok (tk : Takes X Wo) (hst : X.stack = X.env :: X.outer) (hfr : X.env.frame = some X.env.locals) (hN : X.N.Nodup) (J : Inv X pins σ H sI) (ground : ∀ b o, sI.heap.get? b = some o → b ∉ frs X.stack → Bh.get? b = some o)
    (up : sI.heap.UpToSlots s2.heap) (fl : HandSPX.FlyingZ Bh (X.env :: X.outer) a (Zc cls d) s2.heap) (na : H a = none) (os : s2.os = sI.os) (gens : AllBare s2.gens) :
    ∀ {hs : List ExceptHandler} {l : List (Value × Nat × ESuite)}, HdN X hs l → wNmd X.K Wo Dn l cls d σ H → wpAny (model X.prog X.w) X.A (handleBy (.ref a) X.env hs) (SP X pins Dn) X.xe s2 := by
  have ok := J.ok
  have J2 : Inv X pins σ H s2 := J.landed ground fl.1 up os gens
  obtain ⟨o2, vs2, g2, z2, d2⟩ := fl.there
  have far : ∀ {h : Heap} {o : Obj} {vs : Array Value}, h.FunFrames Bh (X.env :: X.outer) → h.get? a = some o → o.data = .fields vs → a ∉ frs (X.env :: X.outer) := by
    intro h o vs ff e dd hm
    obtain ⟨_, o', e', hnf⟩ := ff.mem hm
    cases e.symm.trans e'
    exact hnf _ dd
  have nfr := far fl.2.2.1 g2 d2
  have nL : a ≠ X.env.locals := fun z => nfr (List.mem_filterMap.mpr ⟨X.env, List.mem_cons_self, by rw [hfr, z]⟩)
  have nF : a ∉ X.fs := fun hm => by
    obtain ⟨e, he, q⟩ := List.mem_filterMap.mp hm
    exact nfr (List.mem_filterMap.mpr ⟨e, List.mem_cons_of_mem _ he, q⟩)
  intro hs l hk
  induction hk with
  | none =>
    intro w
    refine wpAny_handleBy_nil ?_
    obtain ⟨_, _, _, o, vs, tb, _, _, e1, _, e2, e3, _⟩ := id fl
    unfold PySem.passOn
    refine wpAny_bind (wpAny_field e1 e2 e3 ?_)
    rw [if_neg (show ¬ ((Value.ref tb == Value.none) = true) from by simp)]
    have last : wpAny (model X.prog X.w) X.A (setFlight (.ref a) X.env.frame) (fun _ s4 => wpAny (model X.prog X.w) X.A (throw (.ref a) : Sem Flow) (SP X pins Dn) X.xe s4) X.xe s2 := by
      rw [hfr]
      refine HandSPX.setFlight_upZ fl fun h4 hh up4 => wpAny_throw (tk _ _ ?_)
      refine ⟨a, Bh, sI, pins, σ, H, cls, d, rfl, J, ground, up.trans up4, .inr (.inr ?_), na, os, gens, w⟩
      rw [hst]; exact hh
    first
      | exact wpAny_bind (wpAny_pure (wpAny_bind last))
      | exact wpAny_bind last
  | @more c i ts nmC nm s0 ss p1 p2 hs l nC ni nl su rest ih =>
    intro w
    obtain ⟨hit, ehit, w⟩ := w
    have S2 := J2.suite g2 d2 na nL nF
    refine wpAny_handleBy_cons (codeAny_handlers_test ?_) (by intro q; cases q)
    have ty : PySem.W.Looks (model X.prog X.w) s2.heap (typeOf (.ref a)) cls := fun A Q E s k q => wpAny_typeOf_ref (k _ _ g2) (by rw [z2.1]; exact q)
    have asks := PySem.W.exm_one (M := model X.prog X.w) (J2.kIn) ty ehit
    have named : ∀ {Q : Value → Shared → Prop} {E : Value → Shared → Prop}, Q c s2 → wpAny (model X.prog X.w) (X.A.mark (some (.ref a))) (eval (.Name nmC p1) X.env) Q E s2 := by
      intro Q E q
      obtain ⟨hg, hdbg, hm | ⟨hm, hv, hnn⟩⟩ := nC
      · exact ld_glob (X := X.suite a ((a, o2) :: (X.pn ++ pins))) S2 hg hm q hdbg
      · exact ld_blt (X := X.suite a ((a, o2) :: (X.pn ++ pins))) S2 hg hm hv q hnn hdbg
    refine named (asks.here ?_)
    cases hit with
    | false => exact ih (by simpa using w)
    | true =>
      rw [if_pos rfl] at w
      refine codeAny_handlers_suite_as ?_
      refine HandSPX.lands_againZ fl fun h4 fl4 up4 => ?_
      have J4 : Inv X pins σ H { s2 with heap := h4 } := J.landed ground fl4.1 (up.trans up4) os gens
      obtain ⟨o4, vs4, g4, z4, d4⟩ := fl4.there
      have S4 := J4.suite g4 d4 na nL nF
      refine store_ok (X := X.suite a ((a, o4) :: (X.pn ++ pins))) (v := .ref a) S4 hN ni (.inl nl) rfl (fun s5 S5 => ?_) (.inr nl)
      refine wpAny_mono ((su a o4 cls d (X.pn ++ pins) z4 ⟨_, d4⟩).run [] s5 _ H _ S5 (w a na)) (fun f s6 hsp => ?_) (fun _ _ z => False.elim z)
      have goes : ∀ {σ6 : L2.St} {H6 : Hp} {Q : Shared → Prop}, Inv (X.suite a ((a, o4) :: (X.pn ++ pins))) [] σ6 H6 s6 → (∀ s7, Inv X pins (σ6.set i none) H6 s7 → Q s7) →
          wpAny (model X.prog X.w) X.A (do bindName X.env nm .none; unbindBehindTheSuite X.env nm p2) (fun _ s7 => Q s7) X.xe s6 := fun {σ6 H6 Q} S6 hq => gone_ok (S6.unsuite ok) hN ni nl hq
      cases f with
      | next =>
        obtain ⟨σ6, H6, S6, q6⟩ := hsp
        exact goes S6 fun s7 J7 => ⟨_, _, J7, q6⟩
      | brk =>
        obtain ⟨σ6, H6, S6, q6⟩ := hsp
        exact goes S6 fun s7 J7 => ⟨_, _, J7, q6⟩
      | cont =>
        obtain ⟨σ6, H6, S6, q6⟩ := hsp
        exact goes S6 fun s7 J7 => ⟨_, _, J7, q6⟩
      | ret u =>
        obtain ⟨v6, σ6, H6, S6, r6, q6⟩ := hsp
        exact goes S6 fun s7 J7 => ⟨_, _, _, J7, r6, q6⟩
end
theorem ps_tryN {X : Cx} {body : List Stmt} {h0 : ExceptHandler} {hs : List ExceptHandler} {l : List (Value × Nat × ESuite)} {pos : Pos} {tb : WX → TS} {Wo : WX} (hst : X.stack = X.env :: X.outer) (hfr : X.env.frame = some X.env.locals) (hN : X.N.Nodup) (tk : Takes X Wo)
    (hb : ∀ (W : WX) (pn : List (Addr × Obj)) (xe : Value → Shared → Prop), Takes (X.tr pn xe) W → PassesOwn (model X.prog X.w) X.A X.env xe → PSs (X.tr pn xe) body (tb W)) (hh : HdN X (h0 :: hs) l) :
    PS X (.Try body (h0 :: hs) [] [] pos) (fun Dn σ H => tb (wNmd X.K Wo Dn l) Dn σ H) := by
  refine ⟨fun pins s σ H Dn I h => ?_⟩
  have ok := I.ok
  have fr : X.A.frames = some (X.env :: X.outer) := by rw [ok.frames, hst]
  refine wpAny_Try_except ?_
  have inner := (hb (wNmd X.K Wo Dn l) (X.pn ++ pins) (fun e s₁ => wpAny (model X.prog X.w) X.A (noteFrame e X.env) (fun _ s₂ => wpAny (model X.prog X.w) X.A (setFlight e none) (fun _ s₃ =>
    wpAny (model X.prog X.w) X.A (handleBy e X.env (h0 :: hs)) (SP X pins Dn) X.xe s₃) X.xe s₂) X.xe s₁) (fun u s' xx => by
      obtain ⟨a, Bh, sI, pins', σ', H', cls, d, rfl, J', ground, up, sky, na, os, gens, w⟩ := xx
      have J : Inv X pins σ' H' sI := J'.ofTry ok
      have sky' : Sky Bh (X.env :: X.outer) a (Zc cls d) X.env.locals s'.heap := by rw [← hst]; exact sky
      refine Sky.land Zc.steady fr hfr sky' fun h3 fl3 up3 => ?_
      exact clauses_ok (s2 := { s' with heap := h3 }) tk hst hfr hN J ground (up.trans up3) fl3 na os gens hh w) PassesOwn.looking).run [] s σ H Dn (I.toTry _) h
  refine wpAny_mono inner (fun f s1 hsp => ?_) (fun e s1 he => he)
  cases f with
  | next =>
    obtain ⟨σ', H', J', q⟩ := hsp
    exact wpAny_execs_nil ⟨σ', H', J'.ofTry ok, q⟩
  | brk =>
    obtain ⟨σ', H', J', q⟩ := hsp
    exact ⟨σ', H', J'.ofTry ok, q⟩
  | cont =>
    obtain ⟨σ', H', J', q⟩ := hsp
    exact ⟨σ', H', J'.ofTry ok, q⟩
  | ret u =>
    obtain ⟨v, σ', H', J', r, q⟩ := hsp
    exact ⟨v, σ', H', J'.ofTry ok, r, q⟩
end MP
set_option Elab.async false
set_option linter.all false
set_option maxRecDepth 100000
/-! The rules for statements. -/
namespace MP
open PySem PySem.Spec PyProof.Rows L2

section
variable {T : Tab} {n : Nat} {B : Bs} {XC : Nat → Addr} {W : WX} {X : Cx} {sc : Scope} {cx : Cxt} {Dn : Ends} {σ : L2.St} {s : S} {Sh : Addr → Prop} {H : Hp}
abbrev tSt (X : Cx) (B : Bs) (XC : Nat → Addr) (W : WX) (f : S → R Fl) : TS := tS X.K B XC W f
theorem pss_nilM : PSs X [] (tSt X B XC W (exs cx [])) := pssM pss_nil fun Dn σ H q => by
  obtain ⟨Sh, s, b, q⟩ := q
  simp only [exs] at q
  exact q σ Sh H b .refl
theorem pss_consM {st : Stmt} {sts : List Stmt} {m : MS} {ms : List MS} (h1 : PS X st (tSt X B XC W (ex cx m))) (h2 : PSs X sts (tSt X B XC W (exs cx ms))) : PSs X (st :: sts) (tSt X B XC W (exs cx (m :: ms))) :=
  pssM (pss_cons h1 h2) fun Dn σ H q => by
    obtain ⟨Sh, s, b, q⟩ := q
    simp only [exs] at q
    refine ⟨Sh, s, b, RS.seq ?_⟩
    revert q
    cases ex cx m s with
    | stuck => exact id
    | exc c s1 => exact id
    | ok f s1 => cases f <;> exact id
theorem ps_passM {pos : Pos} : PS X (.Pass pos) (tSt X B XC W (ex cx .pass)) := psM ps_pass fun Dn σ H q => by
  obtain ⟨Sh, s, b, q⟩ := q
  simp only [ex] at q
  exact q σ Sh H b .refl
theorem ps_brkM {pos : Pos} : PS X (.Break pos) (tSt X B XC W (ex cx .brk)) := psM ps_break fun Dn σ H q => by
  obtain ⟨Sh, s, b, q⟩ := q
  simp only [ex] at q
  exact q σ Sh H b .refl
theorem ps_cntM {pos : Pos} : PS X (.Continue pos) (tSt X B XC W (ex cx .cnt)) := psM ps_continue fun Dn σ H q => by
  obtain ⟨Sh, s, b, q⟩ := q
  simp only [ex] at q
  exact q σ Sh H b .refl
theorem ps_retM {e : Expr} {m : ME} {pos : Pos} (he : PE X e (tE X B XC W (ev cx false m))) : PS X (.Return (some e) pos) (tSt X B XC W (ex cx (.ret m))) := psM (ps_ret he) fun Dn σ H q => by
  obtain ⟨Sh, s, b, q⟩ := q
  simp only [ex] at q
  refine ⟨Sh, s, b, (RS.one b q).imp fun o s1 Sh1 H1 b1 x1 h1 v r fr => ?_⟩
  obtain ⟨Sh2, b2, x2, r2, h2⟩ := h1 v r fr
  exact h2 v σ Sh2 H1 b2 r2
theorem ps_exprM {e : Expr} {m : ME} {pos : Pos} (he : PE X e (tE X B XC W (ev cx false m))) (hs : swapsWith e none pos.line X.env = pure false) : PS X (.Expr e pos) (tSt X B XC W (ex cx (.expr m))) := psM (ps_expr he hs) fun Dn σ H q => by
  obtain ⟨Sh, s, b, q⟩ := q
  simp only [ex] at q
  refine ⟨Sh, s, b, (RS.bnd b q).imp fun o s1 Sh1 H1 b1 x1 h1 v r fr => ?_⟩
  exact h1 σ Sh1 H1 b1 .refl
theorem isBl_bnd (r : R Opd) (f : Bool → S → R Fl) : bnd (isBl r) f = bnd r fun o s => match o.d with | .bl b => f b s | _ => .stuck := by
  unfold isBl
  rw [bnd_assoc]
  congr 1
  funext o s
  cases o.d <;> rfl
theorem ps_ifM {c : Expr} {a e : List Stmt} {mc : ME} {ma me : List MS} {pos : Pos} (hc : PT X c (tT X.K B XC W (ev cx true mc))) (h1 : PSs X a (tSt X B XC W (exs cx ma))) (h2 : PSs X e (tSt X B XC W (exs cx me))) :
    PS X (.If c a e pos) (tSt X B XC W (ex cx (.ife mc ma me))) := psM (ps_if hc h1 h2) fun Dn σ H q => by
  obtain ⟨Sh, s, b, q⟩ := q
  simp only [ex] at q
  rw [isBl_bnd] at q
  refine ⟨Sh, s, b, (RS.bnd b q).imp fun o s1 Sh1 H1 b1 x1 h1 => ?_⟩
  cases e : o.d <;> rw [e] at h1 <;> (try exact h1.elim)
  rename_i t
  cases t with
  | true => exact ⟨Sh1, s1, b1, h1⟩
  | false => exact ⟨Sh1, s1, b1, h1⟩
/-- a turn of a loop -/
theorem RS.turn {K : PySem.W.Frag} {r : R Fl} {g : S → R Fl} (h : RS K B XC W Dn Sh H (MP.bnd r fun f s => match f with | Fl.next => g s | .cnt => g s | .brk => .ok .next s | .ret d => .ok (.ret d) s))
    (N : L2.St → Hp → Prop) (hN : ∀ σ' Sh' s' H', BI K B Sh' s' σ' H' → Stays Sh H Sh' H' → RS K B XC W Dn Sh' H' (g s') → N σ' H') : RS K B XC W { Dn with nx := N, ct := N, bk := Dn.nx } Sh H r := by
  cases r with
  | ok f s1 =>
    cases f with
    | next => exact fun σ' Sh' H' b y => hN _ _ _ _ b y (RS.from_ y h)
    | cnt => exact fun σ' Sh' H' b y => hN _ _ _ _ b y (RS.from_ y h)
    | brk => exact h
    | ret d => exact h
  | exc c s1 => exact h
  | stuck => exact h
theorem ps_whlM {c : Expr} {a : List Stmt} {mc : ME} {ma : List MS} {pos : Pos} (hp : PassesOwn (model X.prog X.w) X.A X.env X.xe) (hc : PT X c (tT X.K B XC W (ev cx true mc))) (h1 : PSs X a (tSt X B XC W (exs cx ma))) :
    PS X (.While c a [] pos) (tSt X B XC W (ex cx (.whl mc ma))) := psM (ps_while hp hc h1) fun Dn σ H q => by
  obtain ⟨Sh, s, b, q⟩ := q
  simp only [ex] at q
  refine ⟨fun m σ' H' => ∃ Sh' s', BI X.K B Sh' s' σ' H' ∧ RS X.K B XC W Dn Sh' H' (whileR (fun s => isBl (ev cx true mc s)) (fun s => exs cx ma s) m s'), ⟨fuelW, Sh, s, b, q⟩, ?_⟩
  rintro m σ1 H1 ⟨Sh1, s1, b1, q1⟩
  cases m with
  | zero => exact q1.elim
  | succ m =>
    simp only [whileR] at q1
    rw [isBl_bnd] at q1
    refine ⟨Sh1, s1, b1, (RS.bnd b1 q1).imp fun o s2 Sh2 H2 b2 x2 h2 => ?_⟩
    cases e : o.d <;> rw [e] at h2 <;> (try exact h2.elim)
    rename_i t
    cases t with
    | true =>
      refine ⟨fun σ' H' => ∃ Sh' s', BI X.K B Sh' s' σ' H' ∧ RS X.K B XC W Dn Sh' H' (whileR (fun s => isBl (ev cx true mc s)) (fun s => exs cx ma s) m s'), fun σ' H' z => ⟨m, Nat.lt_succ_self m, z⟩, Sh2, s2, b2, ?_⟩
      have h3 : RS X.K B XC W Dn Sh2 H2 (bnd (exs cx ma s2) fun f s => match f with
        | .next => whileR (fun s => isBl (ev cx true mc s)) (fun s => exs cx ma s) m s
        | .cnt => whileR (fun s => isBl (ev cx true mc s)) (fun s => exs cx ma s) m s
        | .brk => .ok .next s
        | .ret d => .ok (.ret d) s) := h2
      exact RS.turn h3 _ fun σ' Sh' s' H' b' y z => ⟨Sh', s', b', z⟩
    | false => exact h2 σ1 Sh2 H2 b2 .refl
theorem ps_forM {tg it : Expr} {a : List Stmt} {t : MT} {src : MI} {ma : List MS} {pos : Pos} (g : GXS T n B XC W X sc) (hi : PI X tg it (tIc X.K B XC W (evIc cx src))) (ht : mT X.N sc X.fn t tg = true) (ok : okE it = true) (h1 : PSs X a (tSt X B XC W (exs cx ma))) :
    PS X (.For tg it a [] pos) (tSt X B XC W (ex cx (.forS t src ma))) := psM (ps_for g.po g.calm hi (pg_all (B := B) g.scope g.nd g.calm t tg ht) h1 (fold_ok ok X.env)) fun Dn σ H q => by
  obtain ⟨Sh, s, b, q⟩ := q
  simp only [ex] at q
  refine ⟨Sh, s, b, (RS.bnd b q).imp fun ds s1 Sh1 H1 b1 x1 h1 J G hJ hG g1 => ?_⟩
  refine ⟨fun i m σ' H' => m = ds.length - i ∧ i ≤ ds.length ∧ ∃ Sh' s', BI X.K B Sh' s' σ' H' ∧ G Sh' H' ∧ RS X.K B XC W Dn Sh' H' (forR t (fun s => exs cx ma s) (ds.drop i) s'), ⟨_, rfl, Nat.zero_le _, Sh1, s1, b1, g1, by simpa using h1⟩, ?_⟩
  rintro i m σ2 H2 ⟨rfl, hi, Sh2, s2, b2, g2, q2⟩
  by_cases hlt : i < ds.length
  · refine .inr ⟨hJ.go i Sh2 H2 g2 hlt, fun σ' H' => (i + 1 ≤ ds.length ∧ ∃ Sh' s', BI X.K B Sh' s' σ' H' ∧ G Sh' H' ∧ RS X.K B XC W Dn Sh' H' (forR t (fun s => exs cx ma s) (ds.drop (i + 1)) s')), fun σ' H' z => ⟨ds.length - (i + 1), by omega, rfl, z.1, z.2⟩, fun v H3 y => ?_⟩
    obtain ⟨b3, x3, hd⟩ := hJ.yld i Sh2 s2 σ2 H2 v H3 g2 b2 y hlt
    rw [List.drop_eq_getElem_cons hlt] at q2
    have rd : DR X.K Sh2 B.st H3 v ds[i] := hd _ (List.getElem?_eq_getElem hlt)
    have y3 : Stays Sh2 H2 Sh2 H3 := x3.stays b2
    have g3 : G Sh2 H3 := hG _ _ _ _ g2 y3
    rw [forR] at q2
    cases ha : asgT t ds[i] s2.env with
    | none => rw [ha] at q2; exact q2.elim
    | some env1 =>
      rw [ha] at q2
      dsimp only at q2
      refine ⟨Sh2, s2, ds[i], env1, b3, rd, ha, fun σ4 b4 o4 => ⟨Sh2, _, b4, ?_⟩⟩
      have q3 := RS.from_ y3 q2
      exact RS.turn q3 _ fun σ' Sh' s' H' b' y' z => ⟨hlt, Sh', s', b', hG _ _ _ _ g3 y', z⟩
  · have hie : i = ds.length := by omega
    subst hie
    refine .inl ⟨hJ.stop _ Sh2 H2 g2 rfl, ?_⟩
    rw [List.drop_length, forR] at q2
    exact q2 σ2 Sh2 H2 b2 .refl
/-! ### stores -/
theorem ps_setM {i : Nat} {x : Str} {e : Expr} {m : ME} {p pos : Pos} (g : GXS T n B XC W X sc) (hi : X.N[i]? = some x) (hx : locB sc X.fn x = true)
    (mk : PS X (.Assign [.Name x p] e pos) (tAsg (tE X B XC W (ev cx false m)) (gName i))) : PS X (.Assign [.Name x p] e pos) (tSt X B XC W (ex cx (.asg (.nm i) m))) :=
  psM mk fun Dn σ H q => by
    obtain ⟨Sh, s, b, q⟩ := q
    simp only [ex] at q
    refine ⟨Sh, s, b, (RS.bnd b q).imp fun o s1 Sh1 H1 b1 x1 h1 v r fr => ?_⟩
    split at h1
    · rename_i hl
      cases o with
      | val d => exact h1 _ Sh1 H1 (b1.setVar hl r) .refl
      | fresh d =>
        obtain ⟨a, rfl, k1, k2, k3, k4, k5⟩ := r
        have ob : isObjD d = true := by cases d <;> first | rfl | exact k5.elim
        have h2 : RS X.K B XC W Dn Sh1 H1 (.ok .next { s1 with env := s1.env.set i (some (d, true)) }) := by
          rw [← ob]; exact h1
        exact h2 _ Sh1 H1 (b1.setOwn hl k1 k2 k3 k4 k5) .refl
      | var j d =>
        obtain ⟨Sh2, b2, k2, r2⟩ := b1.consume r
        have y2 : Stays Sh1 H1 Sh2 H1 := (k2 _ _ _ .refl .var).stays b1
        have hl2 : i < (consume (.var j d) s1).2.env.length := by simpa [consume] using hl
        exact h1 _ Sh2 H1 (b2.setVar hl2 r2) y2
    · exact h1.elim
theorem ps_asgM {t : MT} {tg e : Expr} {m : ME} {pos : Pos} (g : GXS T n B XC W X sc) (ht : mT X.N sc X.fn t tg = true) (nn : ∀ i, t ≠ .nm i) (he : PE X e (tE X B XC W (ev cx false m)))
    (hs : swapsWithSole [tg] e pos.line X.env = pure false) (hw : swappedStores [tg] e X.env = pure none) (h1 : (assignEach [tg] X.env).map (·.2) = [assign tg X.env]) :
    PS X (.Assign [tg] e pos) (tSt X B XC W (ex cx (.asg t m))) :=
  psM (ps_asg he (pg_all (B := B) g.scope g.nd g.calm t tg ht) hs hw h1) fun Dn σ H q => by
    obtain ⟨Sh, s, b, q⟩ := q
    have q' : RS X.K B XC W Dn Sh H (bnd (oneR (ev cx false m s)) fun d s => match asgT t d s.env with
      | some env => .ok .next { s with env := env }
      | none => .stuck) := by
      cases t with
      | nm i => exact absurd rfl (nn i)
      | tp ts => simp only [ex] at q; exact q
      | tl ts => simp only [ex] at q; exact q
    refine ⟨Sh, s, b, (RS.one b q').imp fun o s1 Sh1 H1 b1 x1 h1 v r fr => ?_⟩
    obtain ⟨Sh2, b2, x2, r2, h2⟩ := h1 v r fr
    cases ha : asgT t (consume o s1).1 (consume o s1).2.env with
    | none => rw [ha] at h2; exact h2.elim
    | some env1 =>
      rw [ha] at h2
      exact ⟨Sh2, _, _, env1, b2, r2, ha, fun σ' b' _ => h2 σ' Sh2 H1 b' .refl⟩
end
end MP
set_option Elab.async false
set_option linter.all false
set_option maxRecDepth 100000
/-! The rules for statements: stores into objects, raise, try. -/
namespace MP
open PySem PySem.Spec PyProof.Rows L2

section
variable {T : Tab} {n : Nat} {B : Bs} {XC : Nat → Addr} {W : WX} {X : Cx} {sc : Scope} {cx : Cxt} {Dn : Ends} {σ : L2.St} {s : S} {Sh : Addr → Prop} {H : Hp}
theorem get_list : PGet X (rIxL X.K) := by
  intro pins s σ H o i ov iv Q I ro ri h
  obtain ⟨p, xs, k, z, rfl, rfl, hq, he, q⟩ := h
  cases ro
  obtain ⟨t, rfl⟩ := ri
  obtain ⟨its, r, pl, hz⟩ := I.list hq
  obtain ⟨j, h1, h2, h3, h4, h5⟩ := atI_get he
  obtain ⟨w, ew, rw'⟩ := r.get h2
  have hl := r.length
  have hn := line63
  have fin : EP X pins σ Q w s := ⟨z, H, I, rw', q⟩
  by_cases h0 : 0 ≤ k
  · have hj : k.toNat = j := by
      rw [seqIndex_of h0 h5] at h1
      exact Option.some.inj h1
    exact wpAny_getItem_list pl.isList h0 (by omega) (by rw [hj]; simpa using ew) fin
  · have hj : (k + (its.toArray.size : Int)).toNat = j := by
      rw [seqIndex_neg (by omega) h4] at h1
      rw [List.size_toArray, ← hl]
      exact Option.some.inj h1
    exact wpAny_getItem_list_neg pl.isList (by omega) (by rw [List.size_toArray] <;> omega) (by omega) (by rw [hj]; simpa using ew) fin
theorem isL_at {s : S} {i : Nat} (h : isL s i = true) : ∃ xs, s.env[i]? = some (some (.lst xs, true)) := by
  unfold isL at h
  split at h
  · rename_i xs e
    exact ⟨xs, e⟩
  · cases h
theorem set_in {x k d x' : D} (h : setAt x k d = some x') : ∃ xs i j, x = .lst xs ∧ k = .int i ∧ ixN xs.length i = some j ∧ x' = .lst (xs.set j d) := by
  unfold setAt at h
  split at h
  · rename_i xs i
    simp only [Option.map_eq_some_iff] at h
    obtain ⟨j, e1, e2⟩ := h
    exact ⟨xs, i, j, rfl, rfl, e1, e2.symm⟩
  · cases h
/-- a list of one slot is stored into -/
theorem store_rd {i : Nat} {K : PySem.W.Frag} {a : Addr} {xs : List D} {j : Nat} {d : D} {v : V} {k : Int} {Q : Hp → Prop} (b : BI K B Sh s σ H) (hs : s.env[i]? = some (some (.lst xs, true))) (hσ : σ[i]? = some (some (V.ref a))) (hj : ixN xs.length k = some j) (r : DR K Sh B.st H v d)
    (q : ∀ H', BI K B Sh { s with env := s.env.set i (some (.lst (xs.set j d), true)) } σ H' → Stays Sh H Sh H' → Q H') : rSetL (V.ref a) (V.int k) v H Q := by
  obtain ⟨a', e, h1, h2, h3, vs, h4, h5⟩ := b.own i _ hs
  rw [hσ] at e; cases e
  refine ⟨a, vs, k, j, rfl, rfl, h4, by rw [h5.length]; exact hj, ?_⟩
  obtain ⟨b', y⟩ := b.updOwn (d' := .lst (xs.set j d)) (u := .lst (vs.set j v)) hs hσ fun H' y e => ⟨_, e, (h5.mono y).set (r.mono y) j⟩
  exact q _ b' y
theorem ps_stVM {i : Nat} {x : Str} {k e : Expr} {mk me : ME} {p p2 pos : Pos} (g : GXS T n B XC W X sc) (hi : X.N[i]? = some x) (hv : visB sc x = true) (h1 : (x == ("__debug__" : Str)) = false) (h2 : (x == ("__classdict__" : Str)) = false) (ok : okE k = true)
    (hk : PE X k (tE X B XC W (ev cx false mk))) (he : PE X e (tE X B XC W (ev cx false me))) (hs : swapsWithSole [.Subscript (.Name x p) k p2] e pos.line X.env = pure false) (hw : swappedStores [.Subscript (.Name x p) k p2] e X.env = pure none) :
    PS X (.Assign [.Subscript (.Name x p) k p2] e pos) (tSt X B XC W (ex cx (.stV i mk me))) :=
  psM (ps_asg he (pg_sub (pe_var hi (visB_ok g.scope hv) h1 h2) hk set_list (by intro v; cases k <;> first | rfl | (simp [okE] at ok))) hs hw (by rfl)) fun Dn σ H q => by
    obtain ⟨Sh, s, b, q⟩ := q
    simp only [ex] at q
    refine ⟨Sh, s, b, (RS.one b q).imp fun o s1 Sh1 H1 b1 x1 h1 v r fr => ?_⟩
    obtain ⟨Sh2, b2, x2, r2, h2⟩ := h1 v r fr
    split at h2
    · rename_i hL
      obtain ⟨xs, hL⟩ := isL_at hL
      obtain ⟨a, ea, k1, k2, k3, vs, k4, k5⟩ := b2.own i _ hL
      refine ⟨_, ea, Sh2, _, b2, (RS.one b2 h2).imp fun o3 s3 Sh3 H3 b3 x3 h3 v3 r3 fr3 => ?_⟩
      obtain ⟨Sh4, b4, x4, r4, h4⟩ := h3 v3 r3 fr3
      split at h4
      · rename_i x0 e0
        split at h4
        · rename_i x' e1
          obtain ⟨xs', k', j, rfl, ek, ej, rfl⟩ := set_in e1
          rw [ek] at r4
          cases r4
          exact store_rd b4 e0 ea ej (r2.mono (x4.stays b2)) fun H' b' y' => h4 _ _ _ b' y'
        · exact h4.elim
      · exact h4.elim
    · exact h2.elim
theorem ps_augM {i : Nat} {x : Str} {o : Op} {op : Operator} {e : Expr} {me : ME} {p pos : Pos} (g : GXS T n B XC W X sc) (hi : X.N[i]? = some x) (hx : locB sc X.fn x = true) (ho : (o = .add ∧ op = .Add) ∨ (o = .sub ∧ op = .Sub)) (he : PE X e (tE X B XC W (ev cx false me))) :
    PS X (.AugAssign (.Name x p) op e pos) (tSt X B XC W (ex cx (.aug i o me))) := by
  have hl : Loc X.env.scope x ∧ (X.fn x = true ∨ X.env.scope.names.lookup x = some .local) := by
    rw [g.scope]
    unfold locB at hx
    split at hx
    · exact ⟨.inl (by assumption), .inr (by assumption)⟩
    · exact ⟨.inr (by assumption), .inl hx⟩
    · cases hx
  obtain ⟨f, hf, hip⟩ : ∃ f : Int → Int → Int, (∀ x y z, augD o x y = some z → ∃ a b, x = .int a ∧ y = .int b ∧ z = .int (f a b)) ∧ PIp X op (ipI f) := by
    rcases ho with ⟨rfl, rfl⟩ | ⟨rfl, rfl⟩
    · refine ⟨fun i j => i + j, fun x y z h => ?_, ip_add⟩
      unfold augD at h
      split at h
      · cases h; exact ⟨_, _, rfl, rfl, rfl⟩
      · rename_i h9; cases h9
      · cases h
    · refine ⟨fun i j => i - j, fun x y z h => ?_, ip_sub⟩
      unfold augD at h
      split at h
      · rename_i h9; cases h9
      · cases h; exact ⟨_, _, rfl, rfl, rfl⟩
      · cases h
  refine psM (ps_aug g.nd hi hl.1 he hip hl.2) fun Dn σ H q => ?_
  obtain ⟨Sh, s, b, q⟩ := q
  simp only [ex] at q
  split at q
  · rename_i d ed
    obtain ⟨v, ev', r⟩ := b.var i d ed
    refine ⟨v, ev', Sh, s, b, (RS.bnd b q).imp fun o1 s1 Sh1 H1 b1 x1 h1 w rw' fr => ?_⟩
    split at h1
    · rename_i z ez
      obtain ⟨a, c, rfl, e2, rfl⟩ := hf _ _ _ ez
      cases r
      have hw := RR_int (rw'.rr b1) e2
      subst hw
      refine ⟨a, c, rfl, rfl, ?_⟩
      have hl1 : i < s1.env.length := by rw [x1.le.len]; exact (List.getElem?_eq_some_iff.mp ed).1
      exact h1 _ Sh1 H1 (b1.setVar hl1 (.int _)) .refl
    · exact h1.elim
  · exact q.elim
theorem ps_augSM {i : Nat} {x : Str} {o : Op} {op : Operator} {k e : Expr} {mk me : ME} {p p2 pos : Pos} (g : GXS T n B XC W X sc) (hi : X.N[i]? = some x) (hv : visB sc x = true) (h1 : (x == ("__debug__" : Str)) = false) (h2 : (x == ("__classdict__" : Str)) = false) (ok : okE k = true)
    (ho : (o = .add ∧ op = .Add) ∨ (o = .sub ∧ op = .Sub)) (hk : PE X k (tE X B XC W (ev cx false mk))) (he : PE X e (tE X B XC W (ev cx false me))) :
    PS X (.AugAssign (.Subscript (.Name x p) k p2) op e pos) (tSt X B XC W (ex cx (.augS i mk o me))) := by
  obtain ⟨f, hf, hip⟩ : ∃ f : Int → Int → Int, (∀ x y z, augD o x y = some z → ∃ a b, x = .int a ∧ y = .int b ∧ z = .int (f a b)) ∧ PIp X op (ipI f) := by
    rcases ho with ⟨rfl, rfl⟩ | ⟨rfl, rfl⟩
    · refine ⟨fun i j => i + j, fun x y z h => ?_, ip_add⟩
      unfold augD at h
      split at h
      · cases h; exact ⟨_, _, rfl, rfl, rfl⟩
      · rename_i h9; cases h9
      · cases h
    · refine ⟨fun i j => i - j, fun x y z h => ?_, ip_sub⟩
      unfold augD at h
      split at h
      · rename_i h9; cases h9
      · cases h; exact ⟨_, _, rfl, rfl, rfl⟩
      · cases h
  refine psM (ps_augS (pe_var hi (visB_ok g.scope hv) h1 h2) hk get_list he hip set_list (by intro a b c; cases k <;> first | rfl | (simp [okE] at ok))) fun Dn σ H q => ?_
  obtain ⟨Sh, s, b, q⟩ := q
  simp only [ex] at q
  split at q
  · rename_i hL
    obtain ⟨xs, hL⟩ := isL_at hL
    obtain ⟨a, ea, k1, k2, k3, vs, k4, k5⟩ := b.own i _ hL
    refine ⟨_, ea, Sh, s, b, (RS.one b q).imp fun o1 s1 Sh1 H1 b1 x1 h1 v1 r1 fr1 => ?_⟩
    obtain ⟨Sh2, b2, x2, r2, h2⟩ := h1 v1 r1 fr1
    split at h2
    · rename_i x0 e0
      split at h2
      · rename_i old eo
        cases q0 : x0 <;> rw [q0] at eo e0 <;> (try (simp [getI] at eo; done))
        rename_i xs2
        cases q1 : (consume o1 s1).1 <;> rw [q1] at eo r2 h2 <;> (try (simp [getI] at eo; done))
        rename_i kk
        cases r2
        simp only [getI] at eo
        obtain ⟨a2, ea2, n1, n2, n3, vs2, n4, n5⟩ := b2.own i _ e0
        rw [ea] at ea2; cases ea2
        obtain ⟨j, j1, j2⟩ := Option.bind_eq_some_iff.mp eo
        obtain ⟨w, ew, rw'⟩ := n5.get j2
        refine ⟨a, vs2, kk, w, rfl, rfl, .of n4, ?_, Sh2, _, b2, (RS.bnd b2 h2).imp fun o3 s3 Sh3 H3 b3 x3 h3 v3 r3 fr3 => ?_⟩
        · unfold atI
          rw [n5.length, j1]
          exact ew
        · split at h3
          · rename_i z ez
            obtain ⟨m1, m2, rfl, e2, rfl⟩ := hf _ _ _ ez
            cases rw'
            have hw := RR_int (r3.rr b3) e2
            subst hw
            refine ⟨m1, m2, rfl, rfl, ?_⟩
            split at h3
            · rename_i x4 e4
              split at h3
              · rename_i x' e5
                obtain ⟨xs', k', j', rfl, ek, ej, rfl⟩ := set_in e5
                cases ek
                exact store_rd b3 e4 ea ej (.int _) fun H' b' y' => h3 _ _ _ b' y'
              · exact h3.elim
            · exact h3.elim
          · exact h3.elim
      · exact h2.elim
    · exact h2.elim
  · exact q.elim
theorem ps_appM {i : Nat} {x m : Str} {e : Expr} {me : ME} {p ap cp pos : Pos} (g : GXS T n B XC W X sc) (hi : X.N[i]? = some x) (hv : visB sc x = true) (h1 : (x == ("__debug__" : Str)) = false) (h2 : (x == ("__classdict__" : Str)) = false) (ok : okE e = true) (hl : (ap.endLine == cp.line) = true)
    (he : PE X e (tE X B XC W (ev cx false me))) : PS X (.Expr (.Call (.Attribute (.Name x p) "append" ap) [e] [] cp) pos) (tSt X B XC W (ex cx (.mut .append i [me]))) := by
  have P : PEs X B XC W cx [e] [me] := .cons he .nil
  have st : starEach [e] X.env = [(false, eval e X.env)] := star_cons ok
  refine psM (ps_expr (pe_bm PySem.F.plainAttrs_list PySem.F.slot_list_append PySem.F.type_list_append mt_append (pe_var hi (visB_ok g.scope hv) h1 h2) (pa_evc P (by simp [ok])) (by rfl) (by rw [st]; rfl) hl (star_cons ok) (star_any (by rfl)))) fun Dn σ H q => ?_
  obtain ⟨Sh, s, b, q⟩ := q
  simp only [ex] at q
  split at q
  · rename_i hL
    obtain ⟨xs, hL⟩ := isL_at hL
    obtain ⟨a, ea, k1, k2, k3, vs, k4, k5⟩ := b.own i _ hL
    refine ⟨_, ea, .inl ⟨rfl, vs, .of k4⟩, Sh, s, b, (RS.bnd b q).imp fun ds s1 Sh1 H1 b1 x1 h1 ws rs => ?_⟩
    split at h1
    · rename_i x0 e0
      split at h1
      · rename_i x' e1
        unfold mutD at e1
        split at e1
        · rename_i xs1 a1 _
          split at e1
          · rename_i hlen
            cases e1
            cases rs with
            | cons r0 rn =>
              cases rn
              obtain ⟨a2, ea2, n1, n2, n3, vs2, n4, n5⟩ := b1.own i _ e0
              rw [ea] at ea2; cases ea2
              refine ⟨a, vs2, _, rfl, rfl, n4, by rw [n5.length]; exact Nat.lt_of_lt_of_le hlen sizeLN, ?_⟩
              obtain ⟨b', y'⟩ := b1.updOwn (d' := .lst (xs1 ++ [a1])) e0 ea fun H' y e => ⟨_, e, (n5.mono y).append (.cons (r0.mono y) .nil)⟩
              exact h1 _ _ _ b' y'
          · cases e1
        all_goals first | (rename_i h9; cases h9; done) | cases e1
      · exact h1.elim
    · exact h1.elim
  · exact q.elim
end
end MP
set_option Elab.async false
set_option linter.all false
set_option maxRecDepth 100000
/-! The rules for statements: raise, pairs, try, what a for walks. -/
namespace MP
open PySem PySem.Spec PyProof.Rows L2

section
variable {T : Tab} {n : Nat} {B : Bs} {XC : Nat → Addr} {W : WX} {X : Cx} {sc : Scope} {cx : Cxt} {Dn : Ends} {σ : L2.St} {s : S} {Sh : Addr → Prop} {H : Hp}
theorem exOk_or {c : Nat} (h : exOk c = true) : c = 1 ∨ c = 2 := by
  unfold exOk at h
  simpa using h
theorem ps_raiseM {c : Nat} {x m : Str} {j : Nat} {p p2 pos pos2 : Pos} (g : GXS T n B XC W X sc) (E : EX X.K X.mg XC) (hc : exOk c = true) (hx : x = excNm c) (hg : glB sc x = true) :
    PS X (.Raise (some (.Call (.Name x p) [.Constant (.str m) j p2] [] pos)) none pos2) (tSt X B XC W (ex cx (.raise c))) := by
  obtain ⟨q1, q2⟩ := glB_ok g.scope hg
  obtain ⟨e1, e2, e3, e4⟩ := E.nm c (exOk_or hc)
  subst hx
  refine psM (ps_raise g.calm g.tk (pmk_own PySem.F.excBase_ValueError (E.made c (exOk_or hc)) e1 e2 (raises_own e3 e4) q1 q2)) fun Dn σ H q => ?_
  obtain ⟨Sh, s, b, q⟩ := q
  simp only [ex] at q
  exact q σ Sh H b .refl
/-! ### pairs -/
/-- a part that is to be stored -/
def PtR (K : PySem.W.Frag) (B : Bs) (Sh : Addr → Prop) (env : MP.Env) (σ : L2.St) (H : Hp) (v : V) (p : D × Bool) : Prop :=
  (p.2 = false ∧ DR K Sh B.st H v p.1) ∨ (p.2 = true ∧ ∃ a, v = V.ref a ∧ ¬ Sh a ∧ B.H0 a = none ∧ B.st ≠ some a ∧ ¬ Owns env σ a ∧ TopR K Sh B.st H a p.1)
theorem part_ok {K : PySem.W.Frag} {v : V} {o : Opd} {H0 : Hp} {env0 : MP.Env} {Sh0 : Addr → Prop} (b : BI K B Sh s σ H) (r : OR K B Sh s.env σ H v o) (x : Stp B σ env0 Sh0 H0 s.env Sh H) (fr : FreshIn H0 v o) :
    ∃ Sh1, BI K B Sh1 (part o s).2 σ H ∧ Stp B σ env0 Sh0 H0 (part o s).2.env Sh1 H ∧ PtR K B Sh1 (part o s).2.env σ H v (part o s).1 ∧ ((part o s).1.2 = true → ∀ a, v = V.ref a → H0 a = none) ∧ Stays Sh H Sh1 H := by
  cases o with
  | val d => exact ⟨Sh, b, x, .inl ⟨rfl, r⟩, (fun h => by cases h), .refl⟩
  | fresh d =>
    obtain ⟨a, rfl, k1, k2, k3, k4, k5⟩ := r
    have ob : isObjD d = true := by cases d <;> first | rfl | exact k5.elim
    refine ⟨Sh, b, x, .inr ⟨ob, a, rfl, k1, k2, k3, k4, k5⟩, fun _ c e => ?_, .refl⟩
    exact fr d rfl c e
  | var j d =>
    obtain ⟨Sh2, b2, k2, r2⟩ := b.consume r
    exact ⟨Sh2, b2, k2 _ _ _ x fr, .inl ⟨rfl, r2⟩, (fun h => by cases h), ⟨(k2 _ _ _ .refl .var).sub, fun _ _ _ h => h, fun _ _ h => h⟩⟩
theorem PtR.stp {K : PySem.W.Frag} {v : V} {p : D × Bool} {env1 : MP.Env} {Sh1 : Addr → Prop} {H1 : Hp} (b : BI K B Sh s σ H) (x : Stp B σ s.env Sh H env1 Sh1 H1) (h : PtR K B Sh s.env σ H v p) : PtR K B Sh1 env1 σ H1 v p := by
  obtain ⟨d, o⟩ := p
  rcases h with ⟨rfl, r⟩ | ⟨rfl, r⟩
  · exact .inl ⟨rfl, DR.mono (x.stays b) r⟩
  · exact .inr ⟨rfl, OR.stp (o := .fresh d) b x r⟩
theorem BI.setPart {K : PySem.W.Frag} {i : Nat} {v : V} {p : D × Bool} (b : BI K B Sh s σ H) (hi : i < s.env.length) (r : PtR K B Sh s.env σ H v p) : BI K B Sh { s with env := s.env.set i (some p) } (σ.set i (some v)) H := by
  obtain ⟨d, o⟩ := p
  rcases r with ⟨rfl, r⟩ | ⟨rfl, a, rfl, k1, k2, k3, k4, k5⟩
  · exact b.setVar hi r
  · exact b.setOwn hi k1 k2 k3 k4 k5
theorem ps_parM {i j : Nat} {x y : Str} {a c : Expr} {ma mc : ME} {px py pt pos : Pos} {kt k2 : Nat} {pt2 : Pos} (g : GXS T n B XC W X sc) (hi : X.N[i]? = some x) (hj : X.N[j]? = some y) (hij : i ≠ j) (hx : sc.names.lookup x = some .local) (hy : sc.names.lookup y = some .local)
    (ka : okE a = true) (kc : okE c = true) (pa : PE X a (tE X B XC W (ev cx false ma))) (pc : PE X c (tE X B XC W (ev cx false mc))) (hw : swappedStores [.Tuple [.Name x px, .Name y py] kt pt] (.Tuple [a, c] k2 pt2) X.env = pure (some [x, y])) :
    PS X (.Assign [.Tuple [.Name x px, .Name y py] kt pt] (.Tuple [a, c] k2 pt2) pos) (tSt X B XC W (ex cx (.par [i, j] [ma, mc]))) := by
  refine psM (ps_par g.calm g.nd hi hj hij (by rw [g.scope]; exact hx) (by rw [g.scope]; exact hy) (pa_cons pa (pa_cons pc pa_nil (star_cons kc)) (star_cons ka)) hw) fun Dn σ H q => ?_
  obtain ⟨Sh, s, b, q⟩ := q
  simp only [ex, evps, bnd_assoc, bnd_ok] at q
  refine ⟨Sh, s, b, (RS.bnd b q).imp fun o1 s1 Sh1 H1 b1 x1 h1 v1 r1 fr1 => ?_⟩
  obtain ⟨Sh2, b2, x2, p2, _, y12⟩ := part_ok b1 r1 x1 fr1
  refine ⟨Sh2, _, b2, (RS.bnd b2 (RS.from_ y12 h1)).imp fun o2 s3 Sh3 H3 b3 x3 h3 v3 r3 fr3 => ?_⟩
  obtain ⟨Sh4, b4, x4, p4, f4, y34⟩ := part_ok b3 r3 x3 fr3
  have p2' := p2.stp b2 x4
  refine ⟨v1, v3, rfl, ?_⟩
  simp only [setAll] at h3
  split at h3
  · rename_i env e
    split at e
    · rename_i li
      split at e
      · rename_i lj
        cases e
        have b5 := b4.setPart li p2'
        refine h3 _ _ _ (b5.setPart (i := j) (v := v3) (p := (part o2 s3).1) lj ?_) y34
        rcases p4 with ⟨e1, r⟩ | ⟨e1, a2, rfl, k1, k2, k3, k4, k5⟩
        · exact .inl ⟨e1, r⟩
        · refine .inr ⟨e1, a2, rfl, k1, k2, k3, fun ow => ?_, k5⟩
          obtain ⟨m, d, m1, m2⟩ := ow
          by_cases hm : i = m
          · subst hm
            have lσ : i < σ.length := by rw [← b4.len]; exact li
            rw [List.getElem?_set_self li] at m1
            rw [List.getElem?_set_self lσ] at m2
            cases m2
            have e2 : (part o1 s1).1 = (d, true) := Option.some.inj (Option.some.inj m1)
            rcases p2 with ⟨z1, _⟩ | ⟨z1, a1, z2, _, _, _, _, z3⟩
            · rw [e2] at z1; cases z1
            · cases z2
              exact z3.some (f4 e1 _ rfl)
          · rw [List.getElem?_set_ne hm] at m1 m2
            exact k4 ⟨m, d, m1, m2⟩
      · cases e
    · cases e
  · exact h3.elim
/-! ### try -/
theorem GXS.tr (g : GXS T n B XC W X sc) {W' : WX} {pn : List (Addr × Obj)} {xe : Value → Shared → Prop} (tk : Takes (X.tr pn xe) W') (po : PassesOwn (model X.prog X.w) X.A X.env xe) : GXS T n B XC W' (X.tr pn xe) sc :=
  ⟨⟨g.scope, g.kind, g.nd, g.calm, tk, g.room, g.fns, g.gls, g.bts⟩, g.fnT, po, g.stk, g.frm⟩
def isErr (sc : Scope) (n : Str) (e : Expr) : Bool := match e with
  | .Call (.Name f _) [.Name x _, .Name v _] [] _ => decide (f = "isinstance") && decide (x = n) && decide (v = "ValueError") && glB sc "isinstance" && glB sc "ValueError" && visB sc n && !(n == ("__debug__" : Str)) && !(n == ("__classdict__" : Str))
  | _ => false
theorem pe_isErr (g : GX T n B XC W X sc) (E : EX X.K X.mg XC) {i : Nat} {nm : Str} {e : Expr} (hi : X.N[i]? = some nm) (h : isErr sc nm e = true) {c : Nat} (hc : exOk c = true) {a : Addr} {o : Obj} {pn : List (Addr × Obj)} (hz : Zc (.ref (XC c)) none o) (hf : ∃ vs, o.data = .fields vs) :
    PE (X.suite a ((a, o) :: pn)) e (fun σ H Q => σ[i]? = some (some (V.ref a)) ∧ Q (.bl true) H) := by
  unfold isErr at h
  split at h
  · simp only [Bool.and_eq_true, decide_eq_true_eq, Bool.not_eq_true'] at h
    obtain ⟨⟨⟨⟨⟨⟨⟨rfl, rfl⟩, rfl⟩, h1⟩, h2⟩, h3⟩, h4⟩, h5⟩ := h
    obtain ⟨E1, E2⟩ := E.isE c (exOk_or hc)
    obtain ⟨q1, q2⟩ := glB_ok (X := X) g.scope h1
    obtain ⟨q3, q4⟩ := glB_ok (X := X) g.scope h2
    have hv : bootBuiltins "isinstance" = some (.builtin "isinstance") := by decide +kernel
    have hv2 : bootBuiltins "ValueError" = some (.type "ValueError") := by decide +kernel
    refine peM (pe_callB (X := X.suite a ((a, o) :: pn)) (call_isE E1 hz hf) q1 (g.bts _ (by decide)) hv (pa_cons (pe_var hi (visB_ok (X := X) g.scope h3) h4 h5) (pa_cons (pe_bltn (v := .ty "ValueError") q3 (g.bts _ (by decide)) hv2 rfl (by decide) q4) pa_nil)) (by decide) q2) fun σ H Q q => ?_
    obtain ⟨e1, q⟩ := q
    exact ⟨_, e1, .ty "ValueError", .type "ValueError", true, rfl, fun u r => by cases r; rfl, E2, q⟩
  · cases h
/-- what a clause's suite says -/
def mHd (sc : Scope) (n : Str) : Hd → List Stmt → Bool
  | .go, ss => match ss with
    | [.If (.UnaryOp .Not e _) [.Return (some (.Constant (.bool false) _ _)) _] [] _] => isErr sc n e
    | _ => false
  | .retE, ss => match ss with
    | [.Return (some (.IfExp e (.Tuple [] _ _) (.Constant .none _ _) _)) _] => isErr sc n e
    | _ => false
def suR (K : PySem.W.Frag) (XC : Nat → Addr) (i : Nat) : Hd → ESuite
  | .go => fun a cls d Dn σ H => ∃ c, exOk c = true ∧ cls = .ref (XC c) ∧ d = none ∧ σ[i]? = some (some (V.ref a)) ∧ Dn.nx σ H
  | .retE => fun a cls d Dn σ H => ∃ c, exOk c = true ∧ cls = .ref (XC c) ∧ d = none ∧ σ[i]? = some (some (V.ref a)) ∧ ∀ p, H p = none → Dn.rt (.ref p) (upd H p (.tup []))
theorem suite_ok (g : GX T n B XC W X sc) (E : EX X.K X.mg XC) {i : Nat} {nm : Str} {hd : Hd} {ss : List Stmt} (hi : X.N[i]? = some nm) (h : mHd sc nm hd ss = true) {a : Addr} {o : Obj} {cls : Value} {d : Option Addr} {pn : List (Addr × Obj)} (hz : Zc cls d o) (hf : ∃ vs, o.data = .fields vs) :
    PSs (X.suite a ((a, o) :: pn)) ss (suR X.K XC i hd a cls d) := by
  cases hd with
  | go =>
    unfold mHd at h
    dsimp only at h
    split at h
    · rename_i e _ _ _ _ _
      refine ⟨fun pins s σ H Q I q => ?_⟩
      obtain ⟨c, hc, rfl, rfl, e1, q⟩ := q
      have hp : PE (X.suite a ((a, o) :: pn)) e (fun σ H Q => σ[i]? = some (some (V.ref a)) ∧ Q (.bl true) H) := pe_isErr g E hi h hc hz hf
      have he : ∀ whole, isTrue e (X.suite a ((a, o) :: pn)).env whole = (do let v ← whole; standAt e.pos; holding [v] (truthy v)) := by
        unfold isErr at h
        split at h
        · exact fun _ => rfl
        · cases h
      refine (pss_one (ps_if (pt_not (pt_val hp he)) (pss_one (ps_ret pe_bl)) pss_nil)).run pins s σ H Q I ?_
      exact ⟨e1, true, rfl, q⟩
    · cases h
  | retE =>
    unfold mHd at h
    dsimp only at h
    split at h
    · rename_i e _ _ _ _ _ _
      refine ⟨fun pins s σ H Q I q => ?_⟩
      obtain ⟨c, hc, rfl, rfl, e1, q⟩ := q
      have hp : PE (X.suite a ((a, o) :: pn)) e (fun σ H Q => σ[i]? = some (some (V.ref a)) ∧ Q (.bl true) H) := pe_isErr g E hi h hc hz hf
      have he : ∀ whole, isTrue e (X.suite a ((a, o) :: pn)).env whole = (do let v ← whole; standAt e.pos; holding [v] (truthy v)) := by
        unfold isErr at h
        split at h
        · exact fun _ => rfl
        · cases h
      refine (pss_one (ps_ret (pe_ifExp (pt_val hp he) (pe_tup pa_nil) pe_non))).run pins s σ H Q I ?_
      exact ⟨e1, true, rfl, Nat.zero_le _, q⟩
    · cases h
def mHds (N : List Str) (sc : Scope) : List (Nat × Nat × Hd) → List ExceptHandler → Bool
  | [], hs => hs.isEmpty
  | (k, i, hd) :: r, hs => match hs with
    | .ExceptHandler (some (.Name x _)) (some nm) (s0 :: ss) _ :: hs => exOk k && decide (x = excNm k) && glB sc x && decide (N[i]? = some nm) && decide (sc.names.lookup nm = some .local) && mHd sc nm hd (s0 :: ss) && mHds N sc r hs
    | _ => false
def clN (K : PySem.W.Frag) (XC : Nat → Addr) (hs : List (Nat × Nat × Hd)) : List (Value × Nat × ESuite) := hs.map fun (k, i, hd) => (.ref (XC k), i, suR K XC i hd)
theorem hds_ok (g : GX T n B XC W X sc) (E : EX X.K X.mg XC) : ∀ {cs : List (Nat × Nat × Hd)} {hs : List ExceptHandler}, mHds X.N sc cs hs = true → HdN X hs (clN X.K XC cs)
  | [], hs, h => by
    simp only [mHds, List.isEmpty_iff] at h
    subst h; exact .none
  | (k, i, hd) :: r, hs, h => by
    unfold mHds at h
    split at h
    · rename_i x p nm s0 ss p2 hs
      simp only [Bool.and_eq_true, decide_eq_true_eq] at h
      obtain ⟨⟨⟨⟨⟨⟨h1, rfl⟩, h3⟩, h4⟩, h5⟩, h6⟩, h7⟩ := h
      obtain ⟨q1, q2⟩ := glB_ok (X := X) g.scope h3
      refine .more ⟨q1, q2, .inl (E.nm k (exOk_or h1)).1⟩ h4 ?_ (fun a o cls d pn hz hf => suite_ok g E h4 h6 hz hf) (hds_ok g E h7)
      show X.env.scope.names.lookup nm = _
      rw [g.scope]; exact h5
    · cases h
theorem mHds_in {N : List Str} {sc : Scope} : ∀ {cs : List (Nat × Nat × Hd)} {hs : List ExceptHandler}, mHds N sc cs hs = true → ∀ c ∈ cs, exOk c.1 = true
  | [], _, _, c, hc => by cases hc
  | (k, i, hd) :: r, hs, h, c, hc => by
    unfold mHds at h
    split at h
    · simp only [Bool.and_eq_true, decide_eq_true_eq] at h
      obtain ⟨⟨⟨⟨⟨⟨h1, h2⟩, h3⟩, h4⟩, h5⟩, h6⟩, h7⟩ := h
      rcases List.mem_cons.mp hc with rfl | hc
      · exact h1
      · exact mHds_in h7 c hc
    · cases h
/-- an error that the clauses may take -/
theorem catch_rd {K : PySem.W.Frag} {mg : Str → Option Value} {N : List Str} (E : EX K mg XC) {c : Nat} (hc : exOk c = true) (b : BI K B Sh s σ H) : ∀ {cs : List (Nat × Nat × Hd)}, (∀ x ∈ cs, exOk x.1 = true) → RS K B XC W Dn Sh H (catchR c s cs) →
    wNmd K W Dn (clN K XC cs) (.ref (XC c)) none σ H
  | [], _, q => q σ Sh H b .refl
  | (k, i, hd) :: r, hin, q => by
    have hk := hin _ List.mem_cons_self
    refine ⟨_, E.exm c k (exOk_or hc) (exOk_or hk), ?_⟩
    simp only [catchR] at q
    by_cases hkc : k = c
    · rw [if_pos hkc] at q
      rw [if_pos (decide_eq_true hkc)]
      by_cases hlt : s.env.length ≤ i
      · rw [if_pos hlt] at q; exact q.elim
      rw [if_neg hlt] at q
      have hi : i < σ.length := by rw [← b.len]; exact Nat.lt_of_not_le hlt
      intro a ha
      have hs : (σ.set i (some (V.ref a)))[i]? = some (some (V.ref a)) := List.getElem?_set_self hi
      have e2 : (σ.set i (some (V.ref a))).set i none = σ.set i none := by simp
      cases hd with
      | go =>
        refine ⟨c, hc, rfl, rfl, hs, ?_⟩
        show Dn.nx ((σ.set i (some (V.ref a))).set i none) H
        rw [e2]
        exact q _ _ _ (b.unset i) .refl
      | retE =>
        refine ⟨c, hc, rfl, rfl, hs, fun p hp => ?_⟩
        obtain ⟨c1, c2, c3⟩ := (b.unset i).newT hp (ds := []) .nil
        exact q _ _ _ _ c1 c3
    · rw [if_neg hkc] at q
      rw [if_neg (by simpa using hkc)]
      exact catch_rd (N := N) E hc b (fun x hx => hin x (List.mem_cons_of_mem _ hx)) q
theorem RS.try_ {K : PySem.W.Frag} {mg : Str → Option Value} (E : EX K mg XC) {cs : List (Nat × Nat × Hd)} (hin : ∀ x ∈ cs, exOk x.1 = true) {r : R Fl} (h : RS K B XC W Dn Sh H (tryR r cs)) : RS K B XC (wNmd K W Dn (clN K XC cs)) Dn Sh H r := by
  cases r with
  | ok f s1 => cases f <;> exact h
  | stuck => exact h
  | exc c s1 =>
    intro σ1 Sh1 H1 b1 y1
    have h2 : RS K B XC W Dn Sh1 H1 (tryR (.exc c s1) cs) := RS.from_ y1 h
    simp only [tryR] at h2
    split at h2
    · rename_i hc
      exact catch_rd (N := []) E hc b1 hin h2
    · exact h2.elim
theorem ps_tryM {body : List Stmt} {h0 : ExceptHandler} {hs : List ExceptHandler} {cs : List (Nat × Nat × Hd)} {mb : List MS} {pos : Pos} (g : GXS T n B XC W X sc) (E : EX X.K X.mg XC) (hh : mHds X.N sc cs (h0 :: hs) = true)
    (hb : ∀ {W' : WX} {pn : List (Addr × Obj)} {xe : Value → Shared → Prop}, GXS T n B XC W' (X.tr pn xe) sc → PSs (X.tr pn xe) body (tS X.K B XC W' (exs cx mb))) :
    PS X (.Try body (h0 :: hs) [] [] pos) (tSt X B XC W (ex cx (.tryS mb cs))) := by
  refine psM (ps_tryN (tb := fun W' => tS X.K B XC W' (exs cx mb)) g.stk g.frm g.nd g.tk (fun W' pn xe tk po => hb (g.tr tk po)) (hds_ok g.toGX E hh)) fun Dn σ H q => ?_
  obtain ⟨Sh, s, b, q⟩ := q
  simp only [ex] at q
  exact ⟨Sh, s, b, RS.try_ E (mHds_in hh) q⟩
/-! ### what a for walks -/
theorem pic_seq {tg e : Expr} {m : ME} (he : PE X e (tE X B XC W (ev cx false m))) : PI X tg e (tIc X.K B XC W (evIc cx (.seq m))) := by
  refine piM (pi_seq he) fun σ H Q h => ?_
  obtain ⟨Sh, s, b, h⟩ := h
  simp only [evIc] at h
  refine ⟨Sh, s, b, (RP.one h).imp fun o s1 Sh1 H1 b1 x1 h1 v r fr => ?_⟩
  obtain ⟨Sh2, b2, k2, r2⟩ := b1.consume r
  have x2 := k2 _ _ _ x1 fr
  cases q : (consume o s1).1 <;> rw [q] at h1 r2 <;> simp only [itemsD] at h1 <;> (try exact h1.elim)
  · cases r2 with
    | lst q1 q2 q3 => exact .inl ⟨_, rfl, ⟨_, .of q2⟩, RP.ok b2 (h1.from_ x2) _ _ (itd_list fun _ _ g => g.2) gs_l ⟨q1, _, q2, q3⟩⟩
  · cases r2 with
    | tup q1 q2 => exact .inr ⟨_, rfl, ⟨_, q1⟩, RP.ok b2 (h1.from_ x2) _ _ itd_tup gs_t ⟨_, q1, q2⟩⟩
theorem pic_rng1 (g : GX T n B XC W X sc) {tg e a : Expr} {m : ME} (hm : c1 sc "range" e = some [a]) (he : PE X a (tE X B XC W (ev cx false m))) : PI X tg e (tIc X.K B XC W (evIc cx (.rng1 m))) := by
  obtain ⟨a', p, pos, rfl, e1, k, k'⟩ := inv_c1 hm
  cases e1
  obtain ⟨q1, q2⟩ := glB_ok g.scope k
  refine piM (pi_range1 q1 (g.bts _ (by decide)) (pa_cons he pa_nil (star_cons k')) (star_cons k')) fun σ H Q h => ?_
  obtain ⟨Sh, s, b, h⟩ := h
  simp only [evIc, evI] at h
  refine ⟨Sh, s, b, (RP.bnd h).imp fun o s1 Sh1 H1 b1 x1 h1 v r _ => ?_⟩
  cases q : o.d <;> rw [q] at h1 <;> dsimp only at h1 <;> (try exact h1.elim)
  rename_i j
  split at h1
  · rename_i hj
    refine ⟨j, by rw [RR_int (r.rr b1) q], by omega, by omega, ?_⟩
    have := RP.ok b1 h1 _ _ (itd_range 0 j) (fun _ _ _ _ _ _ => trivial) trivial
    rwa [Int.sub_zero] at this
  · exact h1.elim
theorem pic_rng2 (g : GX T n B XC W X sc) {tg e a c : Expr} {m m' : ME} (hm : c2 sc "range" e = some [a, c]) (he : PE X a (tE X B XC W (ev cx false m))) (hc : PE X c (tE X B XC W (ev cx false m'))) : PI X tg e (tIc X.K B XC W (evIc cx (.rng2 m m'))) := by
  obtain ⟨a', c', p, pos, rfl, e1, k, k', k''⟩ := inv_c2 hm
  cases e1
  obtain ⟨q1, q2⟩ := glB_ok g.scope k
  have s2 : starEach [c] X.env = [(false, eval c X.env)] := star_cons k''
  have s1 : starEach [a, c] X.env = [(false, eval a X.env), (false, eval c X.env)] := by rw [star_cons k', s2]
  refine piM (pi_range2 q1 (g.bts _ (by decide)) (pa_cons he (pa_cons hc pa_nil (star_cons k'')) (star_cons k')) s1 s2) fun σ H Q h => ?_
  obtain ⟨Sh, s, b, h⟩ := h
  simp only [evIc, evI] at h
  refine ⟨Sh, s, b, (RP.bnd h).imp fun o s1 Sh1 H1 b1 x1 h1 v r _ => ⟨Sh1, s1, b1, (RP.bnd h1).imp fun o2 s2 Sh2 H2 b2 x2 h2 v2 r2 _ => ?_⟩⟩
  cases q : o.d <;> cases q' : o2.d <;> rw [q, q'] at h2 <;> dsimp only at h2 <;> (try exact h2.elim)
  rename_i i j
  split at h2
  · rename_i hj
    refine ⟨i, j, by rw [RR_int ((r.stp b1 x2).rr b2) q, RR_int (r2.rr b2) q'], by omega, ?_⟩
    exact RP.ok b2 h2 _ _ (itd_range i j) (fun _ _ _ _ _ _ => trivial) trivial
  · exact h2.elim
theorem pic_enum (g : GX T n B XC W X sc) {e a : Expr} {elts : List Expr} {kk : Nat} {tpos : Pos} {m : ME} (hm : c1 sc "enumerate" e = some [a]) (he : PE X a (tE X B XC W (ev cx false m))) : PI X (.Tuple elts kk tpos) e (tIc X.K B XC W (evIc cx (.enum m))) := by
  obtain ⟨a', p, pos, rfl, e1, k, k'⟩ := inv_c1 hm
  cases e1
  obtain ⟨q1, q2⟩ := glB_ok g.scope k
  refine piM (pi_enumA q1 (g.bts _ (by decide)) (pa_cons he pa_nil (star_cons k')) (star_cons k')) fun σ H Q h => ?_
  obtain ⟨Sh, s, b, h⟩ := h
  simp only [evIc] at h
  refine ⟨Sh, s, b, (RP.one h).imp fun o s1 Sh1 H1 b1 x1 h1 v r fr => ?_⟩
  obtain ⟨Sh2, b2, k2, r2⟩ := b1.consume r
  have x2 := k2 _ _ _ x1 fr
  cases q : (consume o s1).1 <;> rw [q] at h1 r2 <;> dsimp only at h1 <;> (try exact h1.elim)
  · cases r2 with
    | lst q1 q2 q3 => exact ⟨_, _, rfl, .inl ⟨.of q2, RP.ok b2 (h1.from_ x2) _ _ (itd_enum fun _ _ g => g.2) gs_l ⟨q1, _, q2, q3⟩⟩⟩
  · cases r2 with
    | tup q1 q2 => exact ⟨_, _, rfl, .inr ⟨q1, RP.ok b2 (h1.from_ x2) _ _ itd_enumT gs_t ⟨_, q1, q2⟩⟩⟩
theorem pic_zip (g : GX T n B XC W X sc) {e a c : Expr} {elts : List Expr} {kk : Nat} {tpos : Pos} {m m' : ME} (hm : c2 sc "zip" e = some [a, c]) (he : PE X a (tE X B XC W (ev cx false m))) (hc : PE X c (tE X B XC W (ev cx false m'))) : PI X (.Tuple elts kk tpos) e (tIc X.K B XC W (evIc cx (.zip m m'))) := by
  obtain ⟨a', c', p, pos, rfl, e1, k, k', k''⟩ := inv_c2 hm
  cases e1
  obtain ⟨q1, q2⟩ := glB_ok g.scope k
  have s2 : starEach [c] X.env = [(false, eval c X.env)] := star_cons k''
  refine piM (RZ.pi_zipA q1 (g.bts _ (by decide)) (pa_cons he (pa_cons hc pa_nil (star_cons k'')) (star_cons k')) (star_cons k') (by rw [s2]; rfl)) fun σ H Q h => ?_
  obtain ⟨Sh, s, b, h⟩ := h
  simp only [evIc] at h
  refine ⟨Sh, s, b, (RP.one h).imp fun o s1 Sh1 H1 b1 x1 h1 v r fr => ?_⟩
  obtain ⟨Sh2, b2, k2, r2⟩ := b1.consume r
  have x2 := k2 _ _ _ x1 fr
  refine ⟨Sh2, (consume o s1).2, b2, (RP.one (h1.from_ x2)).imp fun o3 s3 Sh3 H3 b3 x3 h3 v3 r3 fr3 => ?_⟩
  obtain ⟨Sh4, b4, k4, r4⟩ := b3.consume r3
  have x4 := k4 _ _ _ x3 fr3
  have r2 := DR.mono (x4.stays b2) r2
  cases q : (consume o s1).1 <;> cases q' : (consume o3 s3).1 <;> rw [q, q'] at h3 <;> rw [q] at r2 <;> rw [q'] at r4 <;> dsimp only at h3 <;> (try exact h3.elim)
  · cases r2 with
    | lst q1 q2 q3 =>
      cases r4 with
      | lst q4 q5 q6 => exact ⟨_, _, _, _, rfl, .inl ⟨.of q2, .of q5, RP.ok b4 (h3.from_ x4) _ _ (itd_zip fun _ _ g => ⟨g.1.2, g.2.2⟩) (gs_and gs_l gs_l) ⟨⟨q1, _, q2, q3⟩, q4, _, q5, q6⟩⟩⟩
  · cases r2 with
    | tup q1 q2 =>
      cases r4 with
      | tup q4 q5 => exact ⟨_, _, _, _, rfl, .inr ⟨q1, q4, RP.ok b4 (h3.from_ x4) _ _ itd_zipT (gs_and gs_t gs_t) ⟨⟨_, q1, q2⟩, _, q4, q5⟩⟩⟩
end
end MP
set_option Elab.async false
set_option linter.all false
set_option maxRecDepth 100000
/-! Stores into the draws' state. -/
namespace MP
open PySem PySem.Spec PyProof.Rows L2

section
variable {T : Tab} {n : Nat} {B : Bs} {XC : Nat → Addr} {W : WX} {X : Cx} {sc : Scope} {cx : Cxt} {Dn : Ends} {σ : L2.St} {s : S} {Sh : Addr → Prop} {H : Hp}
def wL (l : Addr) (w : MP.W) : List V := [.ref l, .int w.at_, .int w.rest, .int w.seed]
theorem BI.updSt {K : PySem.W.Frag} {a : Addr} (b : BI K B Sh s σ H) (ha : B.st = some a) {w : MP.W} (hc : w.cells = s.w.cells) (h1 : 0 ≤ w.rest) (h2 : 0 ≤ w.seed ∧ w.seed < 2147483647) : ∃ l, H a = some (.lst (wL l s.w)) ∧ BI K B Sh { s with w := w } σ (upd H a (.lst (wL l w))) ∧ Stays Sh H Sh (upd H a (.lst (wL l w))) := by
  obtain ⟨l, m1, m2, m3, m4, m5⟩ := b.stk a ha
  have nS : ∀ {x}, Sh x → x ≠ a := fun {x} h e => (b.shL x h).2 (by rw [e]; exact ha)
  have y : Stays Sh H Sh (upd H a (.lst (wL l w))) := ⟨fun _ h => h, fun c o h e => by rw [upd_ne (nS h)]; exact e, fun c zs r => by
    have : c ≠ a := by
      rintro rfl
      rcases r with r | ⟨o, r⟩ <;> (rw [m1] at r; cases r)
    rcases r with r | ⟨o, r⟩
    · exact .inl (by rw [upd_ne this]; exact r)
    · exact .inr ⟨o, by rw [upd_ne this]; exact r⟩⟩
  refine ⟨l, m1, ⟨fun c o e q => ?_, b.sh0, b.shN, fun c q => ⟨?_, (b.shL c q).2⟩, fun c e => ?_, b.len, fun i d e => ?_, fun i d e => ?_, b.inj⟩, y⟩
  · rw [upd_ne]
    · exact b.keep c o e q
    · rintro rfl; exact q ha
  · rw [upd_ne (nS q)]; exact (b.shL c q).1
  · rw [ha] at e; cases e
    exact ⟨l, upd_same, m2, by rw [upd_ne (nS m2), m3, hc], h1, h2⟩
  · obtain ⟨v, e1, e2⟩ := b.var i d e
    exact ⟨v, e1, e2.mono y⟩
  · obtain ⟨c, e1, e2, e3, e4, e5⟩ := b.own i d e
    have : c ≠ a := by rintro rfl; exact e4 ha
    exact ⟨c, e1, e2, e3, e4, e5.mono y fun o q => by rw [upd_ne this]; exact q⟩
/-- a part of the state is stored -/
theorem stSet_rd {K : PySem.W.Frag} {a : Addr} {k : Nat} {d : D} {v : V} {w : MP.W} {Q : Hp → Prop} (b : BI K B Sh s σ H) (ha : B.st = some a) (hw : stSet s.w k d = some w) (r : DR K Sh B.st H v d) (q : ∀ H', BI K B Sh { s with w := w } σ H' → Stays Sh H Sh H' → Q H') :
    rSetL (V.ref a) (V.int (k : Int)) v H Q := by
  obtain ⟨_, _, _, _, m4, m5⟩ := b.stk a ha
  unfold stSet at hw
  split at hw
  · split at hw
    · rename_i i hi
      cases hw
      cases r
      obtain ⟨l, n1, n2, n3⟩ := b.updSt (w := { s.w with at_ := i.toNat }) ha rfl m4 m5
      refine ⟨a, _, _, 1, rfl, rfl, n1, rfl, ?_⟩
      have e : (wL l s.w).set 1 (V.int i) = wL l { s.w with at_ := i.toNat } := by
        show [V.ref l, V.int i, V.int s.w.rest, V.int s.w.seed] = [V.ref l, V.int (i.toNat : Int), V.int s.w.rest, V.int s.w.seed]
        rw [Int.toNat_of_nonneg hi]
      rw [e]
      exact q _ n2 n3
    · cases hw
  · split at hw
    · rename_i i hi
      cases hw
      cases r
      obtain ⟨l, n1, n2, n3⟩ := b.updSt (w := { s.w with rest := i }) ha rfl hi m5
      exact ⟨a, _, _, 2, rfl, rfl, n1, rfl, q _ n2 n3⟩
    · cases hw
  · split at hw
    · rename_i i hi
      cases hw
      cases r
      obtain ⟨l, n1, n2, n3⟩ := b.updSt (w := { s.w with seed := i }) ha rfl m4 hi
      exact ⟨a, _, _, 3, rfl, rfl, n1, rfl, q _ n2 n3⟩
    · cases hw
  · cases hw
theorem ps_stSM {i k : Nat} {x : Str} {e : Expr} {me : ME} {jj : Nat} {p q0 p2 pos : Pos} (g : GXS T n B XC W X sc) (hi : X.N[i]? = some x) (hv : visB sc x = true) (h1 : (x == ("__debug__" : Str)) = false) (h2 : (x == ("__classdict__" : Str)) = false)
    (he : PE X e (tE X B XC W (ev cx false me))) (hs : swapsWithSole [.Subscript (.Name x p) (.Constant (.int (k : Int)) jj q0) p2] e pos.line X.env = pure false) :
    PS X (.Assign [.Subscript (.Name x p) (.Constant (.int (k : Int)) jj q0) p2] e pos) (tSt X B XC W (ex cx (.stS i k me))) :=
  psM (ps_asg he (pg_sub (pe_var hi (visB_ok g.scope hv) h1 h2) pe_int set_list) hs (by rfl) (by rfl)) fun Dn σ H q => by
    obtain ⟨Sh, s, b, q⟩ := q
    simp only [ex] at q
    refine ⟨Sh, s, b, (RS.one b q).imp fun o s1 Sh1 H1 b1 x1 h1 v r fr => ?_⟩
    obtain ⟨Sh2, b2, x2, r2, h2⟩ := h1 v r fr
    split at h2
    · rename_i e0
      split at h2
      · rename_i w ew
        obtain ⟨u, eu, ru⟩ := b2.var i _ e0
        cases ru with
        | st hst => exact ⟨_, eu, stSet_rd b2 hst ew r2 fun H' b' y' => h2 _ _ _ b' y'⟩
      · exact h2.elim
    · exact h2.elim
theorem ps_stAM {i k : Nat} {x : Str} {e : Expr} {me : ME} {jj : Nat} {p q0 p2 pos : Pos} (g : GXS T n B XC W X sc) (hi : X.N[i]? = some x) (hv : visB sc x = true) (h1 : (x == ("__debug__" : Str)) = false) (h2 : (x == ("__classdict__" : Str)) = false)
    (hk : k ≠ 0) (he : PE X e (tE X B XC W (ev cx false me))) :
    PS X (.AugAssign (.Subscript (.Name x p) (.Constant (.int (k : Int)) jj q0) p2) .Add e pos) (tSt X B XC W (ex cx (.stA i k me))) :=
  psM (ps_augS (pe_var hi (visB_ok g.scope hv) h1 h2) pe_int get_list he ip_add set_list) fun Dn σ H q => by
    obtain ⟨Sh, s, b, q⟩ := q
    simp only [ex] at q
    split at q
    · rename_i e0
      split at q
      · rename_i old eo
        obtain ⟨u, eu, ru⟩ := b.var i _ e0
        cases ru with
        | st hst =>
          rename_i a
          obtain ⟨l, m1, m2, m3, m4, m5⟩ := b.stk a hst
          have next : ∀ (z : Int), old = .int z → atI (wL l s.w) (k : Int) = some (.int z) → tAugS (tVar i) (tC (.int (k : Int))) (tE X B XC W (ev cx false me)) (rIxL X.K) (ipI fun i j => i + j) rSetL Dn σ H := fun z ez hz => by
            subst ez
            refine ⟨_, eu, a, wL l s.w, (k : Int), .int z, rfl, rfl, .of m1, hz, Sh, s, b, (RS.bnd b q).imp fun o1 s1 Sh1 H1 b1 x1 h1 v r fr => ?_⟩
            split at h1
            · rename_i d ed
              split at h1
              · rename_i w ew
                generalize hy : o1.d = yy at ed
                unfold augD at ed
                split at ed
                · rename_i y1 y2 e2
                  cases e2
                  cases ed
                  have hv := RR_int (r.rr b1) hy
                  subst hv
                  exact ⟨_, _, rfl, rfl, stSet_rd b1 hst ew (.int _) fun H' b' y' => h1 _ _ _ b' y'⟩
                · first
                    | contradiction
                    | (rename_i h8 h9; cases h8)
                    | (rename_i h9 h8; cases h8)
                · cases ed
              · exact h1.elim
            · exact h1.elim
          unfold stGet at eo
          split at eo
          · exact absurd rfl hk
          · cases eo
            exact next _ rfl rfl
          · cases eo
            exact next _ rfl rfl
          · cases eo
            exact next _ rfl rfl
          · cases eo
      · exact q.elim
    · exact q.elim
end
end MP
set_option Elab.async false
set_option linter.all false
set_option maxRecDepth 100000
/-! The forms of statements; the theorem about all statements. -/
namespace MP
open PySem PySem.Spec PyProof.Rows L2

def isComp : Expr → Bool
  | .ListComp _ _ _ _ => true
  | .SetComp _ _ _ _ => true
  | .DictComp _ _ _ _ _ => true
  | _ => false
theorem swapsWith_no {e : Expr} (h : isComp e = false) (t : Option Expr) (l : Nat) (env : PySem.Env) : swapsWith e t l env = pure false := by
  cases e <;> first | rfl | (simp [isComp] at h)
def isNm : Expr → Bool
  | .Name _ _ => true
  | _ => false
theorem swapsWith_else {e : Expr} {t : Expr} (h : isNm t = false) (l : Nat) (env : PySem.Env) : swapsWith e (some t) l env = pure false := by
  cases e <;> first | rfl | (cases t <;> first | rfl | (simp [isNm] at h))
/-- is a block's own frame swapped in -/
def swapB (sc : Scope) (x : Str) (l : Nat) (e : Expr) : Bool := match e with
  | .ListComp _ _ scope p => (sc.kind == .function) && sc.names.lookup x == some .local && l == p.line && !scope.names.any fun (n, k) => n == x && (k == .local || k == .cell)
  | _ => false
theorem swapsWith_nm {env : PySem.Env} {sc : Scope} {x : Str} {p : Pos} {e : Expr} {l : Nat} (hs : env.scope = sc) (hk : sc.kind = .function) (hc : isComp e = false ∨ (∃ a b c d, e = .ListComp a b c d)) :
    swapsWith e (some (.Name x p)) l env = pure (swapB sc x p.line e) := by
  rcases hc with hc | ⟨a, b, c, d, rfl⟩
  · rw [swapsWith_no hc]
    cases e <;> first | rfl | (simp [isComp] at hc)
  · subst hs
    have bk : env.blockKind = .function := by
      unfold Env.blockKind
      rw [hk]; rfl
    unfold swapsWith swapB
    dsimp only
    rw [bk, hk]
    rfl
/-- the stores of a pattern are not reckoned otherwise -/
def plainPat (e : Expr) : Bool := match e with
  | .Tuple vs _ _ => vs.all (foldedForSure 8)
  | _ => true
theorem swapped_none {t e : Expr} {env : PySem.Env} (h : plainPat e = true) : swappedStores [t] e env = pure none := by
  cases t <;> first | rfl | skip
  all_goals
    cases e <;> first | rfl | skip
  all_goals
    simp only [plainPat] at h
    unfold swappedStores
    dsimp only
    split
    · rfl
    · split
      · rfl
      · split
        · rfl
        · first | rfl | rw [if_pos h]
/-- a name among them is kept in a cell -/
def cellPat (sc : Scope) (t : Expr) : Bool := match t with
  | .Tuple ts _ _ => ts.any fun e => match e with | .Name x _ => sc.names.lookup x != some .local | _ => true
  | _ => false
theorem filt_lt {α β : Type} (f : α → Option β) : ∀ {l : List α}, (∃ x ∈ l, f x = none) → (l.filterMap f).length < l.length
  | [], ⟨x, hx, _⟩ => by cases hx
  | a :: l, ⟨x, hx, h⟩ => by
    have hle := List.length_filterMap_le f l
    rcases List.mem_cons.mp hx with rfl | hx
    · rw [List.filterMap_cons_none h, List.length_cons]; omega
    · have := filt_lt f ⟨x, hx, h⟩
      rw [List.length_cons]
      cases e : f a with
      | none => rw [List.filterMap_cons_none e]; omega
      | some b => rw [List.filterMap_cons_some e, List.length_cons]; omega
theorem swapped_cell {t e : Expr} {env : PySem.Env} {sc : Scope} (hs : env.scope = sc) (h : cellPat sc t = true) : swappedStores [t] e env = pure none := by
  subst hs
  cases t <;> first | (simp [cellPat] at h; done) | skip
  rename_i ts kt pt
  cases e <;> first | rfl | skip
  rename_i vs k2 pt2
  unfold swappedStores
  dsimp only
  split
  · rfl
  · split
    · rfl
    · split
      · rfl
      · rename_i hn
        exfalso
        apply hn
        simp only [cellPat, List.any_eq_true] at h
        obtain ⟨x, hx, hxx⟩ := h
        rw [Bool.or_eq_true]
        refine .inl ?_
        rw [bne_iff_ne]
        refine Nat.ne_of_lt (filt_lt _ ⟨x, hx, ?_⟩)
        cases x <;> first | rfl | skip
        rename_i id pos
        have hk : env.kindOf id = env.scope.names.lookup id := rfl
        dsimp only
        rw [hk]
        rw [bne_iff_ne] at hxx
        rw [if_neg]
        simp only [Bool.and_eq_true, beq_iff_eq]
        exact fun q => hxx q.1
/-- a pair of names takes a pair -/
def pairB (sc : Scope) (x y : Str) (px py : Pos) (a c : Expr) : Bool :=
  (sc.kind == .function) && decide (x ≠ y) && decide (px.line = py.line) && decide (sc.names.lookup x = some .local) && decide (sc.names.lookup y = some .local) && okE a && okE c && !([a, c].all (foldedForSure 8)) && !([a, c].all (constantsAlone 8))
theorem swapped_pair {env : PySem.Env} {sc : Scope} {x y : Str} {px py pt pt2 : Pos} {kt k2 : Nat} {a c : Expr} (hs : env.scope = sc) (h : pairB sc x y px py a c = true) :
    swappedStores [.Tuple [.Name x px, .Name y py] kt pt] (.Tuple [a, c] k2 pt2) env = pure (some [x, y]) := by
  subst hs
  unfold pairB at h
  simp only [Bool.and_eq_true, decide_eq_true_eq, beq_iff_eq, Bool.not_eq_true', Bool.not_eq_false'] at h
  obtain ⟨⟨⟨⟨⟨⟨⟨⟨hk, hne⟩, hl⟩, hx⟩, hy⟩, ka⟩, kc⟩, h1⟩, h2⟩ := h
  have bk : env.blockKind = .function := by
    unfold Env.blockKind
    rw [hk]; rfl
  have kx : env.kindOf x = some .local := hx
  have ky : env.kindOf y = some .local := hy
  have st : ([a, c].any fun e => match e with | .Starred _ _ => true | _ => false) = false := by
    have q : ∀ {e : Expr}, okE e = true → (match e with | Expr.Starred _ _ => true | _ => false) = false := fun {e} h => by
      cases e <;> first | rfl | (simp [okE] at h)
    simp only [List.any_cons, List.any_nil, Bool.or_false]
    rw [q ka, q kc]; rfl
  have ed : [x, y].eraseDups.length = 2 := by
    have e0 : (x == y) = false := by simpa using hne
    have e1 : (y == x) = false := by simpa using fun e => hne e.symm
    simp [List.eraseDups_cons, List.filter, e0, e1]
  unfold swappedStores
  dsimp only
  rw [bk]
  rw [if_neg (by simp)]
  refine (if_neg ?_).trans ?_
  · intro hq
    exact absurd (Eq.trans (Eq.symm st) hq) Bool.false_ne_true
  have px' : (Expr.Name x px).pos = px := rfl
  have lx : (px.line == px.line) = true := by simp
  have ly : (py.line == px.line) = true := by rw [hl]; simp
  have kb : (some NameKind.local == some NameKind.local) = true := by rfl
  simp only [List.filterMap_cons, List.filterMap_nil, List.head?_cons, Option.map_some, Option.getD_some, px', kx, ky, lx, ly, kb, Bool.and_self, if_true]
  rw [ed]
  rw [if_neg (by simp)]
  rw [if_neg (by rw [h1]; decide)]
  rw [if_neg (by rw [h2]; decide)]

section
variable {T : Tab} {n : Nat} {B : Bs} {XC : Nat → Addr} {W : WX} {X : Cx} {sc : Scope} {cx : Cxt} {σ : L2.St} {s : S} {Sh : Addr → Prop} {H H1 : Hp} {Q : VK}
theorem pt_setLcM (g : GXS T n B XC W X sc) {i : Nat} {y : Str} {py spos : Pos} {x it t : Expr} {ifs : List Expr} {scope : Scope} {pos : Pos} {own : List Nat} {elt : ME} {tg : MT} {src : MI} {cond : Option ME} (hy : X.N[i]? = some y) (hl : sc.names.lookup y = some .local)
    (hsw : swapB sc y py.line (.ListComp x [⟨t, it, ifs, 0⟩] scope pos) = true) (hb : blkC X.N sc scope (ownP X.N own) = true) (ho : (ownP X.N own).map (·.2) = own)
    (ht : mT X.N (relS scope sc) (fnC scope) tg t = true) (hv : ∀ i ∈ slotsT tg, i ∈ own) (hit : okE it = true) (hi : PI X t it (tI X.K B XC W (evI cx src)))
    (he : ∀ (s : Shared) (H : Hp) (C : Addr) (cl : List (Str × Addr)) (fp : List Addr), PE (X.blk s H scope (compEnvC scope cl C X.env) fp) x (tE X B XC W0 (ev cx false elt)))
    (hc : ∀ (s : Shared) (H : Hp) (C : Addr) (cl : List (Str × Addr)) (fp : List Addr), PTs (X.blk s H scope (compEnvC scope cl C X.env) fp) ifs (tO X.K B XC (fun s => evO cx cond s))) :
    PS X (.Assign [.Name y py] (.ListComp x [⟨t, it, ifs, 0⟩] scope pos) spos) (tAsg (tE X B XC W (ev cx false (.comp own elt tg src cond))) (gName i)) := by
  have ok := blkOk_by hb
  rw [← g.scope] at ok
  refine psM (ps_setLc (g := gM X.K B tg) g.calm g.nd hy (by rw [g.scope]; exact hl) ?_ hi ok (fun s H C cl fp => pg_all (B := B) (g.toGX.blk ok.kind s H C cl fp).scope g.nd g.calm tg t ht) hc he (fold_ok hit X.env)) fun Dn σ H q => ?_
  · rw [swapsWith_nm g.scope g.kind (.inr ⟨_, _, _, _, rfl⟩), hsw]
  · rw [ho]
    exact comp_rd hv q
end
def augB (o : Op) (op : Operator) : Bool := match o, op with
  | .add, .Add => true
  | .sub, .Sub => true
  | _, _ => false
theorem augB_or {o : Op} {op : Operator} (h : augB o op = true) : (o = .add ∧ op = .Add) ∨ (o = .sub ∧ op = .Sub) := by
  unfold augB at h
  split at h
  · exact .inl ⟨rfl, rfl⟩
  · exact .inr ⟨rfl, rfl⟩
  · cases h
def nmB (N : List Str) (sc : Scope) (i : Nat) (x : Str) : Bool := decide (N[i]? = some x) && visB sc x && !(x == ("__debug__" : Str)) && !(x == ("__classdict__" : Str))
mutual
def mS (T : Tab) (N : List Str) (sc : Scope) : MS → Stmt → Bool
  | .asg t e, st => match st with
    | .Assign [tg] v _ => mE T N sc e v && (match t with
      | .nm i => (match tg with
        | .Name x p => decide (N[i]? = some x) && locB sc (fun _ => true) x && (match v with
          | .SetComp _ _ _ _ => false
          | .DictComp _ _ _ _ _ => false
          | _ => true)
        | _ => false)
      | t => mT N sc (fun _ => true) t tg && (plainPat v || cellPat sc tg))
    | _ => false
  | .par is es, st => match is, es, st with
    | [i, j], [ma, mc], .Assign [.Tuple [.Name x px, .Name y py] _ _] (.Tuple [a, c] _ _) _ => decide (N[i]? = some x) && decide (N[j]? = some y) && decide (i ≠ j) && pairB sc x y px py a c && mE T N sc ma a && mE T N sc mc c
    | _, _, _ => false
  | .stV i k e, st => match st with
    | .Assign [.Subscript (.Name x _) kk _] v _ => nmB N sc i x && okE kk && mE T N sc k kk && mE T N sc e v
    | _ => false
  | .aug i o e, st => match st with
    | .AugAssign (.Name x _) op v _ => decide (N[i]? = some x) && locB sc (fun _ => true) x && augB o op && mE T N sc e v
    | _ => false
  | .augS i k o e, st => match st with
    | .AugAssign (.Subscript (.Name x _) kk _) op v _ => nmB N sc i x && okE kk && augB o op && mE T N sc k kk && mE T N sc e v
    | _ => false
  | .mut m i es, st => match m, es, st with
    | .append, [e], .Expr (.Call (.Attribute (.Name x _) a ap) [v] [] cp) _ => nmB N sc i x && decide (a = "append") && okE v && (ap.endLine == cp.line) && mE T N sc e v
    | _, _, _ => false
  | .popA _ _ _, _ => false
  | .ife c a b, st => match st with
    | .If t x y _ => mE T N sc c t && mSs T N sc a x && mSs T N sc b y
    | _ => false
  | .forS t src b, st => match st with
    | .For tg it body [] _ => okE it && mI T N sc src tg it && mT N sc (fun _ => true) t tg && mSs T N sc b body
    | _ => false
  | .whl c b, st => match st with
    | .While t body [] _ => mE T N sc c t && mSs T N sc b body
    | _ => false
  | .ret e, st => match st with
    | .Return (some v) _ => mE T N sc e v
    | _ => false
  | .expr e, st => match st with
    | .Expr v _ => !isComp v && mE T N sc e v
    | _ => false
  | .raise c, st => match st with
    | .Raise (some (.Call (.Name x _) [.Constant (.str _) _ _] [] _)) none _ => exOk c && decide (x = excNm c) && glB sc x
    | _ => false
  | .tryS b hs, st => match st with
    | .Try body (h0 :: hds) [] [] _ => mHds N sc hs (h0 :: hds) && mSs T N sc b body
    | _ => false
  | .pass, st => match st with
    | .Pass _ => true
    | _ => false
  | .brk, st => match st with
    | .Break _ => true
    | _ => false
  | .cnt, st => match st with
    | .Continue _ => true
    | _ => false
  | .stS i k e, st => match st with
    | .Assign [.Subscript (.Name x _) (.Constant (.int j) _ _) _] v _ => nmB N sc i x && decide (j = (k : Int)) && mE T N sc e v
    | _ => false
  | .stA i k e, st => match st with
    | .AugAssign (.Subscript (.Name x _) (.Constant (.int j) _ _) _) .Add v _ => nmB N sc i x && decide (j = (k : Int)) && decide (k ≠ 0) && mE T N sc e v
    | _ => false
def mSs (T : Tab) (N : List Str) (sc : Scope) : List MS → List Stmt → Bool
  | [], sts => sts.isEmpty
  | m :: ms, sts => match sts with
    | [] => false
    | st :: r => mS T N sc m st && mSs T N sc ms r
end
section
variable {T : Tab} {n : Nat} {B : Bs} {XC : Nat → Addr}
theorem pic_all (src : MI) {W : WX} {X : Cx} {sc : Scope} {t e : Expr} (g : GX T n B XC W X sc) (h : mI T X.N sc src t e = true) : PI X t e (tIc X.K B XC W (evIc ⟨callF T n, T.gl⟩ src)) := by
  cases src with
  | seq m =>
    unfold mI at h
    exact pic_seq (pe_all m g h).2.1
  | rng1 m =>
    unfold mI at h
    split at h
    · rename_i a hm
      exact pic_rng1 g hm (pe_all m g h).2.1
    · cases h
  | rng2 m m' =>
    unfold mI at h
    split at h
    · rename_i a b hm
      rw [Bool.and_eq_true] at h
      exact pic_rng2 g hm (pe_all m g h.1).2.1 (pe_all m' g h.2).2.1
    · cases h
  | enum m =>
    unfold mI at h
    rw [Bool.and_eq_true] at h
    obtain ⟨ht, h⟩ := h
    unfold isTup at ht
    split at ht
    · split at h
      · rename_i a hm
        exact pic_enum g hm (pe_all m g h).2.1
      · cases h
    · cases ht
  | zip m m' =>
    unfold mI at h
    rw [Bool.and_eq_true] at h
    obtain ⟨ht, h⟩ := h
    unfold isTup at ht
    split at ht
    · split at h
      · rename_i a b hm
        rw [Bool.and_eq_true] at h
        exact pic_zip g hm (pe_all m g h.1).2.1 (pe_all m' g h.2).2.1
      · cases h
    · cases ht
  | items _ => simp [mI] at h
theorem nmB_ok {N : List Str} {sc : Scope} {i : Nat} {x : Str} (h : nmB N sc i x = true) : N[i]? = some x ∧ visB sc x = true ∧ (x == ("__debug__" : Str)) = false ∧ (x == ("__classdict__" : Str)) = false := by
  unfold nmB at h
  simp only [Bool.and_eq_true, decide_eq_true_eq, Bool.not_eq_true'] at h
  exact ⟨h.1.1.1, h.1.1.2, h.1.2, h.2⟩
mutual
theorem ps_allS : ∀ (m : MS) {W : WX} {X : Cx} {sc : Scope} {st : Stmt}, GXS T n B XC W X sc → EX X.K X.mg XC → mS T X.N sc m st = true → PS X st (tS X.K B XC W (ex ⟨callF T n, T.gl⟩ m))
  | .asg t e, W, X, sc, st, g, E, h => by
    unfold mS at h
    split at h
    · rename_i tg v pos
      rw [Bool.and_eq_true] at h
      obtain ⟨h1, h2⟩ := h
      have p1 := (pe_all e g.toGX h1).2.1
      split at h2
      · rename_i i
        split at h2
        · rename_i x p
          simp only [Bool.and_eq_true, decide_eq_true_eq] at h2
          obtain ⟨⟨k1, k2⟩, k3⟩ := h2
          have hx : locB sc X.fn x = true := by rw [g.fnT]; exact k2
          have hl : Loc X.env.scope x ∧ (X.fn x = true ∨ X.env.scope.names.lookup x = some .local) := by
            rw [g.scope]
            have q := hx
            unfold locB at q
            split at q
            · exact ⟨.inl (by assumption), .inr (by assumption)⟩
            · exact ⟨.inr (by assumption), .inl q⟩
            · cases q
          have plain : ∀ {te : TE}, swapsWith v (some (.Name x p)) pos.line X.env = pure false → PE X v te → PS X (.Assign [.Name x p] v pos) (tAsg te (gName i)) := fun hs he => ps_set g.nd k1 hl.1 he hs hl.2
          by_cases hc : isComp v = false
          · exact ps_setM g k1 hx (plain (swapsWith_no hc _ _ _) p1)
          · cases v <;> first | exact absurd rfl hc | skip
            · rename_i a b c d
              by_cases hw : swapB sc x p.line (.ListComp a b c d) = true
              · cases e <;> first | (simp [mE] at h1; done) | skip
                · rename_i o es
                  exfalso
                  simp only [mE] at h1
                  cases o <;> simp [mOp, b2, q2, c1, c2] at h1
                  rename_i lo hi
                  cases lo <;> cases hi <;> simp [mOp] at h1
                · rename_i own elt tg src cond
                  unfold mE at h1
                  split at h1
                  · rename_i e1
                    simp only [Expr.ListComp.injEq] at e1
                    obtain ⟨rfl, rfl, rfl, rfl⟩ := e1
                    simp only [Bool.and_eq_true, decide_eq_true_eq] at h1
                    obtain ⟨⟨⟨⟨⟨⟨⟨⟨q0, q1⟩, q2⟩, q3⟩, q4⟩, q5⟩, q6⟩, q7⟩, q8⟩ := h1
                    subst q0
                    have hloc : sc.names.lookup x = some .local := by
                      unfold swapB at hw
                      simp only [Bool.and_eq_true, beq_iff_eq] at hw
                      exact hw.1.1.2
                    exact ps_setM g k1 hx (pt_setLcM g k1 hloc hw q1 q2 q3 (fun i hi => by simpa using List.all_eq_true.mp q4 i hi) q5 (pi_all src g.toGX q6) (fun s H C cl fp => (pe_all elt (g.toGX.blk (blkC_kind q1) s H C cl fp) q7).2.1)
                      (fun s H C cl fp => pts_all cond (g.toGX.blk (blkC_kind q1) s H C cl fp) q8) (spos := pos))
                  · cases h1
              · refine ps_setM g k1 hx (plain ?_ p1)
                rw [swapsWith_nm g.scope g.kind (.inr ⟨_, _, _, _, rfl⟩)]
                congr 1
                simpa using hw
            · cases k3
            · cases k3
        · cases h2
      · rename_i hn
        rw [Bool.and_eq_true] at h2
        have ht : mT X.N sc X.fn t tg = true := by rw [g.fnT]; exact h2.1
        have nn : isNm tg = false := by
          cases t with
          | nm i => exact absurd rfl (hn i)
          | tp ts => 
            have q := h2.1
            unfold mT at q
            split at q
            · rfl
            · cases q
          | tl ts =>
            have q := h2.1
            unfold mT at q
            split at q
            · rfl
            · cases q
        refine ps_asgM g ht (fun i e => hn i e) p1 (swapsWith_else nn _ _) ((Bool.or_eq_true .. ▸ h2.2).elim swapped_none (swapped_cell g.scope)) ?_
        cases tg <;> first | rfl | (cases t <;> simp [mT] at ht)
    · cases h
  | .par is es, W, X, sc, st, g, E, h => by
    unfold mS at h
    split at h
    · rename_i i j ma mc x px y py _ _ a c _ _ _
      simp only [Bool.and_eq_true, decide_eq_true_eq] at h
      obtain ⟨⟨⟨⟨⟨k1, k2⟩, k3⟩, k4⟩, k5⟩, k6⟩ := h
      have k4' := k4
      unfold pairB at k4'
      simp only [Bool.and_eq_true, decide_eq_true_eq] at k4'
      obtain ⟨⟨⟨⟨⟨⟨⟨⟨_, _⟩, _⟩, hx⟩, hy⟩, ka⟩, kc⟩, _⟩, _⟩ := k4'
      exact ps_parM g k1 k2 k3 hx hy ka kc (pe_all ma g.toGX k5).2.1 (pe_all mc g.toGX k6).2.1 (swapped_pair g.scope k4)
    · cases h
  | .stV i k e, W, X, sc, st, g, E, h => by
    unfold mS at h
    split at h
    · rename_i x p kk p2 v pos
      simp only [Bool.and_eq_true] at h
      obtain ⟨⟨⟨k1, k2⟩, k3⟩, k4⟩ := h
      obtain ⟨n1, n2, n3, n4⟩ := nmB_ok k1
      exact ps_stVM g n1 n2 n3 n4 k2 (pe_all k g.toGX k3).2.1 (pe_all e g.toGX k4).2.1 (show swapsWith v (some (.Subscript (.Name x p) kk p2)) pos.line X.env = pure false from swapsWith_else (t := .Subscript (.Name x p) kk p2) rfl _ _) rfl
    · cases h
  | .aug i o e, W, X, sc, st, g, E, h => by
    unfold mS at h
    split at h
    · simp only [Bool.and_eq_true, decide_eq_true_eq] at h
      obtain ⟨⟨⟨k1, k2⟩, k3⟩, k4⟩ := h
      exact ps_augM g k1 (by rw [g.fnT]; exact k2) (augB_or k3) (pe_all e g.toGX k4).2.1
    · cases h
  | .augS i k o e, W, X, sc, st, g, E, h => by
    unfold mS at h
    split at h
    · simp only [Bool.and_eq_true] at h
      obtain ⟨⟨⟨⟨k1, k2⟩, k3⟩, k4⟩, k5⟩ := h
      obtain ⟨n1, n2, n3, n4⟩ := nmB_ok k1
      exact ps_augSM g n1 n2 n3 n4 k2 (augB_or k3) (pe_all k g.toGX k4).2.1 (pe_all e g.toGX k5).2.1
    · cases h
  | .mut m i es, W, X, sc, st, g, E, h => by
    unfold mS at h
    split at h
    · simp only [Bool.and_eq_true, decide_eq_true_eq] at h
      obtain ⟨⟨⟨⟨k1, rfl⟩, k3⟩, k4⟩, k5⟩ := h
      obtain ⟨n1, n2, n3, n4⟩ := nmB_ok k1
      exact ps_appM (m := "append") g n1 n2 n3 n4 k3 k4 (pe_all _ g.toGX k5).2.1
    · cases h
  | .popA _ _ _, W, X, sc, st, g, E, h => by simp [mS] at h
  | .ife c a b, W, X, sc, st, g, E, h => by
    unfold mS at h
    split at h
    · simp only [Bool.and_eq_true] at h
      exact ps_ifM (pe_all c g.toGX h.1.1).2.2 (pss_allS a g E h.1.2) (pss_allS b g E h.2)
    · cases h
  | .forS t src b, W, X, sc, st, g, E, h => by
    unfold mS at h
    split at h
    · simp only [Bool.and_eq_true] at h
      exact ps_forM g (pic_all src g.toGX h.1.1.2) (by rw [g.fnT]; exact h.1.2) h.1.1.1 (pss_allS b g E h.2)
    · cases h
  | .whl c b, W, X, sc, st, g, E, h => by
    unfold mS at h
    split at h
    · simp only [Bool.and_eq_true] at h
      exact ps_whlM g.po (pe_all c g.toGX h.1).2.2 (pss_allS b g E h.2)
    · cases h
  | .ret e, W, X, sc, st, g, E, h => by
    unfold mS at h
    split at h
    · exact ps_retM (pe_all e g.toGX h).2.1
    · cases h
  | .expr e, W, X, sc, st, g, E, h => by
    unfold mS at h
    split at h
    · simp only [Bool.and_eq_true, Bool.not_eq_true'] at h
      exact ps_exprM (pe_all e g.toGX h.2).2.1 (swapsWith_no h.1 _ _ _)
    · cases h
  | .raise c, W, X, sc, st, g, E, h => by
    unfold mS at h
    split at h
    · simp only [Bool.and_eq_true, decide_eq_true_eq] at h
      exact ps_raiseM g E h.1.1 h.1.2 h.2
    · cases h
  | .tryS b hs, W, X, sc, st, g, E, h => by
    unfold mS at h
    split at h
    · simp only [Bool.and_eq_true] at h
      exact ps_tryM g E h.1 fun {W' pn xe} g' => pss_allS (X := X.tr pn xe) b g' E h.2
    · cases h
  | .pass, W, X, sc, st, g, E, h => by
    unfold mS at h
    split at h
    · exact ps_passM
    · cases h
  | .brk, W, X, sc, st, g, E, h => by
    unfold mS at h
    split at h
    · exact ps_brkM
    · cases h
  | .cnt, W, X, sc, st, g, E, h => by
    unfold mS at h
    split at h
    · exact ps_cntM
    · cases h
  | .stS i k e, W, X, sc, st, g, E, h => by
    unfold mS at h
    split at h
    · rename_i x p j jj q0 p2 v pos
      simp only [Bool.and_eq_true, decide_eq_true_eq] at h
      obtain ⟨⟨k1, rfl⟩, k3⟩ := h
      obtain ⟨n1, n2, n3, n4⟩ := nmB_ok k1
      exact ps_stSM g n1 n2 n3 n4 (pe_all e g.toGX k3).2.1 (show swapsWith v (some (.Subscript (.Name x p) (.Constant (.int (k : Int)) jj q0) p2)) pos.line X.env = pure false from swapsWith_else (t := .Subscript (.Name x p) (.Constant (.int (k : Int)) jj q0) p2) rfl _ _)
    · cases h
  | .stA i k e, W, X, sc, st, g, E, h => by
    unfold mS at h
    split at h
    · simp only [Bool.and_eq_true, decide_eq_true_eq] at h
      obtain ⟨⟨⟨k1, rfl⟩, k2⟩, k3⟩ := h
      obtain ⟨n1, n2, n3, n4⟩ := nmB_ok k1
      exact ps_stAM g n1 n2 n3 n4 k2 (pe_all e g.toGX k3).2.1
    · cases h
theorem pss_allS : ∀ (ms : List MS) {W : WX} {X : Cx} {sc : Scope} {sts : List Stmt}, GXS T n B XC W X sc → EX X.K X.mg XC → mSs T X.N sc ms sts = true → PSs X sts (tS X.K B XC W (exs ⟨callF T n, T.gl⟩ ms))
  | [], W, X, sc, sts, g, E, h => by
    simp only [mSs, List.isEmpty_iff] at h
    subst h
    exact pss_nilM
  | m :: ms, W, X, sc, sts, g, E, h => by
    cases sts with
    | nil => simp [mSs] at h
    | cons st r =>
      simp only [mSs, Bool.and_eq_true] at h
      exact pss_consM (ps_allS m g E h.1) (pss_allS ms g E h.2)
end
end
end MP
set_option Elab.async false
set_option linter.all false
set_option maxRecDepth 100000
/-! Each def of a table keeps its promise. -/
namespace MP
open PySem PySem.Spec PyProof.Rows L2

/-- what the written part says of one def of a table -/
structure DefIn (K : PySem.W.Frag) (mg : Str → Option Value) (T : Tab) (fd : FD) : Prop where
  ex : ∃ (a : Addr) (fdt : FuncData) (st : Stmt), Fun K fd.name fd.name st a fdt ∧ mg fd.name = some (.ref a) ∧ PySem.W.keepIn K (.ref a) = true ∧ Binds K fdt (fd.slots.take fd.np) [] ∧ FnScope fd.slots (fd.slots.take fd.np) (defScope st) ∧ mSs T fd.slots (defScope st) fd.body (defBody st) = true ∧ fd.np ≤ fd.slots.length
/-- the static part of a run -/
structure TX (P : Program) (w : World) (K : PySem.W.Frag) (mg : Str → Option Value) (base : Heap) (XC : Nat → Addr) (T : Tab) : Prop where
  ex : EX K mg XC
  defs : ∀ f fd, f ≠ 0 → T.fn f = some fd → DefIn K mg T fd
  gls : ∀ g nm d, T.gls.lookup g = some (nm, d) → ∃ (u : Value) (v : V), mg nm = some u ∧ RelV v u ∧ ∀ Sh st H, DR K Sh st H v d
  bts : ∀ x ∈ bnames, mg x = none
  next : ∃ (a : Addr) (fdt : FuncData) (ps : List Str), mg "_law_next" = some (.ref a) ∧ PySem.W.keepIn K (.ref a) = true ∧ Binds K fdt ps [] ∧ ∀ n, FnOk P w K mg base (L2.CX P w) (n + 1) a fdt ps (spM K XC T (n + 1) 0)
section
variable {P : Program} {w : World} {K : PySem.W.Frag} {mg : Str → Option Value} {base : Heap} {XC : Nat → Addr} {T : Tab}
theorem start_at {m : Nat} {ds : List D} {i : Nat} {d : D} {o : Bool} (h : (startE m ds)[i]? = some (some (d, o))) : o = false ∧ ds[i]? = some d := by
  unfold startE at h
  by_cases hi : i < ds.length
  · rw [List.getElem?_append_left (by simpa using hi), List.getElem?_map, List.getElem?_eq_getElem hi] at h
    cases h
    exact ⟨rfl, List.getElem?_eq_getElem hi⟩
  · rw [List.getElem?_append_right (by simpa using hi)] at h
    rw [List.getElem?_replicate] at h
    split at h <;> cases h
theorem start_st {N : List Str} {vs : List V} {i : Nat} {v : V} (h : vs[i]? = some v) : (L2.start N vs)[i]? = some (some v) := by
  unfold L2.start
  have hi := (List.getElem?_eq_some_iff.mp h).1
  rw [List.getElem?_append_left (by simpa using hi), List.getElem?_map, h]
  rfl
theorem start_len {N : List Str} {vs : List V} (h : vs.length ≤ N.length) : (L2.start N vs).length = N.length := by
  unfold L2.start
  simp
  omega
theorem startE_len {m : Nat} {ds : List D} (h : ds.length ≤ m) : (startE m ds).length = m := by
  unfold startE
  simp
  omega
theorem bi_start {N : List Str} {Sh : Addr → Prop} {st : Option Addr} {H : Hp} {vs : List V} {ds : List D} {w : MP.W} (r : DRs K Sh st H vs ds) (h1 : ShOK st Sh H) (h2 : StOK Sh st H w) (hl : ds.length ≤ N.length) : BI K ⟨H, Sh, st⟩ Sh ⟨startE N.length ds, w⟩ (L2.start N vs) H := by
  have hv : vs.length ≤ N.length := by rw [r.length]; exact hl
  refine ⟨fun _ _ e _ => e, fun _ h => h, fun _ h => .inl h, h1, h2, by rw [start_len hv]; exact startE_len hl, fun i d e => ?_, fun i d e => ?_, fun i j d d' a e => ?_⟩
  · obtain ⟨_, e⟩ := start_at e
    obtain ⟨v, e1, r1⟩ := r.get e
    exact ⟨v, start_st e1, r1⟩
  · exact absurd (start_at e).1 (by decide)
  · exact absurd (start_at e).1 (by decide)
/-- a def's body, run by my interpreter -/
theorem body_ok {n : Nat} (X : TX P w K mg base XC T) (ih : ∀ f nm, T.nameOf f = some nm → ∃ (a : Addr) (fdt : FuncData) (ps : List Str), mg nm = some (.ref a) ∧ PySem.W.keepIn K (.ref a) = true ∧ Binds K fdt ps [] ∧ FnOk P w K mg base (L2.CX P w) n a fdt ps (spM K XC T n f))
    {x : Str} {st : Stmt} {a : Addr} {fdt : FuncData} {N ps : List Str} (F : Fun K x x st a fdt) (S : FnScope N ps (defScope st)) {body : List MS} (hm : mSs T N (defScope st) body (defBody st) = true) {B : Bs} (cdv : Value) (A : Around) (outer : List PySem.Env) (s : Shared) (H : Hp) (E : XK)
    (hr : Room n (A.deeper (envOfC x (defScope st) s.heap.objs.size a cdv))) :
    PSs (cxOf (L2.CX P w) P w K mg base N x (defScope st) a cdv A outer s H E) (defBody st) (tS K B XC (fun cls d _ H => E cls d H) (exs ⟨callF T n, T.gl⟩ body)) := by
  refine pss_allS (T := T) (n := n) (B := B) (XC := XC) (X := cxOf (L2.CX P w) P w K mg base N x (defScope st) a cdv A outer s H E) (sc := defScope st) body ⟨⟨rfl, S.kind, S.nd, rfl, takes_of rfl rfl rfl rfl, hr, ih, X.gls, X.bts⟩, rfl, passes_of rfl, rfl, rfl⟩ X.ex hm
theorem call_rd {n f : Nat} {fd : FD} {Sh : Addr → Prop} {st : Option Addr} {H : Hp} {ds : List D} {w0 : MP.W} {vs : List V} {Q : VK} {E : XK} (h0 : f ≠ 0) (hf : T.fn f = some fd) (hl : fd.np ≤ fd.slots.length) (r : DRs K Sh st H vs ds) (h1 : ShOK st Sh H) (h2 : StOK Sh st H w0)
    (q : match callF T (n + 1) f ds w0 with
      | .ok d w' => ∀ v Sh' H', Keeps st H H' → (∀ a, Sh a → Sh' a) → (∀ a, Sh' a → Sh a ∨ H a = none) → ShOK st Sh' H' → StOK Sh' st H' w' → DR K Sh' st H' v d → Q v H'
      | .exc c w' => ∀ Sh' H', Keeps st H H' → (∀ a, Sh a → Sh' a) → (∀ a, Sh' a → Sh a ∨ H a = none) → ShOK st Sh' H' → StOK Sh' st H' w' → E (.ref (XC c)) none H'
      | .stuck => False) :
    ds.length = fd.np ∧ tS K ⟨H, Sh, st⟩ XC (fun cls d _ H => E cls d H) (exs ⟨callF T n, T.gl⟩ fd.body) { nx := fun _ H' => Q .non H', rt := Q } (L2.start fd.slots vs) H := by
  rw [callF, if_neg h0, hf] at q
  dsimp only at q
  by_cases hn : ds.length = fd.np
  · rw [if_pos hn] at q
    refine ⟨hn, Sh, _, bi_start r h1 h2 (by omega), ?_⟩
    revert q
    cases exs ⟨callF T n, T.gl⟩ fd.body ⟨startE fd.slots.length ds, w0⟩ with
    | stuck => exact id
    | exc c s1 => exact fun q σ' Sh' H' b y => q Sh' H' (fun c o e k => b.keep c o e k) b.sh0 b.shN b.shL b.stk
    | ok fl s1 =>
      cases fl with
      | next => exact fun q σ' Sh' H' b y => q _ Sh' H' (fun c o e k => b.keep c o e k) b.sh0 b.shN b.shL b.stk .non
      | ret d => exact fun q v σ' Sh' H' b r => q v Sh' H' (fun c o e k => b.keep c o e k) b.sh0 b.shN b.shL b.stk r
      | brk => exact fun q => q.elim
      | cnt => exact fun q => q.elim
  · rw [if_neg hn] at q
    exact q.elim
theorem all_ok (X : TX P w K mg base XC T) : ∀ (n : Nat) (f : Nat) (nm : Str), T.nameOf f = some nm → ∃ (a : Addr) (fdt : FuncData) (ps : List Str), mg nm = some (.ref a) ∧ PySem.W.keepIn K (.ref a) = true ∧ Binds K fdt ps [] ∧ FnOk P w K mg base (L2.CX P w) n a fdt ps (spM K XC T n f)
  | 0, f, nm, h => by
    have no : ∀ vs H Q E, ¬ spM K XC T 0 f vs H Q E := fun vs H Q E ⟨_, _, _, _, _, _, _, q⟩ => q
    have mk : ∀ {a fdt ps}, FnOk P w K mg base (L2.CX P w) 0 a fdt ps (spM K XC T 0 f) := fun {a fdt ps} => ⟨fun vs H Q E q => absurd q (no vs H Q E), fun _ _ _ H _ _ vs Q E _ _ _ _ q => absurd q (no vs H Q E)⟩
    unfold Tab.nameOf at h
    by_cases h0 : f = 0
    · rw [if_pos h0] at h
      cases h
      obtain ⟨a, fdt, ps, h1, h2, h3, _⟩ := X.next
      exact ⟨a, fdt, ps, h1, h2, h3, mk⟩
    · rw [if_neg h0] at h
      simp only [Option.map_eq_some_iff] at h
      obtain ⟨fd, h1, h2⟩ := h
      obtain ⟨a, fdt, st, F, hm, hk, hb, S, hms, hl⟩ := (X.defs f fd h0 h1).ex
      subst h2
      exact ⟨a, fdt, _, hm, hk, hb, mk⟩
  | n + 1, f, nm, h => by
    unfold Tab.nameOf at h
    by_cases h0 : f = 0
    · rw [if_pos h0] at h
      cases h
      obtain ⟨a, fdt, ps, h1, h2, h3, h4⟩ := X.next
      subst h0
      exact ⟨a, fdt, ps, h1, h2, h3, h4 n⟩
    · rw [if_neg h0] at h
      simp only [Option.map_eq_some_iff] at h
      obtain ⟨fd, h1, h2⟩ := h
      obtain ⟨a, fdt, st, F, hm, hk, hb, S, hms, hl⟩ := (X.defs f fd h0 h1).ex
      subst h2
      refine ⟨a, fdt, _, hm, hk, hb, F.okX S (fun vs H Q E q => ?_) (fun cdv A outer s H vs Q E hr q => ?_)⟩
      · obtain ⟨Sh, st', ds, w0, r, q1, q2, q⟩ := q
        have := (call_rd h0 h1 hl r q1 q2 q).1
        rw [r.length, this, List.length_take]
        omega
      · obtain ⟨Sh, st', ds, w0, r, q1, q2, q⟩ := q
        exact ⟨_, body_ok X (all_ok X n) F S hms (B := ⟨H, Sh, st'⟩) cdv A outer s H E hr, (call_rd h0 h1 hl r q1 q2 q).2⟩
end
end MP
set_option Elab.async false
set_option linter.all false
set_option maxRecDepth 100000
/-! The draw. -/
namespace MP
open PySem PySem.Spec PyProof.Rows L2

def nextFD : FD := ⟨"_law_next", 2, ["state", "limit", "cell", "value"],
 [.ife (.andL [.op .eq [.stG 0 2, .cI 0], .op .lt [.stG 0 1, .op .len [.stG 0 0]]])
   [.asg (.nm 2) (.op .ix [.stG 0 0, .stG 0 1]), .stA 0 1 (.cI 1),
    .ife (.op .ge [.var 2, .op .pow [.cI 10, .cI 18]]) [.stS 0 2 (.var 2)]
      [.stS 0 3 (.op .mod [.op .int [.op .add [.op .add [.op .mul [.stG 0 3, .cI 48271], .op .mod [.op .int [.var 2], .cI 2147483647]], .cI 7]], .cI 2147483647])]] [],
  .ife (.op .gt [.stG 0 2, .cI 0]) [.asg (.nm 3) (.op .mod [.op .int [.stG 0 2], .var 1]), .stS 0 2 (.op .fdiv [.stG 0 2, .var 1]), .ret (.var 3)] [],
  .stS 0 3 (.op .mod [.op .int [.op .add [.op .mul [.stG 0 3, .cI 69621], .cI 12345]], .cI 2147483647]),
  .ret (.op .mod [.op .int [.op .fdiv [.stG 0 3, .cI 7]], .var 1])]⟩
theorem intsOf_len (ns : List Int) : (ns.map D.int).length = ns.length := List.length_map ..
theorem bits_le {i : Int} {n : Nat} (h : i.natAbs < 2 ^ (n + 1)) : bits i ≤ n := by
  unfold bits
  by_cases h0 : i.natAbs = 0
  · rw [h0]; exact Nat.zero_le _
  · exact Nat.lt_succ_iff.mp ((Nat.log2_lt h0).mpr h)
theorem mod_bnd (a : Int) : 0 ≤ a.fmod 2147483647 ∧ a.fmod 2147483647 < 2147483647 := ⟨Int.fmod_nonneg_of_pos _ (by decide), Int.fmod_lt_of_pos _ (by decide)⟩
/-- the second half: the value is taken -/
theorem next_run2 {cx : Cxt} {w : MP.W} {lim : Int} {c v : Option (D × Bool)} (hl : 0 < lim) (hl2 : lim < 1000000) (h1 : 0 ≤ w.rest) (h2 : 0 ≤ w.seed) (h3 : w.seed < 2147483647) :
    ∃ env, exs cx [.ife (.op .gt [.stG 0 2, .cI 0]) [.asg (.nm 3) (.op .mod [.op .int [.stG 0 2], .var 1]), .stS 0 2 (.op .fdiv [.stG 0 2, .var 1]), .ret (.var 3)] [],
      .stS 0 3 (.op .mod [.op .int [.op .add [.op .mul [.stG 0 3, .cI 69621], .cI 12345]], .cI 2147483647]),
      .ret (.op .mod [.op .int [.op .fdiv [.stG 0 3, .cI 7]], .var 1])] ⟨[some (.st, false), some (.int lim, false), c, v], w⟩ =
      .ok (.ret (.int (if w.rest > 0 then (w.rest.fmod lim, { w with rest := w.rest.fdiv lim }) else let sd := (w.seed * 69621 + 12345).fmod 2147483647; ((sd.fdiv 7).fmod lim, { w with seed := sd })).1))
        ⟨env, (if w.rest > 0 then (w.rest.fmod lim, { w with rest := w.rest.fdiv lim }) else let sd := (w.seed * 69621 + 12345).fmod 2147483647; ((sd.fdiv 7).fmod lim, { w with seed := sd })).2⟩ := by
  have hne : lim ≠ 0 := by omega
  have hb : bits lim < 9000 := Nat.lt_of_le_of_lt (bits_le (n := 20) (by omega)) (by decide)
  by_cases hr : w.rest > 0
  · have hd : 0 ≤ w.rest.fdiv lim := Int.fdiv_nonneg h1 (by omega)
    refine ⟨[some (.st, false), some (.int lim, false), c, some (.int (w.rest.fmod lim), false)], ?_⟩
    simp [exs, ex, ev, evs, bnd, isBl, stGet, opD, cmpI, i2, outR, tr, hr, modD, intD, hne, bindNm, oneR, consume, fdivD, hb, stSet, hd, Opd.d, truthD]
  · have hb1 : bits w.seed + bits 69621 < 1000000 := by
      have := bits_le (i := w.seed) (n := 31) (by omega)
      have : bits 69621 ≤ 20 := bits_le (by decide)
      omega
    obtain ⟨m1, m2⟩ := mod_bnd (w.seed * 69621 + 12345)
    have b7 : bits 7 < 9000 := Nat.lt_of_le_of_lt (bits_le (n := 20) (by decide)) (by decide)
    refine ⟨[some (.st, false), some (.int lim, false), c, v], ?_⟩
    simp [exs, ex, ev, evs, bnd, isBl, stGet, opD, cmpI, i2, outR, tr, hr, modD, intD, hne, bindNm, oneR, consume, fdivD, hb, stSet, Opd.d, mulD, hb1, addD, m1, m2, b7, truthD]

def w1 (w : MP.W) : MP.W := if w.rest = 0 ∧ w.at_ < w.cells.length then
      (if w.cells.getD w.at_ 0 ≥ 10 ^ 18 then { w with at_ := w.at_ + 1, rest := w.cells.getD w.at_ 0 }
        else { w with at_ := w.at_ + 1, seed := (w.seed * 48271 + (w.cells.getD w.at_ 0).fmod 2147483647 + 7).fmod 2147483647 })
    else w
theorem atI_map {α β : Type} (f : α → β) (xs : List α) (n : Nat) (x : α) (h : xs[n]? = some x) : atI (xs.map f) (n : Int) = some (f x) := by
  have hn := (List.getElem?_eq_some_iff.mp h).1
  unfold atI ixN
  have e1 : (0 : Int) ≤ (n : Int) := by omega
  have e2 : (n : Int) < ((xs.map f).length : Int) := by rw [List.length_map]; omega
  rw [if_pos e1, if_pos e2]
  show (xs.map f)[((n : Int)).toNat]? = _
  rw [Int.toNat_natCast, List.getElem?_map, h]
  rfl
theorem next_run1 {cx : Cxt} {w : MP.W} {lim : Int} (h1 : 0 ≤ w.rest) (h2 : 0 ≤ w.seed) (h3 : w.seed < 2147483647) :
    ∃ c, ex cx (.ife (.andL [.op .eq [.stG 0 2, .cI 0], .op .lt [.stG 0 1, .op .len [.stG 0 0]]])
   [.asg (.nm 2) (.op .ix [.stG 0 0, .stG 0 1]), .stA 0 1 (.cI 1),
    .ife (.op .ge [.var 2, .op .pow [.cI 10, .cI 18]]) [.stS 0 2 (.var 2)]
      [.stS 0 3 (.op .mod [.op .int [.op .add [.op .add [.op .mul [.stG 0 3, .cI 48271], .op .mod [.op .int [.var 2], .cI 2147483647]], .cI 7]], .cI 2147483647])]] []) ⟨[some (.st, false), some (.int lim, false), none, none], w⟩ =
      .ok .next ⟨[some (.st, false), some (.int lim, false), c, none], w1 w⟩ := by
  by_cases hr : w.rest = 0
  · by_cases ha : w.at_ < w.cells.length
    · obtain ⟨x, hx⟩ : ∃ x, w.cells[w.at_]? = some x := ⟨_, List.getElem?_eq_getElem ha⟩
      have hg : w.cells.getD w.at_ 0 = x := by rw [List.getD_eq_getElem?_getD, hx]; rfl
      have hA : atI (w.cells.map D.int) (w.at_ : Int) = some (.int x) := atI_map D.int _ _ _ hx
      have ha' : (w.at_ : Int) < (w.cells.length : Int) := by omega
      have n1 : (0 : Int) ≤ (w.at_ : Int) + 1 := by omega
      have n2 : ((w.at_ : Int) + 1).toNat = w.at_ + 1 := by omega
      have p18 : (10 : Int) ^ 18 = 1000000000000000000 := by decide
      refine ⟨some (.int x, false), ?_⟩
      by_cases hc : x ≥ 10 ^ 18
      · have hc' : 1000000000000000000 ≤ x := by rw [← p18]; exact hc
        have hx0 : 0 ≤ x := by omega
        have : w1 w = { w with at_ := w.at_ + 1, rest := x } := by unfold w1; rw [if_pos ⟨hr, ha⟩, hg, if_pos hc]
        rw [this]
        simp [exs, ex, ev, evs, bnd, isBl, stGet, opD, cmpI, i2, outR, tr, hr, intD, bindNm, oneR, consume, stSet, Opd.d, truthD, evAnd, eqB, shp, eqD, lenD, ha', ixD, hA, augD, n1, n2, powD, hc', hx0]
      · have hc' : ¬ 1000000000000000000 ≤ x := by rw [← p18]; exact hc
        have : w1 w = { w with at_ := w.at_ + 1, seed := (w.seed * 48271 + x.fmod 2147483647 + 7).fmod 2147483647 } := by unfold w1; rw [if_pos ⟨hr, ha⟩, hg, if_neg hc]
        rw [this]
        have hb1 : bits w.seed + bits 48271 < 1000000 := by
          have := bits_le (i := w.seed) (n := 31) (by omega)
          have : bits 48271 ≤ 20 := bits_le (by decide)
          omega
        obtain ⟨m1, m2⟩ := mod_bnd (w.seed * 48271 + x.fmod 2147483647 + 7)
        simp [exs, ex, ev, evs, bnd, isBl, stGet, opD, cmpI, i2, outR, tr, hr, intD, bindNm, oneR, consume, stSet, Opd.d, truthD, evAnd, eqB, shp, eqD, lenD, ha', ixD, hA, augD, n1, n2, powD, hc', mulD, hb1, addD, modD, m1, m2]
    · have ha' : ¬ (w.at_ : Int) < (w.cells.length : Int) := by omega
      refine ⟨none, ?_⟩
      have : w1 w = w := by unfold w1; rw [if_neg (fun h => ha h.2)]
      rw [this]
      simp [exs, ex, ev, evs, bnd, isBl, stGet, opD, cmpI, i2, outR, tr, hr, Opd.d, truthD, evAnd, eqB, shp, eqD, lenD, ha']
  · refine ⟨none, ?_⟩
    have : w1 w = w := by unfold w1; rw [if_neg (fun h => hr h.1)]
    have hq : (w.rest == 0) = false := by simp [hr]
    rw [this]
    simp [hq, exs, ex, ev, evs, bnd, isBl, stGet, opD, cmpI, i2, outR, tr, hr, Opd.d, truthD, evAnd, eqB, shp, eqD, lenD]
theorem w1_ok {w : MP.W} (h1 : 0 ≤ w.rest) (h2 : 0 ≤ w.seed) (h3 : w.seed < 2147483647) : 0 ≤ (w1 w).rest ∧ 0 ≤ (w1 w).seed ∧ (w1 w).seed < 2147483647 := by
  unfold w1
  split
  · split
    · rename_i h
      refine ⟨?_, h2, h3⟩
      have p18 : (10 : Int) ^ 18 = 1000000000000000000 := by decide
      show 0 ≤ w.cells.getD w.at_ 0
      omega
    · exact ⟨h1, mod_bnd _⟩
  · exact ⟨h1, h2, h3⟩
theorem next_run {cx : Cxt} {w : MP.W} {lim : Int} (hl : 0 < lim) (hl2 : lim < 1000000) (h1 : 0 ≤ w.rest) (h2 : 0 ≤ w.seed) (h3 : w.seed < 2147483647) :
    ∃ env, exs cx nextFD.body ⟨[some (.st, false), some (.int lim, false), none, none], w⟩ = .ok (.ret (.int (nextW w lim).1)) ⟨env, (nextW w lim).2⟩ := by
  obtain ⟨c, e1⟩ := next_run1 (cx := cx) (lim := lim) h1 h2 h3
  obtain ⟨k1, k2, k3⟩ := w1_ok h1 h2 h3
  obtain ⟨env, e2⟩ := next_run2 (cx := cx) (c := c) (v := none) hl hl2 k1 k2 k3
  refine ⟨env, ?_⟩
  show exs cx (_ :: _) _ = _
  rw [exs, e1]
  show exs cx _ _ = _
  exact e2
section
variable {P : Program} {w : World} {K : PySem.W.Frag} {mg : Str → Option Value} {base : Heap} {XC : Nat → Addr}
abbrev T0 : Tab := ⟨[], []⟩
theorem next_ok (E : EX K mg XC) (bts : ∀ x ∈ bnames, mg x = none) {st : Stmt} {a : Addr} {fdt : FuncData} (F : Fun K "_law_next" "_law_next" st a fdt) (hm : mg "_law_next" = some (.ref a)) (hk : PySem.W.keepIn K (.ref a) = true) (hb : Binds K fdt ["state", "limit"] [])
    (S : FnScope ["state", "limit", "cell", "value"] ["state", "limit"] (defScope st)) (hms : mSs T0 ["state", "limit", "cell", "value"] (defScope st) nextFD.body (defBody st) = true) : ∀ n, FnOk P w K mg base (L2.CX P w) n a fdt ["state", "limit"] (spM K XC T0 n 0)
  | 0 => ⟨fun vs H Q E ⟨_, _, _, _, _, _, _, q⟩ => q.elim, fun _ _ _ H _ _ vs Q E _ _ _ _ ⟨_, _, _, _, _, _, _, q⟩ => q.elim⟩
  | n + 1 => by
    have ih := next_ok E bts F hm hk hb S hms n
    have key : ∀ {vs H Q Er}, spM K XC T0 (n + 1) 0 vs H Q Er → ∃ Sh st' lim w0, DRs K Sh st' H vs [.st, .int lim] ∧ 0 < lim ∧ lim < 1000000 ∧ (∃ a, st' = some a) ∧ ShOK st' Sh H ∧ StOK Sh st' H w0 ∧
        ∀ v Sh' H', Keeps st' H H' → (∀ a, Sh a → Sh' a) → (∀ a, Sh' a → Sh a ∨ H a = none) → ShOK st' Sh' H' → StOK Sh' st' H' (nextW w0 lim).2 → DR K Sh' st' H' v (.int (nextW w0 lim).1) → Q v H' := by
      intro vs H Q Er ⟨Sh, st', ds, w0, r, q1, q2, q⟩
      rw [callF, if_pos rfl] at q
      unfold nextR at q
      split at q
      · rename_i q0
        split at q0
        · rename_i lim
          split at q0
          · rename_i hl
            cases q0
            have hst : ∃ a, st' = some a := by
              cases r with
              | cons r0 _ => cases r0 with
                | st h => exact ⟨_, h⟩
            exact ⟨Sh, st', lim, w0, r, hl.1, hl.2, hst, q1, q2, q⟩
          · cases q0
        · cases q0
      · rename_i q0
        split at q0
        · split at q0 <;> cases q0
        · cases q0
      · exact q.elim
    refine F.okX S (fun vs H Q Er h => ?_) (fun cdv A outer s H vs Q Er hr h => ?_)
    · obtain ⟨Sh, st', lim, w0, r, _⟩ := key h
      rw [r.length]; rfl
    · obtain ⟨Sh, st', lim, w0, r, l1, l2, ⟨sa, hsa⟩, q1, q2, q⟩ := key h
      obtain ⟨_, _, _, _, m4, m5⟩ := q2 sa hsa
      refine ⟨_, pss_allS (T := T0) (n := n) (B := ⟨H, Sh, st'⟩) (XC := XC) (W := fun cls d _ H => Er cls d H) (X := cxOf (L2.CX P w) P w K mg base ["state", "limit", "cell", "value"] "_law_next" (defScope st) a cdv A outer s H Er) (sc := defScope st) nextFD.body
        ⟨⟨rfl, S.kind, S.nd, rfl, takes_of rfl rfl rfl rfl, hr, fun f nm h => ?_, fun g nm d h => by simp at h, bts⟩, rfl, passes_of rfl, rfl, rfl⟩ E hms, ?_⟩
      · unfold Tab.nameOf at h
        by_cases h0 : f = 0
        · rw [if_pos h0] at h
          cases h
          subst h0
          exact ⟨a, fdt, _, hm, hk, hb, ih⟩
        · rw [if_neg h0] at h
          cases h
      · obtain ⟨env, e⟩ := next_run (cx := ⟨callF T0 n, T0.gl⟩) (w := w0) l1 l2 m4 m5.1 m5.2
        refine ⟨Sh, _, bi_start (N := ["state", "limit", "cell", "value"]) (w := w0) r q1 q2 (by show 2 ≤ 4; omega), ?_⟩
        have e' : exs ⟨callF T0 n, T0.gl⟩ nextFD.body ⟨startE 4 [.st, .int lim], w0⟩ = .ok (.ret (.int (nextW w0 lim).1)) ⟨env, (nextW w0 lim).2⟩ := e
        show RS K _ XC _ _ Sh H (exs ⟨callF T0 n, T0.gl⟩ nextFD.body ⟨startE 4 [.st, .int lim], w0⟩)
        rw [e']
        exact fun v σ' Sh' H' b rr => q v Sh' H' (fun c o e k => b.keep c o e k) b.sh0 b.shN b.shL b.stk rr
end
end MP
set_option Elab.async false
set_option linter.all false
set_option maxRecDepth 100000
/-! A law's own def; what the written part says, as one row for each def. -/
namespace MP
open PySem PySem.Spec PyProof.Rows L2

def spLaw (m : Nat) (K : PySem.W.Frag) : Sp := fun vs H Q _ => ∃ (a : Addr) (ns : List Int), vs = [.ref a] ∧ SqL K H a (ns.map V.int) ∧ ns.length ≤ m ∧ ∀ H', Q (.bl true) H'
section
variable {P : Program} {w : World} {K : PySem.W.Frag} {mg : Str → Option Value} {base : Heap} {XC : Nat → Addr} {T : Tab}
theorem law_ok {m n : Nat} (X : TX P w K mg base XC T) {st : Stmt} {a : Addr} {fdt : FuncData} (F : Fun K "law" "law" st a fdt) {N : List Str} (S : FnScope N ["script"] (defScope st)) (hN0 : N[0]? = some ("script" : Str)) (hN1 : N[1]? = some ("state" : Str)) {p1 p2 p3 p4 p5 p6 p7 p8 p9 : Pos} {j1 j2 j3 : Nat} {rest : List Stmt}
    (hb : defBody st = .Assign [.Name "state" p1] (.List [.Call (.Name "list" p2) [.Name "script" p3] [] p4, .Constant (.int 0) j1 p5, .Constant (.int 0) j2 p6, .Constant (.int 1) j3 p7] p8) p9 :: rest) {body : List MS} (hm : mSs T N (defScope st) body rest = true)
    (v0 : visB (defScope st) "script" = true) (g0 : glB (defScope st) "list" = true) (l0 : locB (defScope st) (fun _ => true) "state" = true)
    (run : ∀ ns : List Int, ns.length ≤ m → ∃ s', exs ⟨callF T n, T.gl⟩ body ⟨none :: some (.st, false) :: List.replicate (N.length - 2) none, ⟨ns, 0, 0, 1⟩⟩ = .ok (.ret (.bl true)) s') : FnOk P w K mg base (L2.CX P w) (n + 1) a fdt ["script"] (spLaw m K) := by
  refine F.okX S (fun vs H Q E h => ?_) (fun cdv A outer s H vs Q E hr h => ?_)
  · obtain ⟨a, ns, rfl, _⟩ := h
    rfl
  · obtain ⟨sa, ns, rfl, hS, hl, q⟩ := h
    have N2 : 2 ≤ N.length := (List.getElem?_eq_some_iff.mp hN1).1
    let XX := cxOf (L2.CX P w) P w K mg base N "law" (defScope st) a cdv A outer s H E
    have vis : Vis XX.env.scope "script" := visB_ok (X := XX) rfl v0
    obtain ⟨gl, gd⟩ := glB_ok (X := XX) rfl g0
    have hl2 : Loc XX.env.scope ("state" : Str) ∧ (XX.fn ("state" : Str) = true ∨ XX.env.scope.names.lookup ("state" : Str) = some .local) := by
      have q := l0
      unfold locB at q
      split at q
      · exact ⟨.inl (by assumption), .inl rfl⟩
      · exact ⟨.inr (by assumption), .inl rfl⟩
      · cases q
    have bl : bootBuiltins "list" = some (.type "list") := by decide +kernel
    have pr : PSs XX rest (fun Dn σ H => ∃ B, tS K B XC (fun cls d _ H => E cls d H) (exs ⟨callF T n, T.gl⟩ body) Dn σ H) := by
      refine ⟨fun pins s1 σ1 H1 Q1 I ⟨B, q1⟩ => ?_⟩
      exact (pss_allS (T := T) (n := n) (B := B) (XC := XC) (X := XX) (sc := defScope st) body ⟨⟨rfl, S.kind, S.nd, rfl, takes_of rfl rfl rfl rfl, hr, all_ok X n, X.gls, X.bts⟩, rfl, passes_of rfl, rfl, rfl⟩ X.ex hm).run pins s1 σ1 H1 Q1 I q1
    have ps := pss_cons (st := .Assign [.Name "state" p1] (.List [.Call (.Name "list" p2) [.Name "script" p3] [] p4, .Constant (.int 0) j1 p5, .Constant (.int 0) j2 p6, .Constant (.int 1) j3 p7] p8) p9)
      (ps_set (X := XX) S.nd hN1 hl2.1 (pe_lst (pa_cons (pe_callTy call_list_of gl (X.bts _ (by decide)) bl (pa_cons (pe_var hN0 vis) pa_nil) (by decide) gd) (pa_cons pe_int (pa_cons pe_int (pa_cons pe_int pa_nil))))) (by rfl) hl2.2) pr
    refine ⟨_, by rw [hb]; exact ps, ?_⟩
    have st0 : (L2.start N [V.ref sa])[0]? = some (some (V.ref sa)) := start_st (by rfl)
    refine ⟨V.ref sa, st0, sa, ns.map V.int, rfl, .inl hS, fun l hl0 => ?_⟩
    refine ⟨Nat.le_trans (by decide : 4 ≤ LN) sizeLN, fun p hp => ?_⟩
    have hpl : l ≠ p := by
      rintro rfl
      rw [upd_same] at hp
      cases hp
    have hl1 : (upd (upd H l (.lst (ns.map V.int))) p (.lst [V.ref l, V.int 0, V.int 0, V.int 1])) l = some (.lst (ns.map V.int)) := by rw [upd_ne hpl, upd_same]
    let B : Bs := ⟨upd (upd H l (.lst (ns.map V.int))) p (.lst [V.ref l, V.int 0, V.int 0, V.int 1]), fun x => x = l, some p⟩
    obtain ⟨s', hrun⟩ := run ns hl
    refine ⟨B, fun x => x = l, ⟨none :: some (.st, false) :: List.replicate (N.length - 2) none, ⟨ns, 0, 0, 1⟩⟩, ?_, ?_⟩
    · have lenσ : (L2.start N [V.ref sa]).length = N.length := start_len (by simp; omega)
      have envK : ∀ {i : Nat} {d : D} {o : Bool}, (none :: some (D.st, false) :: List.replicate (N.length - 2) none : MP.Env)[i]? = some (some (d, o)) → i = 1 ∧ d = .st ∧ o = false := fun {i d o} e => by
        match i, e with
        | 0, e => simp at e
        | 1, e => simp at e; exact ⟨rfl, e.1.symm, e.2⟩
        | i + 2, e =>
          simp only [List.getElem?_cons_succ, List.getElem?_replicate] at e
          split at e <;> cases e
      refine ⟨fun _ _ e _ => e, fun _ h => h, fun _ h => .inl h, fun x h => ?_, fun x e => ?_, ?_, fun i d e => ?_, fun i d e => ?_, fun i j d d' x e => ?_⟩
      · have hx : x = l := h
        subst hx
        refine ⟨?_, ?_⟩
        · rw [hl1]; intro z; cases z
        · show some p ≠ some x
          intro e
          cases e
          exact hpl rfl
      · have e : some p = some x := e
        cases e
        exact ⟨l, upd_same, rfl, hl1, Int.le_refl 0, (by decide : (0 : Int) ≤ 1), (by decide : (1 : Int) < 2147483647)⟩
      · show (none :: some (D.st, false) :: List.replicate (N.length - 2) none : MP.Env).length = ((L2.start N [V.ref sa]).set 1 (some (V.ref p))).length
        rw [List.length_set, lenσ]
        simp
        omega
      · obtain ⟨rfl, rfl, _⟩ := envK e
        exact ⟨_, List.getElem?_set_self (by rw [lenσ]; exact N2), .st rfl⟩
      · exact absurd (envK e).2.2 (by decide)
      · exact absurd (envK e).2.2 (by decide)
    · rw [hrun]
      intro v σ' Sh' H' b r
      cases r
      exact q H'
end

/-! ### rows of the written part -/
section
variable {K : PySem.W.Frag} {h : Heap} {mg : Str → Option Value} {T : Tab}
/-- a look at a def's scope -/
def okSc (N ps : List Str) (sc : Scope) : Bool := (sc.kind == .function) && (!sc.isCoroutine && !sc.isGenerator) && (decide N.Nodup && decide (N.take ps.length = ps)) && ps.all (fun x => sc.names.lookup x == some .local || sc.names.lookup x == some .cell) && sc.names.all (fun y => y.2 != .free)
theorem okSc_by {N ps : List Str} {sc : Scope} (h : okSc N ps sc = true) : FnScope N ps sc := by
  unfold okSc at h
  simp only [Bool.and_eq_true, beq_iff_eq, Bool.not_eq_true', decide_eq_true_eq, List.all_eq_true, Bool.or_eq_true, bne_iff_ne] at h
  obtain ⟨⟨⟨⟨k, c, g⟩, nd, pre⟩, par⟩, nf⟩ := h
  exact { kind := k, co := c, gen := g, nd := nd, pre := pre, par := par, nofree := nf }
/-- what is told of one def's text -/
def chkD (T : Tab) (fd : FD) (st : Stmt) : Bool := okSc fd.slots (fd.slots.take fd.np) (defScope st) && mSs T fd.slots (defScope st) fd.body (defBody st) && decide (fd.np ≤ fd.slots.length)
theorem def_in (X : K.In h) (G : h.Ns mainGlobals mg) (fd : FD) (st : Stmt) {f : Addr} {oc : Value} {od an : Option Addr} {osl : Array (Option Value)} {kV dc pm cdv ct : Value} (a1 : PySem.W.nsIn K mainGlobals fd.name = some (some (.ref f)))
    (l : K.lookup f = some ⟨oc, od, .func (PySem.W.fnOf fd.name fd.name (defArgs st) (defBody st) (defScope st) .none kV dc pm an cdv ct), osl⟩) (c : PySem.W.codeIn K cdv fd.name = true) (k : PySem.W.keepIn K (.ref f) = true)
    (hb : ∀ (kV doc pm : Value) (an : Option Addr) (cdv ct : Value) (us : List Value), us.length = (fd.slots.take fd.np).length → bindArgs (PySem.W.fnOf fd.name fd.name (defArgs st) (defBody st) (defScope st) .none kV doc pm an cdv ct) ⟨us, []⟩ = pure ((fd.slots.take fd.np).zip us))
    (chk : chkD T fd st = true) : DefIn K mg T fd := by
  unfold chkD at chk
  simp only [Bool.and_eq_true, decide_eq_true_eq] at chk
  exact ⟨f, _, st, fun_mk l c k, PySem.W.mg_of X G a1, k, .all (hb _ _ _ _ _ _), okSc_by chk.1.1, chk.1.2, chk.2⟩
structure ExIn (K : PySem.W.Frag) (nm : Str) (C : Addr) : Prop where
  a1 : PySem.W.nsIn K mainGlobals nm = some (some (.ref C))
  kp : PySem.W.keepIn K (.ref C) = true
  sb : PySem.W.subIn K (.ref C) (.type "BaseException") = some true
  ty : PySem.W.typeIn K (.ref C) = some (.type "type")
  made : PySem.W.excIn K C [.type "ValueError", .type "Exception", .type "BaseException", .type "object"] "ValueError.__new__" = true
  hd : PySem.W.hasDictIn K C = true
  hg : PySem.W.findIn K (.ref C) "__getattribute__" = some (some (.builtin "BaseException.__getattribute__"))
  hk : PySem.W.findIn K (.ref C) "__getattr__" = some none
  ha : PySem.W.findIn K (.ref C) "__class__" = some (some (.builtin "object.__class__"))
  hn : PySem.W.specialIn K (.builtin "object.__class__") "__get__" = some (some (.builtin "getset_descriptor.__get__"))
  ht : PySem.W.takesIn K (.builtin "object.__class__") = some true
  hm : PySem.W.mroIn K C (.type "object") = some true
  ve : PySem.W.kitOne K (.ref C) (.type "ValueError") = some true
def xcOf (C1 C2 : Addr) : Nat → Addr := fun c => if c = 1 then C1 else C2
theorem ex_in (X : K.In h) (G : h.Ns mainGlobals mg) {C1 C2 : Addr} (e1 : ExIn K "UnfitChance" C1) (e2 : ExIn K "TooWide" C2) (s11 : PySem.W.subIn K (.ref C1) (.ref C1) = some true) (s12 : PySem.W.subIn K (.ref C1) (.ref C2) = some false) (s21 : PySem.W.subIn K (.ref C2) (.ref C1) = some false) (s22 : PySem.W.subIn K (.ref C2) (.ref C2) = some true) :
    EX K mg (xcOf C1 C2) := by
  have two : ∀ c, c = 1 ∨ c = 2 → ExIn K (excNm c) (xcOf C1 C2 c) := by
    rintro c (rfl | rfl)
    · exact e1
    · exact e2
  refine ⟨fun c hc => ⟨PySem.W.mg_of X G (two c hc).a1, (two c hc).kp, (two c hc).sb, (two c hc).ty⟩, fun c hc => (two c hc).made, ?_, fun c hc => ⟨⟨(two c hc).hg, (two c hc).hk, (two c hc).sb, (two c hc).hd, (two c hc).ha, (two c hc).hn, (two c hc).ht, (two c hc).hm⟩, (two c hc).ve⟩⟩
  rintro c k (rfl | rfl) (rfl | rfl)
  · exact PySem.W.exm_ref e1.sb e1.hd e1.ty s11
  · exact PySem.W.exm_ref e2.sb e2.hd e2.ty s12
  · exact PySem.W.exm_ref e1.sb e1.hd e1.ty s21
  · exact PySem.W.exm_ref e2.sb e2.hd e2.ty s22
end
end MP
set_option Elab.async false
set_option linter.all false
set_option maxRecDepth 100000
/-! The small forms of the defs that stand alike in many laws; printed by genlaw.py. -/
namespace MP
def fdLawChanged : FD := ⟨"_law_changed", 2, ["state", "value", "others", "k", "j", "more", "turn"], [.ife (.isi (.var 1) [.bool]) [.ret (.op .ix [.lst [.not (.var 1), .op .int [.var 1]], .call 0 [.var 0, .cI 2]])] [],
    .ife (.orL [.op .is [.var 1, .cN], .isi (.var 1) [.int]]) [.ret (.op .ix [.lst [.op .add [.orL [.var 1, .cI 0], .cI 1], .op .sub [.orL [.var 1, .cI 0], .cI 1], .cI 0, .cN, .op .eq [.var 1, .cI 1], .op .strI [.var 1], .op .mul [.cI 2, .orL [.var 1, .cI 1]]], .call 0 [.var 0, .cI 7]])] [],
    .ife (.isi (.var 1) [.str]) [.asg (.nm 2) (.lst [.op (.slice true false) [.var 1, .cI 1], .op .add [.var 1, .cS "a"], .op .rev [.var 1], .op .add [.cS "b", .var 1], .cS "", .op (.slice false true) [.var 1, .op .neg [.cI 1]], .cS "left", .cI 3, .cS "in"]), .ret (.op .ix [.var 2, .call 0 [.var 0, .op .len [.var 2]]])] [],
    .ife (.andL [.isi (.var 1) [.tuple], .op .ne [.var 1, .tup []], .op .gt [.call 0 [.var 0, .cI 4], .cI 0]]) [.asg (.nm 3) (.call 0 [.var 0, .op .len [.var 1]]), .ret (.op .add [.op .add [.op (.slice false true) [.var 1, .var 3], .tup [.call 2 [.var 0, .op .ix [.var 1, .var 3]]]], .op (.slice true false) [.var 1, .op .add [.var 3, .cI 1]]])] [],
    .ife (.not (.isi (.var 1) [.tuple])) [.ret (.tup [])] [],
    .asg (.nm 3) (.call 0 [.var 0, .op .add [.op .len [.var 1], .cI 1]]),
    .asg (.nm 4) (.call 0 [.var 0, .op .add [.op .len [.var 1], .cI 1]]),
    .asg (.nm 5) (.lst [.op .add [.op (.slice false true) [.var 1, .var 3], .op (.slice true false) [.var 1, .op .add [.var 3, .cI 1]]], .op .add [.var 1, .op (.slice false true) [.var 1, .cI 1]], .op .rev [.var 1], .op .add [.op (.slice true false) [.var 1, .var 3], .op (.slice false true) [.var 1, .var 3]], .op .lstL [.var 1], .op (.slice false true) [.var 1, .var 3], .tup [], .op .add [.var 1, .tup [.cI 0]]]),
    .ife (.chain .lt .lt (.var 3) (.var 4) (.op .len [.var 1])) [.asg (.nm 5) (.op .add [.var 5, .comp [6] (.op .add [.op .add [.op .add [.op .add [.op (.slice false true) [.var 1, .var 3], .slc (.var 1) (.var 4) (.op .add [.var 4, .cI 1])], .slc (.var 1) (.op .add [.var 3, .cI 1]) (.var 4)], .slc (.var 1) (.var 3) (.op .add [.var 3, .cI 1])], .op (.slice true false) [.var 1, .op .add [.var 4, .cI 1]]]) (.nm 6) (.rng1 (.cI 3)) none])] [],
    .ret (.op .ix [.var 5, .call 0 [.var 0, .op .len [.var 5]]])]⟩
def fdLawCut : FD := ⟨"_law_cut", 2, ["state", "value", "part", "k", "at", "ways"], [.ife (.orL [.not (.isi (.var 1) [.tuple]), .op .eq [.var 1, .tup []]]) [.ret (.var 1)] [],
    .ife (.op .ne [.comp [2] (.var 2) (.nm 2) (.seq (.var 1)) (some (.not (.isi (.var 2) [.str]))), .lst []]) [.asg (.nm 3) (.call 0 [.var 0, .op .len [.var 1]]), .ret (.op .add [.op .add [.op (.slice false true) [.var 1, .var 3], .tup [.call 3 [.var 0, .op .ix [.var 1, .var 3]]]], .op (.slice true false) [.var 1, .op .add [.var 3, .cI 1]]])] [],
    .asg (.nm 3) (.call 0 [.var 0, .op .len [.var 1]]),
    .asg (.nm 4) (.call 0 [.var 0, .op .add [.op .len [.op .ix [.var 1, .var 3]], .cI 1]]),
    .asg (.nm 5) (.lst [.op .add [.op .add [.op (.slice false true) [.var 1, .var 3], .tup [.op (.slice false true) [.op .ix [.var 1, .var 3], .var 4], .op (.slice true false) [.op .ix [.var 1, .var 3], .var 4]]], .op (.slice true false) [.var 1, .op .add [.var 3, .cI 1]]], .op .add [.op .add [.op (.slice false true) [.var 1, .var 3], .tup [.join "" (.slc (.var 1) (.var 3) (.op .add [.var 3, .cI 2]))]], .op (.slice true false) [.var 1, .op .add [.var 3, .cI 2]]]]),
    .asg (.nm 5) (.op .add [.var 5, .lst [.tup [.join "" (.var 1)], .op .tupL [.join "" (.var 1)], .op .add [.op .add [.op (.slice false true) [.var 1, .var 3], .tup [.cS ""]], .op (.slice true false) [.var 1, .var 3]], .op .add [.op .add [.op (.slice false true) [.var 1, .var 3], .op .rev [.slc (.var 1) (.var 3) (.op .add [.var 3, .cI 2])]], .op (.slice true false) [.var 1, .op .add [.var 3, .cI 2]]]]]),
    .ret (.op .ix [.var 5, .call 0 [.var 0, .op .len [.var 5]]])]⟩
def fdLawExchanged : FD := ⟨"_law_exchanged", 3, ["value", "one", "other", "part"], [.ife (.orL [.isi (.var 0) [.bool], .not (.isi (.var 0) [.int, .tuple])]) [.ret (.var 0)] [],
    .ife (.isi (.var 0) [.int]) [.ret (.ife (.op .eq [.var 0, .var 1]) (.var 2) (.ife (.op .eq [.var 0, .var 2]) (.var 1) (.var 0)))] [],
    .ret (.op .tupL [.comp [3] (.call 4 [.var 3, .var 1, .var 2]) (.nm 3) (.seq (.var 0)) none])]⟩
def fdLawInts : FD := ⟨"_law_ints", 1, ["value", "found", "part", "number"], [.ife (.orL [.isi (.var 0) [.bool], .not (.isi (.var 0) [.int, .tuple])]) [.ret (.lst [])] [],
    .ife (.isi (.var 0) [.int]) [.ret (.lst [.var 0])] [],
    .asg (.nm 1) (.lst []),
    .forS (.nm 2) (.seq (.var 0)) [.asg (.nm 1) (.op .add [.var 1, .comp [3] (.var 3) (.nm 3) (.seq (.call 5 [.var 2])) (some (.op .nmem [.var 3, .var 1]))])],
    .ret (.var 1)]⟩
def fdLawNeighbour : FD := ⟨"_law_neighbour", 2, ["state", "value", "step", "k", "part", "x"], [.ife (.isi (.var 1) [.bool, .str]) [.ret (.var 1)] [],
    .asg (.nm 2) (.op .ix [.lst [.cI 1, .op .neg [.cI 1]], .call 0 [.var 0, .cI 2]]),
    .ife (.isi (.var 1) [.int]) [.ret (.op .add [.var 1, .var 2])] [],
    .ife (.orL [.not (.isi (.var 1) [.tuple]), .op .eq [.var 1, .tup []]]) [.ret (.var 1)] [],
    .asg (.nm 3) (.call 0 [.var 0, .op .len [.var 1]]),
    .asg (.nm 4) (.op .ix [.var 1, .var 3]),
    .ife (.andL [.isi (.var 4) [.int], .op .gt [.call 0 [.var 0, .cI 3], .cI 0]]) [.ret (.op .add [.op .add [.op (.slice false true) [.var 1, .var 3], .tup [.op .add [.var 4, .var 2]]], .op (.slice true false) [.var 1, .op .add [.var 3, .cI 1]]])] [],
    .ife (.andL [.isi (.var 4) [.tuple], .op .eq [.op .len [.var 4], .cI 2], .op .eq [.comp [5] (.var 5) (.nm 5) (.seq (.var 4)) (some (.not (.isi (.var 5) [.int]))), .lst []], .op .gt [.op .ix [.var 4, .cI 1], .cI 0], .op .gt [.call 0 [.var 0, .cI 3], .cI 0]]) [.ret (.op .add [.op .add [.op (.slice false true) [.var 1, .var 3], .tup [.tup [.op .add [.op .ix [.var 4, .cI 0], .op .mul [.var 2, .op .ix [.var 4, .cI 1]]], .op .ix [.var 4, .cI 1]]]], .op (.slice true false) [.var 1, .op .add [.var 3, .cI 1]]])] [],
    .ret (.op .add [.op (.slice false true) [.var 1, .var 3], .op (.slice true false) [.var 1, .op .add [.var 3, .cI 1]]])]⟩
def fdLawOdd : FD := ⟨"_law_odd", 2, ["state", "told", "odd", "pick"], [.asg (.nm 2) (.lst [.cN, .cS "", .cS "yes", .dnew, .tup [], .op (.slice false true) [.var 1, .cI 1], .op .lstL [.var 1], .op .add [.var 1, .tup [.cI 0]], .op .add [.tup [.lst [.op .ix [.var 1, .cI 0]]], .op (.slice true false) [.var 1, .cI 1]], .op .add [.tup [.cS "none such"], .op (.slice true false) [.var 1, .cI 1]], .cI 7]),
    .asg (.nm 3) (.call 0 [.var 0, .cI 9]),
    .ife (.op .gt [.var 3, .cI 4]) [.ret (.call 10 [.var 0, .var 1])] [],
    .ret (.ife (.op .eq [.var 3, .cI 0]) (.op .ix [.var 2, .call 0 [.var 0, .op .len [.var 2]]]) (.call 2 [.var 0, .var 1]))]⟩
def fdLawSame : FD := ⟨"_law_same", 2, ["actual", "expected", "k"], [.ife (.op .is [.var 1, .cN]) [.ret (.op .is [.var 0, .cN])] [],
    .ife (.isi (.var 1) [.bool]) [.ret (.andL [.isi (.var 0) [.bool], .op .eq [.var 0, .var 1]])] [],
    .ife (.isi (.var 1) [.int]) [.ret (.andL [.isi (.var 0) [.int], .not (.isi (.var 0) [.bool]), .op .eq [.var 0, .var 1]])] [],
    .ife (.isi (.var 1) [.str]) [.ret (.andL [.isi (.var 0) [.str], .op .eq [.var 0, .var 1]])] [],
    .ife (.andL [.isi (.var 1) [.tuple], .not (.isi (.var 0) [.tuple])]) [.ret (.cB false)] [],
    .ife (.andL [.isi (.var 1) [.list], .not (.isi (.var 0) [.list])]) [.ret (.cB false)] [],
    .ife (.op .ne [.op .len [.var 0], .op .len [.var 1]]) [.ret (.cB false)] [],
    .forS (.nm 2) (.rng1 (.op .len [.var 1])) [.ife (.not (.call 8 [.op .ix [.var 0, .var 2], .op .ix [.var 1, .var 2]])) [.ret (.cB false)] []],
    .ret (.cB true)]⟩
def fdLawTurnedAbout : FD := ⟨"_law_turned_about", 2, ["state", "told", "numbers", "pick", "one", "other", "part", "k", "j"], [.asg (.nm 2) (.call 5 [.var 1]),
    .asg (.nm 3) (.call 0 [.var 0, .cI 5]),
    .ife (.andL [.op .lt [.var 3, .cI 3], .op .ne [.var 2, .lst []]]) [.asg (.nm 4) (.op .ix [.var 2, .call 0 [.var 0, .op .len [.var 2]]]), .asg (.nm 5) (.ife (.op .eq [.var 3, .cI 0]) (.op .add [.var 4, .cI 1]) (.op .ix [.var 2, .call 0 [.var 0, .op .len [.var 2]]])), .ret (.call 4 [.var 1, .var 4, .var 5])] [],
    .ife (.op .eq [.var 3, .cI 3]) [.ret (.op .add [.op (.slice false true) [.var 1, .cI 1], .ife (.op .gt [.op .len [.var 1], .cI 2]) (.call 3 [.var 0, .op (.slice true false) [.var 1, .cI 1]]) (.op .tupL [.comp [6] (.call 3 [.var 0, .var 6]) (.nm 6) (.seq (.op (.slice true false) [.var 1, .cI 1])) none])])] [],
    .par [7, 8] [.call 0 [.var 0, .op .len [.var 1]], .call 0 [.var 0, .op .len [.var 1]]],
    .ife (.andL [.op .eq [.op .len [.var 1], .cI 2], .isi (.op .ix [.var 1, .cI 1]) [.tuple], .op .ne [.op .ix [.var 1, .cI 1], .tup []]]) [.par [7, 8] [.call 0 [.var 0, .op .len [.op .ix [.var 1, .cI 1]]], .call 0 [.var 0, .op .len [.op .ix [.var 1, .cI 1]]]], .ret (.tup [.op .ix [.var 1, .cI 0], .op .add [.op .add [.op (.slice false true) [.op .ix [.var 1, .cI 1], .var 7], .slc (.op .ix [.var 1, .cI 1]) (.var 8) (.op .add [.var 8, .cI 1])], .op (.slice true false) [.op .ix [.var 1, .cI 1], .op .add [.var 7, .cI 1]]]])] [],
    .ret (.ife (.andL [.op .gt [.var 7, .cI 0], .op .gt [.var 8, .cI 0]]) (.op .add [.op .add [.op (.slice false true) [.var 1, .var 7], .slc (.var 1) (.var 8) (.op .add [.var 8, .cI 1])], .op (.slice true false) [.var 1, .op .add [.var 7, .cI 1]]]) (.var 1))]⟩
def fdIsTold : FD := ⟨"is_told", 3, ["told", "word", "count"], [.ife (.orL [.not (.isi (.var 0) [.tuple]), .op .ne [.op .len [.var 0], .var 2]]) [.ret (.cB false)] [],
    .ret (.andL [.isi (.op .ix [.var 0, .cI 0]) [.str], .op .eq [.op .ix [.var 0, .cI 0], .var 1]])]⟩
def fdLawGcd : FD := ⟨"_law_gcd", 2, ["a", "b"], [.whl (.op .ne [.var 1, .cI 0]) [.par [0, 1] [.var 1, .op .mod [.var 0, .var 1]]],
    .ret (.ife (.op .gt [.var 0, .cI 0]) (.var 0) (.op .sub [.cI 0, .var 0]))]⟩
def fdLawOf : FD := ⟨"_law_of", 2, ["p", "q", "common"], [.asg (.nm 2) (.call 13 [.var 0, .var 1]),
    .asg (.nm 2) (.ife (.op .gt [.var 1, .cI 0]) (.var 2) (.op .sub [.cI 0, .var 2])),
    .ret (.tup [.op .fdiv [.var 0, .var 2], .op .fdiv [.var 1, .var 2]])]⟩
def fdDivisor : FD := ⟨"divisor", 2, ["one", "other"], [.whl (.op .ne [.var 1, .cI 0]) [.par [0, 1] [.var 1, .op .mod [.var 0, .var 1]]],
    .ret (.op .abs [.var 0])]⟩
def fdRatio : FD := ⟨"ratio", 2, ["number", "part", "common"], [.asg (.nm 2) (.call 15 [.var 0, .var 1]),
    .ife (.op .lt [.var 1, .cI 0]) [.asg (.nm 2) (.op .neg [.var 2])] [],
    .ret (.tup [.op .fdiv [.var 0, .var 2], .op .fdiv [.var 1, .var 2]])]⟩
def fdPlus : FD := ⟨"plus", 2, ["one", "other"], [.ret (.call 17 [.op .add [.op .mul [.op .ix [.var 0, .cI 0], .op .ix [.var 1, .cI 1]], .op .mul [.op .ix [.var 1, .cI 0], .op .ix [.var 0, .cI 1]]], .op .mul [.op .ix [.var 0, .cI 1], .op .ix [.var 1, .cI 1]]])]⟩
def fdLess : FD := ⟨"less", 2, ["one", "other"], [.ret (.op .lt [.op .mul [.op .ix [.var 0, .cI 0], .op .ix [.var 1, .cI 1]], .op .mul [.op .ix [.var 1, .cI 0], .op .ix [.var 0, .cI 1]]])]⟩
def fdLawAdd : FD := ⟨"_law_add", 2, ["a", "b"], [.ret (.call 14 [.op .add [.op .mul [.op .ix [.var 0, .cI 0], .op .ix [.var 1, .cI 1]], .op .mul [.op .ix [.var 1, .cI 0], .op .ix [.var 0, .cI 1]]], .op .mul [.op .ix [.var 0, .cI 1], .op .ix [.var 1, .cI 1]]])]⟩
def fdTotal : FD := ⟨"total", 1, ["numbers", "found", "number"], [.asg (.nm 1) (.glob 18),
    .forS (.nm 2) (.seq (.var 0)) [.asg (.nm 1) (.call 20 [.var 1, .var 2])],
    .ret (.var 1)]⟩
def fdMul : FD := ⟨"mul", 2, ["one", "other"], [.ret (.call 17 [.op .mul [.op .ix [.var 0, .cI 0], .op .ix [.var 1, .cI 0]], .op .mul [.op .ix [.var 0, .cI 1], .op .ix [.var 1, .cI 1]]])]⟩
def fdIsWhole : FD := ⟨"is_whole", 1, ["value"], [.ret (.andL [.isi (.var 0) [.int], .not (.isi (.var 0) [.bool])])]⟩
def fdLawMul : FD := ⟨"_law_mul", 2, ["a", "b"], [.ret (.call 14 [.op .mul [.op .ix [.var 0, .cI 0], .op .ix [.var 1, .cI 0]], .op .mul [.op .ix [.var 0, .cI 1], .op .ix [.var 1, .cI 1]]])]⟩
def fdLawParts : FD := ⟨"_law_parts", 3, ["state", "count", "low", "weights", "k", "weight"], [.asg (.nm 3) (.comp [4] (.op .add [.var 2, .call 0 [.var 0, .cI 4]]) (.nm 4) (.rng1 (.var 1)) none),
    .ife (.op .eq [.op .sum [.var 3], .cI 0]) [.stV 3 (.call 0 [.var 0, .var 1]) (.cI 1)] [],
    .ret (.op .tupL [.comp [5] (.call 14 [.var 5, .op .sum [.var 3]]) (.nm 5) (.seq (.var 3)) none])]⟩
def fdAreFractions : FD := ⟨"are_fractions", 2, ["value", "count", "part"], [.ret (.andL [.isi (.var 0) [.tuple], .op .eq [.op .len [.var 0], .var 1], .op .nmem [.cB false, .comp [2] (.call 29 [.var 2]) (.nm 2) (.seq (.var 0)) none]])]⟩
def fdIsFraction : FD := ⟨"is_fraction", 1, ["value"], [.ife (.orL [.not (.isi (.var 0) [.tuple]), .op .ne [.op .len [.var 0], .cI 2], .not (.call 25 [.op .ix [.var 0, .cI 0]]), .not (.call 25 [.op .ix [.var 0, .cI 1]])]) [.ret (.cB false)] [],
    .ret (.andL [.op .gt [.op .ix [.var 0, .cI 1], .cI 0], .op .eq [.call 15 [.op .ix [.var 0, .cI 0], .op .ix [.var 0, .cI 1]], .cI 1]])]⟩
def fdDiv : FD := ⟨"div", 2, ["one", "other"], [.ret (.call 17 [.op .mul [.op .ix [.var 0, .cI 0], .op .ix [.var 1, .cI 1]], .op .mul [.op .ix [.var 0, .cI 1], .op .ix [.var 1, .cI 0]]])]⟩
def fdSub : FD := ⟨"sub", 2, ["one", "other"], [.ret (.call 17 [.op .sub [.op .mul [.op .ix [.var 0, .cI 0], .op .ix [.var 1, .cI 1]], .op .mul [.op .ix [.var 1, .cI 0], .op .ix [.var 0, .cI 1]]], .op .mul [.op .ix [.var 0, .cI 1], .op .ix [.var 1, .cI 1]]])]⟩
def fdLawAllNames : FD := ⟨"_law_all_names", 1, ["value", "found", "part", "name"], [.ife (.isi (.var 0) [.str]) [.ret (.lst [.var 0])] [],
    .asg (.nm 1) (.lst []),
    .forS (.nm 2) (.seq (.ife (.isi (.var 0) [.tuple]) (.var 0) (.tup []))) [.asg (.nm 1) (.op .add [.var 1, .comp [3] (.var 3) (.nm 3) (.seq (.call 34 [.var 2])) (some (.op .nmem [.var 3, .var 1]))])],
    .ret (.var 1)]⟩
def fdLawMinus : FD := ⟨"_law_minus", 2, ["x", "y"], [.ret (.call 22 [.var 0, .tup [.op .sub [.cI 0, .op .ix [.var 1, .cI 0]], .op .ix [.var 1, .cI 1]]])]⟩
def fdLawSwapped : FD := ⟨"_law_swapped", 3, ["value", "one_name", "other_name", "part"], [.ife (.isi (.var 0) [.str]) [.ret (.ife (.op .eq [.var 0, .var 1]) (.var 2) (.ife (.op .eq [.var 0, .var 2]) (.var 1) (.var 0)))] [],
    .ret (.ife (.isi (.var 0) [.tuple]) (.op .tupL [.comp [3] (.call 36 [.var 3, .var 1, .var 2]) (.nm 3) (.seq (.var 0)) none]) (.var 0))]⟩
def fdLawStates : FD := ⟨"_law_states", 1, ["chain", "name", "chances"], [.ret (.comp [1, 2] (.var 1) (.tp [.nm 1, .nm 2]) (.seq (.var 0)) none)]⟩
def fdLawIs : FD := ⟨"_law_is", 3, ["told", "word", "count"], [.ret (.andL [.isi (.var 0) [.tuple], .op .eq [.op .len [.var 0], .var 2], .isi (.op .ix [.var 0, .cI 0]) [.str], .op .eq [.op .ix [.var 0, .cI 0], .var 1]])]⟩
def fdStatesOf : FD := ⟨"states_of", 1, ["chain", "state", "_"], [.ret (.comp [1, 2] (.var 1) (.tp [.nm 1, .nm 2]) (.seq (.var 0)) none)]⟩
def fdLawLess : FD := ⟨"_law_less", 2, ["a", "b"], [.ret (.op .lt [.op .mul [.op .ix [.var 0, .cI 0], .op .ix [.var 1, .cI 1]], .op .mul [.op .ix [.var 1, .cI 0], .op .ix [.var 0, .cI 1]]])]⟩
def fdLawOver : FD := ⟨"_law_over", 2, ["x", "y"], [.ret (.ife (.op .gt [.op .ix [.var 1, .cI 0], .cI 0]) (.call 14 [.op .mul [.op .ix [.var 0, .cI 0], .op .ix [.var 1, .cI 1]], .op .mul [.op .ix [.var 0, .cI 1], .op .ix [.var 1, .cI 0]]]) (.call 14 [.op .sub [.cI 0, .op .mul [.op .ix [.var 0, .cI 0], .op .ix [.var 1, .cI 1]]], .op .sub [.cI 0, .op .mul [.op .ix [.var 0, .cI 1], .op .ix [.var 1, .cI 0]]]]))]⟩
def fdLawChances : FD := ⟨"_law_chances", 2, ["state", "names", "picked", "name", "parts", "k"], [.asg (.nm 2) (.comp [3] (.var 3) (.nm 3) (.seq (.var 1)) (some (.op .eq [.call 0 [.var 0, .cI 2], .cI 0]))),
    .asg (.nm 2) (.ife (.op .ne [.var 2, .lst []]) (.var 2) (.lst [.op .ix [.var 1, .call 0 [.var 0, .op .len [.var 1]]]])),
    .asg (.nm 4) (.call 27 [.var 0, .op .len [.var 2], .cI 1]),
    .ret (.op .tupL [.comp [5] (.tup [.op .ix [.var 2, .var 5], .op .ix [.var 4, .var 5]]) (.nm 5) (.rng1 (.op .len [.var 2])) none])]⟩
def fdLawIsWhole : FD := ⟨"_law_is_whole", 1, ["value"], [.ret (.andL [.isi (.var 0) [.int], .not (.isi (.var 0) [.bool])])]⟩
def fdCheckNames : FD := ⟨"check_names", 2, ["states", "names", "name"], [.ife (.op .mem [.cB true, .comp [2] (.op .nmem [.var 2, .var 0]) (.nm 2) (.seq (.var 1)) none]) [.raise 1] []]⟩
def fdLessTimes : FD := ⟨"less_times", 3, ["row", "lead", "number", "one", "other"], [.ret (.comp [3, 4] (.call 32 [.var 3, .call 24 [.var 2, .var 4]]) (.tp [.nm 3, .nm 4]) (.zip (.var 0) (.var 1)) none)]⟩
def fdLawChain : FD := ⟨"_law_chain", 2, ["state", "high", "names", "name"], [.asg (.nm 2) (.op (.slice false true) [.lst [.cS "a", .cS "b1", .cS "c", .cS "d_"], .op .add [.cI 1, .call 0 [.var 0, .var 1]]]),
    .ret (.op .tupL [.comp [3] (.tup [.var 3, .call 45 [.var 0, .var 2]]) (.nm 3) (.seq (.var 2)) none])]⟩
def fdLawDot : FD := ⟨"_law_dot", 2, ["a", "b", "k"], [.ret (.call 30 [.comp [2] (.call 26 [.op .ix [.var 0, .var 2], .op .ix [.var 1, .var 2]]) (.nm 2) (.rng1 (.op .len [.var 0])) none])]⟩
def fdWhole : FD := ⟨"whole", 1, ["number"], [.ret (.tup [.var 0, .cI 1])]⟩
def fdLawComes : FD := ⟨"_law_comes", 3, ["chain", "name", "goals", "other"], [.ret (.op .ne [.comp [3] (.var 3) (.nm 3) (.seq (.call 52 [.var 0, .var 1])) (some (.op .mem [.var 3, .var 2])), .lst []])]⟩
def fdDot : FD := ⟨"dot", 2, ["one", "other", "left", "right"], [.ret (.call 23 [.comp [2, 3] (.call 24 [.var 2, .var 3]) (.tp [.nm 2, .nm 3]) (.zip (.var 0) (.var 1)) none])]⟩
def fdArePlaces : FD := ⟨"are_places", 2, ["value", "most", "part"], [.ret (.andL [.isi (.var 0) [.tuple], .op .nmem [.cB false, .comp [2] (.andL [.call 25 [.var 2], .chain .le .lt (.cI 0) (.var 2) (.var 1)]) (.nm 2) (.seq (.var 0)) none]])]⟩
def fdLawIsPart : FD := ⟨"_law_is_part", 1, ["x"], [.ife (.orL [.not (.isi (.var 0) [.tuple]), .op .ne [.op .len [.var 0], .cI 2], .not (.call 47 [.op .ix [.var 0, .cI 0]]), .not (.call 47 [.op .ix [.var 0, .cI 1]])]) [.ret (.cB false)] [],
    .ret (.andL [.op .gt [.op .ix [.var 0, .cI 1], .cI 0], .op .eq [.call 13 [.op .ix [.var 0, .cI 0], .op .ix [.var 0, .cI 1]], .cI 1]])]⟩
def fdLawAreTexts : FD := ⟨"_law_are_texts", 1, ["value", "each"], [.ret (.andL [.isi (.var 0) [.tuple], .op .eq [.comp [1] (.var 1) (.nm 1) (.seq (.var 0)) (some (.not (.isi (.var 1) [.str]))), .lst []]])]⟩
def fdLawIsPlace : FD := ⟨"_law_is_place", 2, ["value", "most"], [.ret (.andL [.call 47 [.var 0], .chain .le .lt (.cI 0) (.var 0) (.var 1)])]⟩
def fdLawAreParts : FD := ⟨"_law_are_parts", 2, ["value", "count", "x"], [.ret (.andL [.isi (.var 0) [.tuple], .op .eq [.op .len [.var 0], .var 1], .op .eq [.comp [2] (.var 2) (.nm 2) (.seq (.var 0)) (some (.not (.call 62 [.var 2]))), .lst []]])]⟩
def fdLawChance : FD := ⟨"_law_chance", 1, ["state"], [.ret (.call 14 [.call 0 [.var 0, .cI 5], .cI 4])]⟩
def fdLawArePlaces : FD := ⟨"_law_are_places", 2, ["value", "most", "part"], [.ret (.andL [.isi (.var 0) [.tuple], .op .eq [.comp [2] (.var 2) (.nm 2) (.seq (.var 0)) (some (.not (.call 65 [.var 2, .var 1]))), .lst []]])]⟩
def fdLawMean : FD := ⟨"_law_mean", 2, ["chances", "known", "name", "chance"], [.ret (.call 30 [.comp [2, 3] (.call 26 [.var 3, .op .ix [.var 1, .var 2]]) (.tp [.nm 2, .nm 3]) (.seq (.var 0)) none])]⟩
def fdComing : FD := ⟨"coming", 2, ["chain", "names", "steps", "state", "name"], [.asg (.nm 2) (.call 56 [.var 0]),
    .ret (.comp [3] (.var 3) (.nm 3) (.seq (.call 42 [.var 0])) (some (.op .mem [.cB true, .comp [4] (.op .mem [.var 4, .var 1]) (.nm 4) (.seq (.call 53 [.var 2, .lst [.var 3]])) none])))]⟩
def fdLawFraction : FD := ⟨"_law_fraction", 1, ["state"], [.ret (.call 14 [.op .sub [.call 0 [.var 0, .cI 13], .cI 4], .op .add [.cI 1, .call 0 [.var 0, .cI 3]]])]⟩
def fdLawStart : FD := ⟨"_law_start", 2, ["chain", "name", "other"], [.ret (.comp [2] (.tup [.op .int [.op .eq [.var 1, .var 2]], .cI 1]) (.nm 2) (.seq (.call 38 [.var 0])) none)]⟩
def fdLawStep : FD := ⟨"_law_step", 2, ["chain", "row", "table", "line", "k"], [.asg (.nm 2) (.call 66 [.var 0]),
    .ret (.comp [4] (.call 54 [.var 1, .comp [3] (.op .ix [.var 3, .var 4]) (.nm 3) (.seq (.var 2)) none]) (.nm 4) (.rng1 (.op .len [.var 2])) none)]⟩
def fdAreFractionRows : FD := ⟨"are_fraction_rows", 3, ["value", "height", "width", "row"], [.ife (.orL [.not (.isi (.var 0) [.tuple]), .op .ne [.op .len [.var 0], .var 1]]) [.ret (.cB false)] [],
    .ret (.op .nmem [.cB false, .comp [3] (.call 28 [.var 3, .var 2]) (.nm 3) (.seq (.var 0)) none])]⟩
def fdLawComesIn : FD := ⟨"_law_comes_in", 2, ["outcome", "event"], [.ret (.op .eq [.op .mod [.op .fdiv [.var 0, .op .ix [.lst [.cI 1, .cI 2, .cI 4, .cI 8], .var 1]], .cI 2], .cI 1])]⟩
def fdLawEvents : FD := ⟨"_law_events", 2, ["state", "count", "size", "pick", "own", "k", "found", "outcome", "part", "weights", "numbers", "number"], [.asg (.nm 2) (.op .ix [.lst [.cI 1, .cI 2, .cI 4, .cI 8], .var 1]),
    .asg (.nm 3) (.call 0 [.var 0, .cI 3]),
    .ife (.op .eq [.var 3, .cI 0]) [.asg (.nm 4) (.comp [5] (.call 68 [.var 0]) (.nm 5) (.rng1 (.var 1)) none), .asg (.nm 6) (.lst []), .forS (.nm 7) (.rng1 (.var 2)) [.asg (.nm 8) (.tup [.cI 1, .cI 1]), .forS (.nm 5) (.rng1 (.var 1)) [.asg (.nm 8) (.call 26 [.var 8, .ife (.call 81 [.var 7, .var 5]) (.op .ix [.var 4, .var 5]) (.call 35 [.tup [.cI 1, .cI 1], .op .ix [.var 4, .var 5]])])], .mut .append 6 [.var 8]], .ret (.op .tupL [.var 6])] [],
    .ife (.op .eq [.var 3, .cI 1]) [.asg (.nm 9) (.comp [5] (.op .add [.cI 1, .call 0 [.var 0, .cI 3]]) (.nm 5) (.rng1 (.op .add [.var 1, .cI 1])) none), .asg (.nm 10) (.comp [7] (.op .ix [.var 9, .op .len [.comp [5] (.var 5) (.nm 5) (.rng1 (.var 1)) (some (.call 81 [.var 7, .var 5]))]]) (.nm 7) (.rng1 (.var 2)) none), .ret (.op .tupL [.comp [11] (.call 14 [.var 11, .op .sum [.var 10]]) (.nm 11) (.seq (.var 10)) none])] [],
    .ret (.call 27 [.var 0, .var 2, .cI 0])]⟩
def fdLawGoals : FD := ⟨"_law_goals", 2, ["state", "chain", "found", "name"], [.asg (.nm 2) (.op .tupL [.comp [3] (.var 3) (.nm 3) (.seq (.call 38 [.var 1])) (some (.op .eq [.call 0 [.var 0, .cI 3], .cI 0]))]),
    .ret (.ife (.op .ne [.var 2, .tup []]) (.var 2) (.tup [.op .ix [.op .ix [.var 1, .call 0 [.var 0, .op .len [.var 1]]], .cI 0]]))]⟩
def fdCheckEvents : FD := ⟨"check_events", 1, ["row", "chance", "count", "size"], [.ife (.orL [.op .mem [.cB true, .comp [1] (.call 21 [.var 1, .glob 18]) (.nm 1) (.seq (.var 0)) none], .op .ne [.call 23 [.var 0], .glob 16]]) [.raise 1] [],
    .asg (.nm 2) (.cI 0),
    .asg (.nm 3) (.cI 1),
    .whl (.op .lt [.var 3, .op .len [.var 0]]) [.par [2, 3] [.op .add [.var 2, .cI 1], .op .mul [.cI 2, .var 3]]],
    .ife (.op .ne [.var 3, .op .len [.var 0]]) [.raise 1] [],
    .ife (.op .gt [.var 2, .cI 4]) [.raise 2] [],
    .ret (.var 2)]⟩
def fdPower : FD := ⟨"power", 1, ["number", "found", "_"], [.asg (.nm 1) (.cI 1),
    .forS (.nm 2) (.rng1 (.var 0)) [.asg (.nm 1) (.op .mul [.cI 2, .var 1])],
    .ret (.var 1)]⟩
def fdLawAreWords : FD := ⟨"_law_are_words", 2, ["choices", "words", "states", "k", "each"], [.asg (.nm 2) (.call 90 [.var 0]),
    .ife (.orL [.not (.call 64 [.var 1]), .op .ne [.op .len [.var 1], .op .len [.var 2]]]) [.ret (.cB false)] [],
    .ret (.op .eq [.comp [3] (.var 3) (.nm 3) (.rng1 (.op .len [.var 2])) (some (.op .nmem [.tup [.op .ix [.var 2, .var 3], .op .ix [.var 1, .var 3]], .comp [4] (.op (.slice false true) [.var 4, .cI 2]) (.nm 4) (.seq (.var 0)) none])), .lst []])]⟩
def fdLawChoices : FD := ⟨"_law_choices", 1, ["state", "names", "found", "name", "k"], [.asg (.nm 1) (.op (.slice false true) [.lst [.cS "a", .cS "b1", .cS "c"], .op .add [.cI 1, .call 0 [.var 0, .cI 3]]]),
    .asg (.nm 2) (.lst []),
    .forS (.nm 3) (.seq (.var 1)) [.forS (.nm 4) (.rng1 (.op .add [.cI 1, .call 0 [.var 0, .cI 2]])) [.mut .append 2 [.tup [.var 3, .op .ix [.lst [.cS "go", .cS "stay"], .var 4], .call 45 [.var 0, .var 1]]]]],
    .ret (.op .tupL [.ife (.op .eq [.call 0 [.var 0, .cI 2], .cI 0]) (.var 2) (.op .rev [.var 2])])]⟩
def fdAreWords : FD := ⟨"are_words", 3, ["choices", "states", "words", "state", "word"], [.ife (.orL [.not (.isi (.var 2) [.tuple]), .op .ne [.op .len [.var 2], .op .len [.var 1]]]) [.ret (.cB false)] [],
    .forS (.tp [.nm 3, .nm 4]) (.zip (.var 1) (.var 2)) [.ife (.orL [.not (.isi (.var 4) [.str]), .op .nmem [.var 4, .call 103 [.var 0, .var 3]]]) [.ret (.cB false)] []],
    .ret (.cB true)]⟩
def fdChancesOf : FD := ⟨"chances_of", 3, ["choices", "state", "word", "own", "other", "chances"], [.ret (.op .ix [.comp [3, 4, 5] (.var 5) (.tp [.nm 3, .nm 4, .nm 5]) (.seq (.var 0)) (some (.op .eq [.tup [.var 3, .var 4], .tup [.var 1, .var 2]])), .cI 0])]⟩
def fdCheckRows : FD := ⟨"check_rows", 2, ["one", "other", "row", "chance"], [.forS (.nm 2) (.seq (.tup [.var 0, .var 1])) [.ife (.orL [.op .mem [.cB true, .comp [3] (.call 21 [.var 3, .glob 18]) (.nm 3) (.seq (.var 2)) none], .op .ne [.call 23 [.var 2], .glob 16]]) [.raise 1] []],
    .ife (.op .ne [.op .len [.var 0], .op .len [.var 1]]) [.raise 1] [],
    .ife (.op .gt [.op .len [.var 0], .cI 12]) [.raise 2] []]⟩
def fdMeanBehind : FD := ⟨"mean_behind", 2, ["chances", "known", "name", "chance"], [.ret (.call 23 [.comp [2, 3] (.call 24 [.var 3, .op .ix [.var 1, .var 2]]) (.tp [.nm 2, .nm 3]) (.seq (.var 0)) none])]⟩
def fdWordsOf : FD := ⟨"words_of", 2, ["choices", "state", "own", "word", "_"], [.ret (.comp [2, 3, 4] (.var 3) (.tp [.nm 2, .nm 3, .nm 4]) (.seq (.var 0)) (some (.op .eq [.var 2, .var 1])))]⟩
def fdLawAll : FD := ⟨"_law_all", 2, ["row", "events", "k", "event"], [.ret (.call 30 [.comp [2] (.op .ix [.var 0, .var 2]) (.nm 2) (.rng1 (.op .len [.var 0])) (some (.op .eq [.comp [3] (.var 3) (.nm 3) (.seq (.var 1)) (some (.not (.call 81 [.var 2, .var 3]))), .lst []]))])]⟩
def fdLawChainOf : FD := ⟨"_law_chain_of", 2, ["choices", "words", "states", "found", "k", "name", "word", "chances"], [.asg (.nm 2) (.call 90 [.var 0]),
    .asg (.nm 3) (.lst []),
    .forS (.nm 4) (.rng1 (.op .len [.var 2])) [.mut .append 3 [.tup [.op .ix [.var 2, .var 4], .op .ix [.comp [5, 6, 7] (.var 7) (.tp [.nm 5, .nm 6, .nm 7]) (.seq (.var 0)) (some (.op .eq [.tup [.var 5, .var 6], .tup [.op .ix [.var 2, .var 4], .op .ix [.var 1, .var 4]]])), .cI 0]]]],
    .ret (.op .tupL [.var 3])]⟩
def fdLawIsJoint : FD := ⟨"_law_is_joint", 3, ["one", "other", "table", "row", "x", "k"], [.ife (.orL [.not (.isi (.var 2) [.tuple]), .op .ne [.op .len [.var 2], .op .len [.var 0]], .op .ne [.comp [3] (.var 3) (.nm 3) (.seq (.var 2)) (some (.not (.call 67 [.var 3, .op .len [.var 1]]))), .lst []]]) [.ret (.cB false)] [],
    .ife (.orL [.op .ne [.comp [3] (.var 3) (.nm 3) (.seq (.var 2)) (some (.op .ne [.comp [4] (.var 4) (.nm 4) (.seq (.var 3)) (some (.op .lt [.op .ix [.var 4, .cI 0], .cI 0])), .lst []])), .lst []], .op .ne [.comp [5] (.var 5) (.nm 5) (.rng1 (.op .len [.var 0])) (some (.op .ne [.call 30 [.op .lstL [.op .ix [.var 2, .var 5]]], .op .ix [.var 0, .var 5]])), .lst []]]) [.ret (.cB false)] [],
    .ret (.op .eq [.comp [5] (.var 5) (.nm 5) (.rng1 (.op .len [.var 1])) (some (.op .ne [.call 30 [.comp [3] (.op .ix [.var 3, .var 5]) (.nm 3) (.seq (.var 2)) none], .op .ix [.var 1, .var 5]])), .lst []])]⟩
def fdAllOf : FD := ⟨"all_of", 2, ["row", "events", "found", "outcome", "chance", "event"], [.asg (.nm 2) (.lst []),
    .forS (.tp [.nm 3, .nm 4]) (.enum (.var 0)) [.ife (.op .nmem [.cB false, .comp [5] (.op .eq [.op .mod [.op .fdiv [.var 3, .call 87 [.var 5]], .cI 2], .cI 1]) (.nm 5) (.seq (.var 1)) none]) [.mut .append 2 [.var 4]] []],
    .ret (.call 23 [.var 2])]⟩
def fdLawOrders : FD := ⟨"_law_orders", 1, ["count", "found", "k", "longer", "row", "j"], [.asg (.nm 1) (.lst [.tup []]),
    .forS (.nm 2) (.rng1 (.var 0)) [.asg (.nm 3) (.lst []), .forS (.nm 4) (.seq (.var 1)) [.asg (.nm 3) (.op .add [.var 3, .comp [5] (.op .add [.var 4, .tup [.var 5]]) (.nm 5) (.rng1 (.var 0)) (some (.op .nmem [.var 5, .var 4]))])], .asg (.nm 1) (.var 3)],
    .ret (.var 1)]⟩
def fdCheckChance : FD := ⟨"check_chance", 1, ["chance"], [.ife (.orL [.op .ne [.op .len [.var 0], .cI 1], .call 21 [.op .ix [.var 0, .cI 0], .glob 18], .call 21 [.glob 16, .op .ix [.var 0, .cI 0]]]) [.raise 1] []]⟩
def fdCheckDice : FD := ⟨"check_dice", 2, ["row", "count"], [.ife (.orL [.not (.var 0), .op .lt [.var 1, .cI 0]]) [.raise 1] [],
    .ife (.orL [.op .gt [.op .len [.var 0], .cI 8], .op .gt [.var 1, .cI 6]]) [.raise 2] []]⟩
def fdCheckGoal : FD := ⟨"check_goal", 2, ["choices", "names", "states"], [.asg (.nm 2) (.call 96 [.var 0]),
    .expr (.call 48 [.var 2, .var 1]),
    .ife (.not (.var 1)) [.raise 1] [],
    .ret (.var 2)]⟩
def fdCheckSigns : FD := ⟨"check_signs", 4, ["chain", "signs", "name", "seen", "states", "state", "_", "chances"], [.asg (.nm 4) (.call 40 [.var 0]),
    .expr (.call 48 [.var 4, .tup [.var 2]]),
    .ife (.op .ne [.comp [5, 6] (.var 5) (.tp [.nm 5, .nm 6]) (.seq (.var 1)) none, .var 4]) [.raise 1] [],
    .forS (.tp [.nm 6, .nm 7]) (.seq (.var 1)) [.expr (.call 33 [.var 7])],
    .ife (.op .gt [.op .len [.var 3], .cI 8]) [.raise 2] [],
    .ret (.var 4)]⟩
def fdCostOf : FD := ⟨"cost_of", 4, ["choices", "costs", "state", "word", "own", "other", "_", "cost"], [.ret (.op .ix [.comp [4, 5, 6, 7] (.var 7) (.tp [.tp [.nm 4, .nm 5, .nm 6], .nm 7]) (.zip (.var 0) (.var 1)) (some (.op .eq [.tup [.var 4, .var 5], .tup [.var 2, .var 3]])), .cI 0])]⟩
def fdForwardRows : FD := ⟨"forward_rows", 4, ["chain", "signs", "name", "seen", "states", "table", "rows", "sign", "row", "line", "place", "state", "one", "other"], [.asg (.nm 4) (.call 42 [.var 0]),
    .asg (.nm 5) (.call 63 [.var 0]),
    .asg (.nm 6) (.lst []),
    .forS (.nm 7) (.seq (.var 3)) [.ife (.var 6) [.asg (.nm 8) (.comp [10] (.call 59 [.op .ix [.var 6, .op .neg [.cI 1]], .comp [9] (.op .ix [.var 9, .var 10]) (.nm 9) (.seq (.var 5)) none]) (.nm 10) (.rng1 (.op .len [.var 4])) none)] [.asg (.nm 8) (.comp [11] (.ife (.op .eq [.var 11, .var 2]) (.glob 16) (.glob 18)) (.nm 11) (.seq (.var 4)) none)], .mut .append 6 [.comp [12, 13] (.call 24 [.var 12, .var 13]) (.tp [.nm 12, .nm 13]) (.zip (.var 8) (.call 122 [.var 1, .var 7])) none]],
    .ret (.var 6)]⟩
def fdMeanOf : FD := ⟨"mean_of", 1, ["row", "place", "chance"], [.ret (.call 23 [.comp [1, 2] (.call 24 [.call 57 [.var 1], .var 2]) (.tp [.nm 1, .nm 2]) (.enum (.var 0)) none])]⟩
def fdLawAreWholes : FD := ⟨"_law_are_wholes", 2, ["value", "count", "part"], [.ret (.andL [.isi (.var 0) [.tuple], .op .eq [.op .len [.var 0], .var 1], .op .eq [.comp [2] (.var 2) (.nm 2) (.seq (.var 0)) (some (.not (.call 47 [.var 2]))), .lst []]])]⟩
def fdLawBoth : FD := ⟨"_law_both", 2, ["chain", "other", "name"], [.ret (.comp [2] (.call 77 [.var 1, .call 77 [.var 0, .call 76 [.var 0, .var 2]]]) (.nm 2) (.seq (.call 38 [.var 0])) none)]⟩
def fdLawDown : FD := ⟨"_law_down", 1, ["row", "found", "x", "k", "y"], [.asg (.nm 1) (.lst []),
    .forS (.nm 2) (.seq (.var 0)) [.asg (.nm 3) (.op .len [.comp [4] (.var 4) (.nm 4) (.seq (.var 1)) (some (.not (.call 43 [.var 4, .var 2])))]), .asg (.nm 1) (.op .add [.op .add [.op (.slice false true) [.var 1, .var 3], .lst [.var 2]], .op (.slice true false) [.var 1, .var 3]])],
    .ret (.var 1)]⟩
def fdLawForward : FD := ⟨"_law_forward", 4, ["chain", "signals", "name", "seen", "found", "row", "k", "given", "j"], [.asg (.nm 4) (.lst []),
    .asg (.nm 5) (.call 76 [.var 0, .var 2]),
    .forS (.nm 6) (.rng1 (.op .len [.var 3])) [.asg (.nm 5) (.ife (.op .eq [.var 6, .cI 0]) (.var 5) (.call 77 [.var 0, .var 5])), .asg (.nm 7) (.call 110 [.var 0, .var 1, .op .ix [.var 3, .var 6]]), .asg (.nm 5) (.comp [8] (.call 26 [.op .ix [.var 5, .var 8], .op .ix [.var 7, .var 8]]) (.nm 8) (.rng1 (.op .len [.var 5])) none), .mut .append 4 [.op .tupL [.var 5]]],
    .ret (.var 4)]⟩
def fdLawInOrder : FD := ⟨"_law_in_order", 1, ["numbers", "found", "x", "k", "y"], [.asg (.nm 1) (.lst []),
    .forS (.nm 2) (.seq (.var 0)) [.ife (.op .nmem [.var 2, .var 1]) [.asg (.nm 3) (.op .len [.comp [4] (.var 4) (.nm 4) (.seq (.var 1)) (some (.call 43 [.var 4, .var 2]))]), .asg (.nm 1) (.op .add [.op .add [.op (.slice false true) [.var 1, .var 3], .lst [.var 2]], .op (.slice true false) [.var 1, .var 3]])] []],
    .ret (.op .tupL [.comp [2] (.tup [.var 2, .call 14 [.op .len [.comp [4] (.cI 1) (.nm 4) (.seq (.var 0)) (some (.op .eq [.var 4, .var 2]))], .op .len [.var 0]]]) (.nm 2) (.seq (.var 1)) none])]⟩
def fdLawProduct : FD := ⟨"_law_product", 1, ["numbers", "found", "x"], [.asg (.nm 1) (.tup [.cI 1, .cI 1]),
    .forS (.nm 2) (.seq (.var 0)) [.asg (.nm 1) (.call 26 [.var 1, .var 2])],
    .ret (.var 1)]⟩
def fdLawSumRow : FD := ⟨"_law_sum_row", 2, ["one", "other", "found", "k", "j"], [.asg (.nm 2) (.comp [3] (.tup [.cI 0, .cI 1]) (.nm 3) (.rng1 (.op .sub [.op .add [.op .len [.var 0], .op .len [.var 1]], .cI 1])) none),
    .forS (.nm 3) (.rng1 (.op .len [.var 0])) [.forS (.nm 4) (.rng1 (.op .len [.var 1])) [.stV 2 (.op .add [.var 3, .var 4]) (.call 22 [.op .ix [.var 2, .op .add [.var 3, .var 4]], .call 26 [.op .ix [.var 0, .var 3], .op .ix [.var 1, .var 4]]])]],
    .ret (.var 2)]⟩
def fdLawText : FD := ⟨"_law_text", 2, ["state", "high", "k"], [.ret (.join "" (.comp [2] (.op .ix [.cS "xy", .call 0 [.var 0, .cI 2]]) (.nm 2) (.rng1 (.op .add [.cI 1, .call 0 [.var 0, .var 1]])) none))]⟩
def fdCheckBoth : FD := ⟨"check_both", 2, ["chain", "other", "states"], [.asg (.nm 2) (.call 40 [.var 0]),
    .ife (.op .ne [.call 40 [.var 1], .var 2]) [.raise 1] [],
    .ret (.var 2)]⟩
def fdCheckChildren : FD := ⟨"check_children", 1, ["row", "chance"], [.ife (.orL [.not (.var 0), .op .mem [.cB true, .comp [1] (.call 21 [.var 1, .glob 18]) (.nm 1) (.seq (.var 0)) none], .op .ne [.call 23 [.var 0], .glob 16]]) [.raise 1] [],
    .ife (.op .gt [.op .len [.var 0], .cI 4]) [.raise 2] []]⟩
def fdEven : FD := ⟨"even", 1, ["chain", "states", "row", "table", "count", "one", "other"], [.asg (.tp [.nm 1, .nm 2]) (.call 86 [.var 0]),
    .asg (.nm 3) (.call 63 [.var 0]),
    .asg (.nm 4) (.op .len [.var 1]),
    .forS (.nm 5) (.rng1 (.var 4)) [.forS (.nm 6) (.rng1 (.var 4)) [.ife (.op .ne [.call 24 [.op .ix [.var 2, .var 5], .op .ix [.op .ix [.var 3, .var 5], .var 6]], .call 24 [.op .ix [.var 2, .var 6], .op .ix [.op .ix [.var 3, .var 6], .var 5]]]) [.ret (.tup [.cS "ring", .call 154 [.var 1, .var 3]])] []]],
    .ret (.tup [.cS "even", .op .tupL [.var 2]])]⟩
def fdNumberRow : FD := ⟨"number_row", 2, ["row", "count", "found", "number", "outcome", "chance"], [.asg (.nm 2) (.lst []),
    .forS (.nm 3) (.rng1 (.op .add [.var 1, .cI 1])) [.mut .append 2 [.call 23 [.comp [4, 5] (.var 5) (.tp [.nm 4, .nm 5]) (.enum (.var 0)) (some (.op .eq [.call 148 [.var 4, .var 1], .var 3]))]]],
    .ret (.var 2)]⟩
def fdOnesOf : FD := ⟨"ones_of", 2, ["outcome", "count", "event"], [.ret (.op .sum [.comp [2] (.op .mod [.op .fdiv [.var 0, .call 87 [.var 2]], .cI 2]) (.nm 2) (.rng1 (.var 1)) none])]⟩
def fdOverlap : FD := ⟨"overlap", 3, ["one", "other", "chances", "found", "size"], [.asg (.nm 3) (.glob 18),
    .forS (.nm 4) (.rng2 (.cI 1) (.op .add [.op .min2 [.op .len [.var 0], .op .len [.var 1]], .cI 1])) [.ife (.op .eq [.op (.slice true false) [.var 0, .op .sub [.op .len [.var 0], .var 4]], .op (.slice false true) [.var 1, .var 4]]) [.asg (.nm 3) (.call 20 [.var 3, .call 31 [.glob 16, .call 153 [.op (.slice false true) [.var 1, .var 4], .var 2]]])] []],
    .ret (.var 3)]⟩
def fdRoundChance : FD := ⟨"round_chance", 2, ["table", "way", "found", "one", "other"], [.asg (.nm 2) (.glob 16),
    .forS (.tp [.nm 3, .nm 4]) (.zip (.var 1) (.op .add [.op (.slice true false) [.var 1, .cI 1], .op (.slice false true) [.var 1, .cI 1]])) [.asg (.nm 2) (.call 24 [.var 2, .op .ix [.op .ix [.var 0, .var 3], .var 4]])],
    .ret (.var 2)]⟩
def fdRowAfter : FD := ⟨"row_after", 3, ["chain", "name", "steps", "states", "table", "row", "state", "_", "line", "place"], [.asg (.nm 3) (.call 42 [.var 0]),
    .asg (.nm 4) (.call 63 [.var 0]),
    .asg (.nm 5) (.comp [6] (.ife (.op .eq [.var 6, .var 1]) (.glob 16) (.glob 18)) (.nm 6) (.seq (.var 3)) none),
    .forS (.nm 7) (.rng1 (.var 2)) [.asg (.nm 5) (.comp [9] (.call 59 [.var 5, .comp [8] (.op .ix [.var 8, .var 9]) (.nm 8) (.seq (.var 4)) none]) (.nm 9) (.rng1 (.op .len [.var 3])) none)],
    .ret (.var 5)]⟩
def fdSumRow : FD := ⟨"sum_row", 2, ["row", "other", "found", "_", "one", "chance", "two", "share"], [.asg (.nm 2) (.comp [3] (.glob 18) (.nm 3) (.rng1 (.op .sub [.op .add [.op .len [.var 0], .op .len [.var 1]], .cI 1])) none),
    .forS (.tp [.nm 4, .nm 5]) (.enum (.var 0)) [.forS (.tp [.nm 6, .nm 7]) (.enum (.var 1)) [.stV 2 (.op .add [.var 4, .var 6]) (.call 20 [.op .ix [.var 2, .op .add [.var 4, .var 6]], .call 24 [.var 5, .var 7]])]],
    .ret (.var 2)]⟩
def fdTextChance : FD := ⟨"text_chance", 2, ["text", "chances", "found", "sign"], [.asg (.nm 2) (.glob 16),
    .forS (.nm 3) (.seq (.var 0)) [.asg (.nm 2) (.call 24 [.var 2, .op .ix [.var 1, .var 3]])],
    .ret (.var 2)]⟩
def fdValueAt : FD := ⟨"value_at", 2, ["row", "number", "found", "chance"], [.asg (.nm 2) (.glob 18),
    .forS (.nm 3) (.seq (.op .rev [.var 0])) [.asg (.nm 2) (.call 20 [.call 24 [.var 2, .var 1], .var 3])],
    .ret (.var 2)]⟩
end MP
set_option Elab.async false
set_option linter.all false
set_option maxRecDepth 100000
/-! How the shared small forms run: comprehensions, is_told, is_whole, _law_same. -/
namespace MP
open PySem L2

theorem callF_eq {T : Tab} {n f : Nat} {fd : FD} {ds : List D} {w : W} (h0 : f ≠ 0) (hf : T.fn f = some fd) (hl : ds.length = fd.np) :
    callF T (n + 1) f ds w = endR (exs ⟨callF T n, T.gl⟩ fd.body ⟨startE fd.slots.length ds, w⟩) := by
  rw [callF, if_neg h0, hf]
  dsimp only
  rw [if_pos hl]
theorem compR_pure {own : List Nat} {tg : MT} {cond : S → R Bool} {elt : S → R D} {p : D → Bool} {f : D → D} {s : S} : ∀ {ds acc : List D},
    (∀ d ∈ ds, ∃ env1, asgT tg d s.env = some env1 ∧ cond ⟨env1, s.w⟩ = .ok (p d) ⟨env1, s.w⟩ ∧ (p d = true → elt ⟨env1, s.w⟩ = .ok (f d) ⟨env1, s.w⟩) ∧ wipeE env1 own = s.env) → acc.length + ds.length ≤ LN →
    compR own tg cond elt ds acc s = .ok (acc ++ (ds.filter p).map f) s
  | [], acc, _, _ => by simp [compR]
  | d :: ds, acc, h, hl => by
    obtain ⟨env1, h1, h2, h3, h4⟩ := h d List.mem_cons_self
    simp only [List.length_cons] at hl
    rw [compR, h1]
    dsimp only
    rw [h2]
    simp only [bndx]
    cases hp : p d with
    | false =>
      simp only [Bool.false_eq_true, if_false, h4, List.filter_cons, hp]
      exact compR_pure (fun d' hd => h d' (List.mem_cons_of_mem _ hd)) (by omega)
    | true =>
      rw [h3 hp]
      simp only [if_true, h4]
      rw [if_pos (by omega), compR_pure (fun d' hd => h d' (List.mem_cons_of_mem _ hd)) (by simp; omega)]
      simp [List.filter_cons, hp]
theorem set_wipe {env : Env} {i : Nat} {x y : Option (D × Bool)} : (env.set i x).set i y = env.set i y := by simp
/-- a comprehension with one name -/
theorem ev_comp1 {cx : Cxt} {m : Bool} {i : Nat} {elt : ME} {src : MI} {cond : Option ME} {s s0 : S} {ds : List D} (p : D → Bool) (f : D → D) (hs : evI cx src s0 = .ok ds s) (hi : i < s.env.length) (ho : noOwn s.env [i] = true) (hl : ds.length ≤ LN)
    (h : ∀ d ∈ ds, evO cx cond ⟨s.env.set i (some (d, false)), s.w⟩ = .ok (p d) ⟨s.env.set i (some (d, false)), s.w⟩ ∧ (p d = true → oneR (ev cx false elt ⟨s.env.set i (some (d, false)), s.w⟩) = .ok (f d) ⟨s.env.set i (some (d, false)), s.w⟩)) :
    ev cx m (.comp [i] elt (.nm i) src cond) s0 = tr m (.fresh (.lst ((ds.filter p).map f))) s := by
  simp only [ev, hs, bnd_ok, ho, if_true]
  rw [compR_pure (p := p) (f := f)]
  · simp only [bndx, List.nil_append, restE, wipeE]
    have : ((s.env.set i none).set i (s.env.getD i none)) = s.env := by
      rw [set_wipe]
      apply List.ext_getElem?
      intro j
      by_cases hj : i = j
      · subst hj
        rw [List.getElem?_set_self hi, List.getD_eq_getElem?_getD, List.getElem?_eq_getElem hi]
        rfl
      · rw [List.getElem?_set_ne hj]
    rw [this]
  · intro d hd
    obtain ⟨h1, h2⟩ := h d hd
    refine ⟨s.env.set i (some (d, false)), ?_, h1, h2, ?_⟩
    · simp [asgT, wipeE, hi]
    · simp [wipeE]
  · simpa using hl
/-- data that may be asked about -/
def okA (d : D) : Prop := shp 64 d = true ∨ ∃ kvs, d = .dct kvs
def toldB (wd : Str) (c : Nat) : D → Bool
  | .tup (.str s :: r) => (r.length + 1 == c) && (s == wd)
  | _ => false
theorem shps_mem {n : Nat} : ∀ {xs : List D}, shps n xs = true → ∀ x ∈ xs, shp n x = true
  | [], _, x, hx => by cases hx
  | y :: r, h, x, hx => by
    simp only [shps, Bool.and_eq_true] at h
    rcases List.mem_cons.mp hx with rfl | hx
    · exact h.1
    · exact shps_mem h.2 x hx
theorem shp_up : ∀ {n : Nat} {d : D}, shp n d = true → shp (n + 1) d = true
  | n, .non, _ => by simp [shp]
  | n, .bl _, _ => by simp [shp]
  | n, .int _, _ => by simp [shp]
  | n, .str s, h => by simpa [shp] using h
  | 0, .lst xs, h => by simp [shp] at h
  | 0, .tup xs, h => by simp [shp] at h
  | n + 1, .lst xs, h => by
    simp only [shp] at h ⊢
    exact shps_up h
  | n + 1, .tup xs, h => by
    simp only [shp] at h ⊢
    exact shps_up h
  | n, .dct _, h => by simp [shp] at h
  | n, .st, h => by simp [shp] at h
  | n, .err _, h => by simp [shp] at h
where
  shps_up : ∀ {n : Nat} {xs : List D}, shps n xs = true → shps (n + 1) xs = true
  | _, [], _ => by simp [shps]
  | n, x :: r, h => by
    simp only [shps, Bool.and_eq_true] at h ⊢
    exact ⟨shp_up h.1, shps_up h.2⟩
theorem shp_le {n m : Nat} {d : D} (h : shp n d = true) (hm : n ≤ m) : shp m d = true := by
  induction hm with
  | refl => exact h
  | step _ ih => exact shp_up ih
theorem is_told_run {T : Tab} {n : Nat} {w : W} {d : D} {wd : Str} {c : Nat} (hT : T.fn 11 = some fdIsTold) (hd : okA d) (hw : sOk wd = true) (hc : 0 < c) :
    callF T (n + 1) 11 [d, .str wd, .int c] w = .ok (.bl (toldB wd c d)) w := by
  rw [callF_eq (by decide) hT (by rfl)]
  have hsw : shp 64 (.str wd) = true := by simpa [shp] using hw
  cases d with
  | tup xs =>
    rcases hd with hd | ⟨_, hd⟩
    · cases xs with
      | nil =>
        have e : ((0 : Int) == (c : Int)) = false := by simp; omega
        simp [fdIsTold, startE, exs, ex, ev, evs, evOr, evAnd, isBl, bnd, isTys, isTy, Opd.d, truthD, tr, opD, eqB, lenD, outR, shp, shps, eqD, endR, toldB, oneR, consume, e]
      | cons x r =>
        have hx : shp 64 x = true := shp_le (n := 63) (shps_mem (by simpa [shp] using hd) x List.mem_cons_self) (by decide)
        cases e : (((r.length : Int) + 1) == (c : Int)) with
        | false =>
          have e2 : (r.length + 1 == c) = false := by simp at e ⊢; omega
          have e3 : toldB wd c (.tup (x :: r)) = false := by cases x <;> simp [toldB, e2]
          simp [fdIsTold, startE, exs, ex, ev, evs, evOr, evAnd, isBl, bnd, isTys, isTy, Opd.d, truthD, tr, opD, eqB, lenD, outR, shp, shps, eqD, endR, oneR, consume, e, e3]
        | true =>
          have e2 : (r.length + 1 == c) = true := by simp at e ⊢; omega
          have ha : atI (x :: r) 0 = some x := by simp [atI, ixN]
          cases x <;> simp [fdIsTold, startE, exs, ex, ev, evs, evOr, evAnd, isBl, bnd, isTys, isTy, Opd.d, truthD, tr, opD, eqB, lenD, outR, shp, shps, eqD, endR, oneR, consume, e, toldB, e2, ixD, ha] <;> simp_all [shp]
    · cases hd
  | _ => first | (rcases hd with hd | ⟨_, hd⟩ <;> simp [shp] at hd; done) | (simp [fdIsTold, startE, exs, ex, ev, evs, evOr, evAnd, isBl, bnd, isTys, isTy, Opd.d, truthD, tr, opD, eqB, lenD, outR, shp, shps, eqD, endR, toldB, oneR, consume]; done) | skip
def wholeB : D → Bool
  | .int _ => true
  | _ => false
theorem is_whole_run {T : Tab} {n : Nat} {w : W} {d : D} (hT : T.fn 25 = some fdIsWhole) (hd : okA d) : callF T (n + 1) 25 [d] w = .ok (.bl (wholeB d)) w := by
  rw [callF_eq (by decide) hT (by rfl)]
  cases d <;> first
    | (rcases hd with hd | ⟨_, hd⟩ <;> simp [shp] at hd; done)
    | simp [fdIsWhole, startE, exs, ex, ev, evs, evOr, evAnd, isBl, bnd, isTys, isTy, Opd.d, truthD, tr, endR, wholeB, oneR, consume]
/-- a loop that looks for the first that does not pass -/
theorem forR_search {i : Nat} {b : S → R Fl} {q : D → Bool} {r : D} {env0 : Env} {w : W} (hi : i < env0.length) : ∀ (ds : List D) (x : Option (D × Bool)),
    (∀ d ∈ ds, b ⟨env0.set i (some (d, false)), w⟩ = .ok (if q d then .next else .ret r) ⟨env0.set i (some (d, false)), w⟩) → ∃ y, forR (.nm i) b ds ⟨env0.set i x, w⟩ = .ok (if ds.all q then .next else .ret r) ⟨env0.set i y, w⟩
  | [], x, _ => ⟨x, by simp [forR]⟩
  | d :: ds, x, h => by
    have h1 := h d List.mem_cons_self
    obtain ⟨y, h2⟩ := forR_search hi ds (some (d, false)) fun d' hd => h d' (List.mem_cons_of_mem _ hd)
    have ha : asgT (.nm i) d (env0.set i x) = some (env0.set i (some (d, false))) := by simp [asgT, hi]
    cases hq : q d with
    | true =>
      refine ⟨y, ?_⟩
      rw [forR, ha]
      dsimp only
      rw [h1]
      simp only [bnd, hq, if_true, h2, List.all_cons, Bool.true_and]
    | false =>
      refine ⟨some (d, false), ?_⟩
      rw [forR, ha]
      dsimp only
      rw [h1]
      simp [bnd, hq]
mutual
/-- strictly the same -/
def sameD : D → D → Bool
  | a, .non => match a with | .non => true | _ => false
  | a, .bl b => match a with | .bl c => c == b | _ => false
  | a, .int i => match a with | .int j => j == i | _ => false
  | a, .str s => match a with | .str t => t == s | _ => false
  | a, .tup es => match a with | .tup as => sameDs as es | _ => false
  | a, .lst es => match a with | .lst as => sameDs as es | _ => false
  | _, _ => false
def sameDs : List D → List D → Bool
  | [], [] => true
  | a :: as, e :: es => sameD a e && sameDs as es
  | _, _ => false
end
theorem sameDs_len : ∀ {as es : List D}, sameDs as es = true → as.length = es.length
  | [], [], _ => rfl
  | [], _ :: _, h => by simp [sameDs] at h
  | _ :: _, [], h => by simp [sameDs] at h
  | a :: as, e :: es, h => by
    simp only [sameDs, Bool.and_eq_true] at h
    simp [sameDs_len h.2]
theorem sameDs_all : ∀ (as es : List D), as.length = es.length → sameDs as es = ((List.range es.length).all fun k => sameD (as.getD k .non) (es.getD k .non))
  | [], [], _ => rfl
  | [], _ :: _, h => by simp at h
  | _ :: _, [], h => by simp at h
  | a :: as, e :: es, h => by
    have ih := sameDs_all as es (by simpa using h)
    simp only [sameDs, ih, List.length_cons, List.range_succ_eq_map, List.all_cons, List.all_map]
    rfl
mutual
def szD : D → Nat
  | .str s => 1 + s.length
  | .lst xs => 1 + szDs xs
  | .tup xs => 1 + szDs xs
  | _ => 1
def szDs : List D → Nat
  | [] => 0
  | x :: r => szD x + szDs r
end
theorem szD_pos : ∀ d : D, 1 ≤ szD d
  | .str s => by simp [szD]
  | .lst xs => by simp [szD]
  | .tup xs => by simp [szD]
  | .non => by simp [szD]
  | .bl _ => by simp [szD]
  | .int _ => by simp [szD]
  | .dct _ => by simp [szD]
  | .st => by simp [szD]
  | .err _ => by simp [szD]
theorem szDs_len : ∀ xs : List D, xs.length ≤ szDs xs
  | [] => Nat.le_refl _
  | x :: r => by
    have := szDs_len r
    have := szD_pos x
    simp only [List.length_cons, szDs]
    omega
theorem szDs_mem : ∀ {xs : List D} {x : D}, x ∈ xs → szD x ≤ szDs xs
  | y :: r, x, h => by
    simp only [szDs]
    rcases List.mem_cons.mp h with rfl | h
    · omega
    · have := szDs_mem h
      omega
theorem atI_nat {α : Type} {xs : List α} {k : Nat} (h : k < xs.length) : atI xs (k : Int) = some xs[k] := by
  unfold atI ixN
  rw [if_pos (by omega), if_pos (by omega)]
  simp
theorem getD_lt {xs : List D} {k : Nat} (h : k < xs.length) : xs.getD k .non = xs[k] := by
  rw [List.getD_eq_getElem?_getD, List.getElem?_eq_getElem h]
  rfl
theorem rangeD0 (n : Nat) : rangeD 0 (n : Int) = (List.range n).map fun k : Nat => D.int (k : Int) := by
  unfold rangeD
  simp
def sameQ (as es : List D) : D → Bool
  | .int i => sameD (as.getD i.toNat .non) (es.getD i.toNat .non)
  | _ => false
theorem all_sameQ (as es : List D) (h : as.length = es.length) : (rangeD 0 (es.length : Int)).all (sameQ as es) = sameDs as es := by
  rw [sameDs_all as es h, rangeD0, List.all_map]
  congr 1
def scalB : D → Bool
  | .non => true
  | .bl _ => true
  | .int _ => true
  | .str _ => true
  | _ => false
theorem same_scal {T : Tab} (hT : T.fn 8 = some fdLawSame) {a e : D} {n : Nat} {w : W} (ha : okA a) (hs : scalB e = true) (he : shp 64 e = true) : callF T (n + 1) 8 [a, e] w = .ok (.bl (sameD a e)) w := by
  rw [callF_eq (by decide) hT (by rfl)]
  cases e <;> (try (simp [scalB] at hs; done)) <;> cases a <;> (try (rcases ha with ha | ⟨_, ha⟩ <;> simp [shp] at ha; done)) <;>
    simp_all [okA, fdLawSame, startE, exs, ex, ev, evs, evc, evOr, evAnd, isBl, bnd, isTys, isTy, Opd.d, truthD, tr, opD, isB, eqB, outR, endR, oneR, consume, sameD, shp, eqD]
theorem same_loop {T : Tab} {n : Nat} {w : W} {da de : D} {as es : List D} {x : Option (D × Bool)} (hl : as.length = es.length) (hz : es.length ≤ 1000000) (hda : da = .tup as ∨ da = .lst as) (hde : de = .tup es ∨ de = .lst es)
    (ih : ∀ i (h1 : i < as.length) (h2 : i < es.length), callF T n 8 [as[i], es[i]] w = .ok (.bl (sameD as[i] es[i])) w) :
    ∃ y, ex ⟨callF T n, T.gl⟩ (.forS (.nm 2) (.rng1 (.op .len [.var 1])) [.ife (.not (.call 8 [.op .ix [.var 0, .var 2], .op .ix [.var 1, .var 2]])) [.ret (.cB false)] []]) ⟨[some (da, false), some (de, false), x], w⟩ =
      .ok (if sameDs as es then .next else .ret (.bl false)) ⟨[some (da, false), some (de, false), y], w⟩ := by
  have hi : 2 < ([some (da, false), some (de, false), none] : Env).length := by show 2 < 3; omega
  obtain ⟨y, h⟩ := forR_search (i := 2) (b := fun s => exs ⟨callF T n, T.gl⟩ [.ife (.not (.call 8 [.op .ix [.var 0, .var 2], .op .ix [.var 1, .var 2]])) [.ret (.cB false)] []] s) (q := sameQ as es) (r := .bl false) (env0 := [some (da, false), some (de, false), none]) (w := w) hi (rangeD 0 (es.length : Int)) x fun d hd => by
    obtain ⟨i, hi, rfl⟩ : ∃ i : Nat, i < es.length ∧ d = .int (i : Int) := by
      rw [rangeD0] at hd
      obtain ⟨i, h1, h2⟩ := List.mem_map.mp hd
      exact ⟨i, List.mem_range.mp h1, h2.symm⟩
    have e1 := atI_nat (xs := as) (k := i) (by omega)
    have e2 := atI_nat (xs := es) (k := i) hi
    have e3 : sameQ as es (.int (i : Int)) = sameD as[i] es[i] := by
      simp only [sameQ, Int.toNat_natCast]
      rw [getD_lt (xs := as) (by omega), getD_lt hi]
    rw [e3]
    have c := ih i (by omega) hi
    rcases hda with rfl | rfl <;> rcases hde with rfl | rfl <;> cases hsd : sameD as[i] es[i] <;> rw [hsd] at c <;>
      simp [exs, ex, ev, evs, evc, isBl, bnd, Opd.d, truthD, tr, opD, outR, oneR, consume, ixD, e1, e2, callR, c]
  rw [all_sameQ as es hl] at h
  refine ⟨y, ?_⟩
  have z1 : (es.length : Int) ≤ 1000000 := by omega
  have z2 : (-1000000 : Int) ≤ (es.length : Int) := by omega
  have h' : forR (.nm 2) (fun s => exs ⟨callF T n, T.gl⟩ [.ife (.not (.call 8 [.op .ix [.var 0, .var 2], .op .ix [.var 1, .var 2]])) [.ret (.cB false)] []] s) (rangeD 0 (es.length : Int)) ⟨[some (da, false), some (de, false), x], w⟩ = .ok (if sameDs as es then .next else .ret (.bl false)) ⟨[some (da, false), some (de, false), y], w⟩ := h
  rcases hde with rfl | rfl <;> simp only [ex, evIc, evI, ev, evs, bnd, opD, lenD, outR, tr, Opd.d, List.getElem?_cons_zero, List.getElem?_cons_succ, Bool.false_eq_true, if_false, z1, z2, and_self, if_true] <;> exact h'
theorem same_seq {T : Tab} (hT : T.fn 8 = some fdLawSame) {n : Nat} {w : W} {a e : D} {es : List D} (ha : okA a) (hde : e = .tup es ∨ e = .lst es) (hz : es.length ≤ 1000000)
    (ih : ∀ (as : List D) (i : Nat) (h1 : i < as.length) (h2 : i < es.length), okA as[i] → callF T n 8 [as[i], es[i]] w = .ok (.bl (sameD as[i] es[i])) w) : callF T (n + 1) 8 [a, e] w = .ok (.bl (sameD a e)) w := by
  rw [callF_eq (by decide) hT (by rfl)]
  have go : ∀ {as : List D}, (a = .tup as ∧ e = .tup es) ∨ (a = .lst as ∧ e = .lst es) → endR (exs ⟨callF T n, T.gl⟩ fdLawSame.body ⟨startE fdLawSame.slots.length [a, e], w⟩) = .ok (.bl (sameDs as es)) w := by
    intro as h
    have el : ∀ i (h1 : i < as.length), okA as[i] := fun i h1 => by
      rcases ha with ha | ⟨_, ha⟩
      · refine .inl (shp_le (n := 63) (shps_mem (xs := as) ?_ _ (List.getElem_mem h1)) (by decide))
        rcases h with ⟨rfl, _⟩ | ⟨rfl, _⟩ <;> simpa [shp] using ha
      · rcases h with ⟨rfl, _⟩ | ⟨rfl, _⟩ <;> cases ha
    unfold fdLawSame
    by_cases hl : as.length = es.length
    · obtain ⟨y, hlp⟩ := same_loop (T := T) (n := n) (w := w) (da := a) (de := e) (x := none) hl hz (h.imp (·.1) (·.1)) (h.imp (·.2) (·.2)) (fun i h1 h2 => ih as i h1 h2 (el i h1))
      generalize (MS.forS (.nm 2) (.rng1 (.op .len [.var 1])) [.ife (.not (.call 8 [.op .ix [.var 0, .var 2], .op .ix [.var 1, .var 2]])) [.ret (.cB false)] []]) = L at hlp ⊢
      rcases h with ⟨rfl, rfl⟩ | ⟨rfl, rfl⟩ <;> cases hs : sameDs as es <;> rw [hs] at hlp <;>
        simp [startE, exs, ex, ev, evs, evAnd, evOr, isBl, bnd, isTys, isTy, Opd.d, truthD, tr, opD, isB, eqB, lenD, outR, shp, eqD, hl, hlp, endR, oneR, consume]
    · have eq : ((as.length : Int) == (es.length : Int)) = false := by simp; omega
      have hs : sameDs as es = false := by
        cases hs : sameDs as es with
        | false => rfl
        | true => exact absurd (sameDs_len hs) hl
      generalize (MS.forS (.nm 2) (.rng1 (.op .len [.var 1])) [.ife (.not (.call 8 [.op .ix [.var 0, .var 2], .op .ix [.var 1, .var 2]])) [.ret (.cB false)] []]) = L
      rcases h with ⟨rfl, rfl⟩ | ⟨rfl, rfl⟩ <;>
        simp [startE, exs, ex, ev, evs, evAnd, evOr, isBl, bnd, isTys, isTy, Opd.d, truthD, tr, opD, isB, eqB, lenD, outR, shp, eqD, eq, hs, endR, oneR, consume]
  have other : sameD a e = false → (∀ as, ¬ ((a = .tup as ∧ e = .tup es) ∨ (a = .lst as ∧ e = .lst es))) → endR (exs ⟨callF T n, T.gl⟩ fdLawSame.body ⟨startE fdLawSame.slots.length [a, e], w⟩) = .ok (.bl false) w := by
    intro _ hn
    unfold fdLawSame
    generalize (MS.forS (.nm 2) (.rng1 (.op .len [.var 1])) [.ife (.not (.call 8 [.op .ix [.var 0, .var 2], .op .ix [.var 1, .var 2]])) [.ret (.cB false)] []]) = L
    rcases hde with rfl | rfl <;> cases a <;> (try (rcases ha with ha | ⟨_, ha⟩ <;> simp [shp] at ha; done)) <;> first
      | (exact absurd (.inl ⟨rfl, rfl⟩) (hn _))
      | (exact absurd (.inr ⟨rfl, rfl⟩) (hn _))
      | simp [startE, exs, ex, ev, evs, evAnd, evOr, isBl, bnd, isTys, isTy, Opd.d, truthD, tr, opD, isB, eqB, lenD, outR, shp, eqD, endR, oneR, consume]
  rcases hde with rfl | rfl <;> cases a <;> first
    | (exact go (.inl ⟨rfl, rfl⟩))
    | (exact go (.inr ⟨rfl, rfl⟩))
    | (refine other (by rfl) fun as h => ?_; rcases h with ⟨h1, h2⟩ | ⟨h1, h2⟩ <;> first | (cases h1; done) | (cases h2; done))
theorem same_run {T : Tab} (hT : T.fn 8 = some fdLawSame) : ∀ (k : Nat) (a e : D) (n : Nat) (w : W), okA a → shp k e = true → k ≤ 64 → szD e ≤ 1000000 → callF T (k + 1 + n) 8 [a, e] w = .ok (.bl (sameD a e)) w := by
  intro k
  induction k with
  | zero =>
    intro a e n w ha he hk hz
    rw [show 0 + 1 + n = n + 1 by omega]
    refine same_scal hT ha ?_ (shp_le he (by omega))
    cases e <;> first | rfl | simp [shp] at he
  | succ k ih =>
    intro a e n w ha he hk hz
    rw [show k + 1 + 1 + n = (k + 1 + n) + 1 by omega]
    by_cases hs : scalB e = true
    · exact same_scal hT ha hs (shp_le he (by omega))
    · have seq : ∀ es, (e = .tup es ∨ e = .lst es) → callF T (k + 1 + n + 1) 8 [a, e] w = .ok (.bl (sameD a e)) w := fun es hde => by
        have hsh : shps k es = true := by rcases hde with rfl | rfl <;> simpa [shp] using he
        have hz2 : szDs es ≤ 999999 := by rcases hde with rfl | rfl <;> (simp only [szD] at hz; omega)
        refine same_seq hT ha hde (by have := szDs_len es; omega) fun as i h1 h2 hx => ?_
        exact ih as[i] es[i] n w hx (shps_mem hsh _ (List.getElem_mem h2)) (by omega) (by have := szDs_mem (List.getElem_mem h2); omega)
      cases e <;> first
        | exact seq _ (.inl rfl)
        | exact seq _ (.inr rfl)
        | (exact absurd rfl hs)
        | (simp [shp] at he)
end MP
set_option Elab.async false
set_option linter.all false
set_option maxRecDepth 100000
/-! How the shared small forms run: the draws, what is asked. -/
namespace MP
open PySem L2

theorem next_call {T : Tab} {n : Nat} {w : W} {lim : Int} (h : 0 < lim) (h2 : lim < 1000000) : callF T (n + 1) 0 [.st, .int lim] w = .ok (.int (nextW w lim).1) (nextW w lim).2 := by
  rw [callF, if_pos rfl, nextR, if_pos ⟨h, h2⟩]
theorem draw_bnd (w : W) {lim : Int} (h : 0 < lim) : 0 ≤ (nextW w lim).1 ∧ (nextW w lim).1 < lim := by
  unfold nextW
  dsimp only
  generalize (if w.rest = 0 ∧ w.at_ < w.cells.length then _ else w) = w1
  by_cases hr : w1.rest > 0
  · rw [if_pos hr]
    exact ⟨Int.fmod_nonneg_of_pos _ h, Int.fmod_lt_of_pos _ h⟩
  · rw [if_neg hr]
    exact ⟨Int.fmod_nonneg_of_pos _ h, Int.fmod_lt_of_pos _ h⟩
/-- a draw below a length is a place -/
theorem draw_at {xs : List D} (w : W) (h : xs ≠ []) : ∃ z ∈ xs, atI xs (nextW w (xs.length : Int)).1 = some z := by
  have hp : 0 < (xs.length : Int) := by
    cases xs with
    | nil => exact absurd rfl h
    | cons _ _ => simp <;> omega
  obtain ⟨h1, h2⟩ := draw_bnd w hp
  have hl : (nextW w (xs.length : Int)).1.toNat < xs.length := by omega
  refine ⟨xs[(nextW w (xs.length : Int)).1.toNat], List.getElem_mem hl, ?_⟩
  have := atI_nat hl
  rwa [Int.toNat_of_nonneg h1] at this
theorem draw_at' {xs : List D} (w : W) {lim : Int} (h : xs ≠ []) (e : lim = xs.length) : ∃ z ∈ xs, atI xs (nextW w lim).1 = some z := by
  subst e
  exact draw_at w h
theorem addT {x y : List D} (h : x.length + y.length ≤ 16777216) : addD [.tup x, .tup y] = some (.v (.tup (x ++ y))) := by
  simp only [addD]
  exact if_pos h
theorem addL {x y : List D} (h : x.length + y.length ≤ 16777216) : addD [.lst x, .lst y] = some (.f (.lst (x ++ y))) := by
  simp only [addD]
  exact if_pos h
theorem addS {x y : Str} (h : x.length + y.length ≤ 16777216) : addD [.str x, .str y] = some (.v (.str (x ++ y))) := by
  simp only [addD]
  exact if_pos h
theorem cutL_len {α : Type} (xs : List α) (lo hi : Option Int) : (cutL xs lo hi).length ≤ xs.length := by
  unfold cutL
  simp
  omega
theorem cutL_mem {α : Type} {xs : List α} {lo hi : Option Int} {x : α} (h : x ∈ cutL xs lo hi) : x ∈ xs := by
  unfold cutL at h
  exact List.mem_of_mem_drop (List.mem_of_mem_take h)
theorem shps_of {n : Nat} : ∀ {xs : List D}, (∀ x ∈ xs, shp n x = true) → shps n xs = true
  | [], _ => rfl
  | y :: r, h => by
    simp only [shps, Bool.and_eq_true]
    exact ⟨h y List.mem_cons_self, shps_of fun x hx => h x (List.mem_cons_of_mem _ hx)⟩
theorem shps_app {n : Nat} {xs ys : List D} (h1 : shps n xs = true) (h2 : shps n ys = true) : shps n (xs ++ ys) = true := shps_of fun x hx => by
  rcases List.mem_append.mp hx with h | h
  · exact shps_mem h1 x h
  · exact shps_mem h2 x h
theorem shps_cut {n : Nat} {xs : List D} {lo hi : Option Int} (h : shps n xs = true) : shps n (cutL xs lo hi) = true := shps_of fun x hx => shps_mem h x (cutL_mem hx)
theorem shps_rev {n : Nat} {xs : List D} (h : shps n xs = true) : shps n xs.reverse = true := shps_of fun x hx => shps_mem h x (by simpa using hx)
theorem sOk_app {x y : Str} (h1 : sOk x = true) (h2 : sOk y = true) : sOk (x ++ y) = true := by
  unfold sOk at *
  show ((x.cps ++ y.cps).all _) = true
  rw [Array.all_append, h1, h2]; rfl
mutual
/-- all ints are below 2 ^ b -/
def intB (b : Nat) : D → Bool
  | .int i => decide (i.natAbs < 2 ^ b)
  | .lst xs => intBs b xs
  | .tup xs => intBs b xs
  | _ => true
def intBs (b : Nat) : List D → Bool
  | [] => true
  | x :: r => intB b x && intBs b r
end
theorem intBs_mem {b : Nat} : ∀ {xs : List D}, intBs b xs = true → ∀ x ∈ xs, intB b x = true
  | y :: r, h, x, hx => by
    simp only [intBs, Bool.and_eq_true] at h
    rcases List.mem_cons.mp hx with rfl | hx
    · exact h.1
    · exact intBs_mem h.2 x hx
theorem sOk_of (x : String) : sOk (PySem.Str.ofString x) = true := by
  rw [PySem.Str.ofString_eq_toList]
  unfold sOk
  simp only [List.all_toArray', List.all_map, List.all_eq_true]
  intro c hc
  have h : c.val.toNat.isValidChar := c.valid
  show decide (c.val.toNat < 1114112) = true
  unfold Nat.isValidChar at h
  exact decide_eq_true (by omega)
mutual
/-- told things: no None, no list -/
def plB : D → Bool
  | .bl _ => true
  | .int _ => true
  | .str _ => true
  | .tup xs => plBs xs
  | _ => false
def plBs : List D → Bool
  | [] => true
  | x :: r => plB x && plBs r
end
theorem plBs_mem : ∀ {xs : List D}, plBs xs = true → ∀ x ∈ xs, plB x = true
  | y :: r, h, x, hx => by
    simp only [plBs, Bool.and_eq_true] at h
    rcases List.mem_cons.mp hx with rfl | hx
    · exact h.1
    · exact plBs_mem h.2 x hx
mutual
/-- good data: depth, texts, lengths, ints -/
def gd : Nat → D → Bool
  | _, .non => true
  | _, .bl _ => true
  | _, .int i => decide (i.natAbs < 2 ^ 2000)
  | _, .str s => sOk s
  | n, .lst xs => match n with | 0 => false | n + 1 => decide (xs.length ≤ 8000000) && gds n xs
  | n, .tup xs => match n with | 0 => false | n + 1 => decide (xs.length ≤ 8000000) && gds n xs
  | _, .dct _ => false
  | _, .st => false
  | _, .err _ => false
def gds : Nat → List D → Bool
  | _, [] => true
  | n, x :: xs => gd n x && gds n xs
end
theorem gds_mem {n : Nat} : ∀ {xs : List D}, gds n xs = true → ∀ x ∈ xs, gd n x = true
  | y :: r, h, x, hx => by
    simp only [gds, Bool.and_eq_true] at h
    rcases List.mem_cons.mp hx with rfl | hx
    · exact h.1
    · exact gds_mem h.2 x hx
theorem gds_of {n : Nat} : ∀ {xs : List D}, (∀ x ∈ xs, gd n x = true) → gds n xs = true
  | [], _ => rfl
  | y :: r, h => by
    simp only [gds, Bool.and_eq_true]
    exact ⟨h y List.mem_cons_self, gds_of fun x hx => h x (List.mem_cons_of_mem _ hx)⟩
mutual
theorem gd_shp : ∀ {n : Nat} {d : D}, gd n d = true → shp n d = true
  | _, .non, _ => by simp [shp]
  | _, .bl _, _ => by simp [shp]
  | _, .int _, _ => by simp [shp]
  | _, .str s, h => by simpa [shp, gd] using h
  | 0, .lst xs, h => by simp [gd] at h
  | 0, .tup xs, h => by simp [gd] at h
  | n + 1, .lst xs, h => by
    simp only [gd, Bool.and_eq_true] at h
    simp only [shp]
    exact gds_shps h.2
  | n + 1, .tup xs, h => by
    simp only [gd, Bool.and_eq_true] at h
    simp only [shp]
    exact gds_shps h.2
  | _, .dct _, h => by simp [gd] at h
  | _, .st, h => by simp [gd] at h
  | _, .err _, h => by simp [gd] at h
theorem gds_shps : ∀ {n : Nat} {xs : List D}, gds n xs = true → shps n xs = true
  | _, [], _ => rfl
  | n, x :: r, h => by
    simp only [gds, Bool.and_eq_true] at h
    simp only [shps, Bool.and_eq_true]
    exact ⟨gd_shp h.1, gds_shps h.2⟩
end
theorem gds_app {n : Nat} {xs ys : List D} (h1 : gds n xs = true) (h2 : gds n ys = true) : gds n (xs ++ ys) = true := gds_of fun x hx => by
  rcases List.mem_append.mp hx with h | h
  · exact gds_mem h1 x h
  · exact gds_mem h2 x h
theorem gds_cut {n : Nat} {xs : List D} {lo hi : Option Int} (h : gds n xs = true) : gds n (cutL xs lo hi) = true := gds_of fun x hx => gds_mem h x (cutL_mem hx)
theorem gds_rev {n : Nat} {xs : List D} (h : gds n xs = true) : gds n xs.reverse = true := gds_of fun x hx => gds_mem h x (by simpa using hx)
theorem gd_tup {n : Nat} {xs : List D} (h : gds n xs = true) (hl : xs.length ≤ 8000000) : gd (n + 1) (.tup xs) = true := by
  simp only [gd, h, Bool.and_true]
  exact decide_eq_true hl
theorem gd_lst {n : Nat} {xs : List D} (h : gds n xs = true) (hl : xs.length ≤ 8000000) : gd (n + 1) (.lst xs) = true := by
  simp only [gd, h, Bool.and_true]
  exact decide_eq_true hl
theorem two_le {a : Nat} (h : a < 2 ^ 1000 * 4) : a < 2 ^ 2000 := Nat.lt_trans h (by decide +kernel)
theorem gd_int {n : Nat} {i : Int} (h : i.natAbs < 2 ^ 1000 * 4) : gd n (.int i) = true := by
  simp only [gd]
  exact decide_eq_true (two_le h)
/-! ### _law_changed -/
theorem sOk_iff {x : Str} : sOk x = true ↔ ∀ c ∈ x.cps.toList, c < 0x110000 := by
  unfold sOk
  rw [← Array.all_toList]
  simp only [List.all_eq_true, decide_eq_true_eq]
theorem sOk_cut {x : Str} {lo hi : Option Int} (h : sOk x = true) : sOk (cutS x lo hi) = true := by
  rw [sOk_iff] at *
  intro c hc
  unfold cutS at hc
  exact h c (List.mem_of_mem_drop (List.mem_of_mem_take hc))
theorem bits_b {i : Int} (h : i.natAbs < 2 ^ 1000) : bits i < 1000 := by
  unfold bits
  by_cases h0 : i.natAbs = 0
  · rw [h0]; decide
  · exact (Nat.log2_lt h0).mpr h
theorem changed_scal {T : Tab} (hT : T.fn 2 = some fdLawChanged) {n : Nat} {w : W} {v : D} {k : Nat} (hs : scalB v = true) (hp : plB v = true) (he : shp k v = true) (hz : szD v ≤ 1000000) (hb : intB 1000 v = true) : ∃ d w', callF T (n + 2) 2 [.st, v] w = .ok d w' ∧ gd k d = true := by
  rw [callF_eq (by decide) hT (by rfl)]
  have nx : ∀ (w : W) (lim : Int), 0 < lim → lim < 1000000 → callF T (n + 1) 0 [.st, .int lim] w = .ok (.int (nextW w lim).1) (nextW w lim).2 := fun w lim h1 h2 => next_call h1 h2
  cases v <;> (try (simp [scalB] at hs; done)) <;> (try (simp [plB] at hp; done))
  · rename_i b
    obtain ⟨z, h1, h2⟩ := draw_at' (xs := [.bl (!b), .int (if b then 1 else 0)]) w (lim := 2) (by simp) (by simp)
    refine ⟨z, (nextW w 2).2, ?_, ?_⟩
    · simp [fdLawChanged, LN, startE, exs, ex, ev, evs, evc, isBl, bnd, isTys, isTy, Opd.d, truthD, tr, opD, outR, endR, oneR, consume, callR, evOr, evAnd, intD, nx, ixD, h2]
    · simp at h1
      rcases h1 with rfl | rfl
      · simp [gd]
      · exact gd_int (by cases b <;> decide +kernel)
  · rename_i i
    have hi : i.natAbs < 2 ^ 1000 := by simpa [intB] using hb
    have b1 := bits_b hi
    have b2 : bits i < 1920 := by omega
    have b3 : bits 2 + bits i < 1000000 := by
      have : bits 2 = 1 := by decide
      omega
    obtain ⟨sx, es, ok⟩ : ∃ sx, strD [.int i] = some (.v (.str sx)) ∧ sOk sx = true := ⟨_, if_pos b2, sOk_of _⟩
    by_cases h0 : i = 0
    · subst h0
      obtain ⟨z, h1, h2⟩ := draw_at' (xs := [.int 1, .int (-1), .int 0, .non, .bl false, .str sx, .int 2]) w (lim := 7) (by simp) (by simp)
      refine ⟨z, (nextW w 7).2, ?_, ?_⟩
      · simp [fdLawChanged, LN, startE, exs, ex, ev, evs, evc, isBl, bnd, isTys, isTy, Opd.d, truthD, tr, opD, outR, endR, oneR, consume, callR, evOr, evAnd, intD, nx, ixD, isB, addD, subD, i2, eqB, shp, eqD, es, mulD, h2, b2, show bits 2 + bits 1 < 1000000 by decide]
      · simp at h1
        rcases h1 with rfl | rfl | rfl | rfl | rfl | rfl | rfl <;> first | (exact gd_int (by decide +kernel)) | (exact gd_int (by omega)) | simp [gd, ok]
    · have e0 : (i != 0) = true := by simp [h0]
      obtain ⟨z, h1, h2⟩ := draw_at' (xs := [.int (i + 1), .int (i - 1), .int 0, .non, .bl (i == 1), .str sx, .int (2 * i)]) w (lim := 7) (by simp) (by simp)
      refine ⟨z, (nextW w 7).2, ?_, ?_⟩
      · simp [fdLawChanged, LN, startE, exs, ex, ev, evs, evc, isBl, bnd, isTys, isTy, Opd.d, truthD, tr, opD, outR, endR, oneR, consume, callR, evOr, evAnd, intD, nx, ixD, isB, addD, subD, i2, eqB, shp, eqD, es, mulD, h2, b2, b3, h0, e0]
      · simp at h1
        rcases h1 with rfl | rfl | rfl | rfl | rfl | rfl | rfl <;> first | (exact gd_int (by decide +kernel)) | (exact gd_int (by omega)) | simp [gd, ok]
  · rename_i x
    have hx : sOk x = true := by simpa [shp] using he
    have hl : x.length ≤ 999999 := by simp only [szD] at hz; omega
    have l1 : x.length ≤ 16777216 := by omega
    have la : (PySem.Str.ofString "a").length = 1 := by decide +kernel
    have lb : (PySem.Str.ofString "b").length = 1 := by decide +kernel
    have a1 : addD [.str x, .str "a"] = some (.v (.str (x ++ "a"))) := addS (by omega)
    have a2 : addD [.str "b", .str x] = some (.v (.str ("b" ++ x))) := addS (by omega)
    have c1 : sliceD true false [.str x, .int 1] = some (.v (.str (cutS x (some 1) none))) := if_pos l1
    have c2 : sliceD false true [.str x, .int (-1)] = some (.v (.str (cutS x none (some (-1))))) := if_pos l1
    have c3 : revD [.str x] = some (.v (.str ⟨x.cps.toList.reverse.toArray⟩)) := if_pos l1
    obtain ⟨z, h1, h2⟩ := draw_at' (xs := [.str (cutS x (some 1) none), .str (x ++ "a"), .str ⟨x.cps.toList.reverse.toArray⟩, .str ("b" ++ x), .str "", .str (cutS x none (some (-1))), .str "left", .int 3, .str "in"]) w (lim := 9) (by simp) (by simp)
    refine ⟨z, (nextW w 9).2, ?_, ?_⟩
    · simp [fdLawChanged, LN, startE, exs, ex, ev, evs, evc, isBl, bnd, isTys, isTy, Opd.d, truthD, tr, opD, outR, endR, oneR, consume, callR, evOr, evAnd, intD, nx, ixD, isB, a1, a2, c1, c2, c3, negD, lenD, bindNm, isObjD, h2]
    · simp at h1
      rcases h1 with rfl | rfl | rfl | rfl | rfl | rfl | rfl | rfl | rfl
      · simp [gd, sOk_cut hx]
      · simp [gd, sOk_app hx (sOk_of "a")]
      · simp only [gd]
        rw [sOk_iff] at *
        intro c hc
        exact hx c (by simpa using hc)
      · simp [gd, sOk_app (sOk_of "b") hx]
      · simp [gd, sOk_of]
      · simp [gd, sOk_cut hx]
      · simp [gd, sOk_of]
      · exact gd_int (by decide +kernel)
      · simp [gd, sOk_of]
theorem cutL_length {α : Type} (xs : List α) (lo hi : Option Int) : (cutL xs lo hi).length = min (HT.sIx xs.length xs.length hi - HT.sIx xs.length 0 lo) (xs.length - HT.sIx xs.length 0 lo) := by
  simp [cutL]
theorem eq_nil (xs : List D) : eqD (.tup xs) (.tup []) = xs.isEmpty := by
  cases xs <;> simp [eqD, eqDs]
theorem exs_next {cx : Cxt} {st : MS} {r : List MS} {s s' : S} (h : ex cx st s = .ok .next s') : exs cx (st :: r) s = exs cx r s' := by
  rw [exs, h]; rfl
theorem exs_ret {cx : Cxt} {st : MS} {r : List MS} {s s' : S} {d : D} (h : ex cx st s = .ok (.ret d) s') : exs cx (st :: r) s = .ok (.ret d) s' := by
  rw [exs, h]; rfl
theorem ex_t {cx : Cxt} {c : ME} {a b : List MS} {s s' : S} {o : Opd} (h : ev cx true c s = .ok o s') (ho : o.d = .bl true) : ex cx (.ife c a b) s = exs cx a s' := by
  rw [ex, h]
  simp [isBl, bnd, ho]
theorem ex_f {cx : Cxt} {c : ME} {a b : List MS} {s s' : S} {o : Opd} (h : ev cx true c s = .ok o s') (ho : o.d = .bl false) : ex cx (.ife c a b) s = exs cx b s' := by
  rw [ex, h]
  simp [isBl, bnd, ho]
theorem changed_tup {T : Tab} (hT : T.fn 2 = some fdLawChanged) {n : Nat} {w : W} {xs : List D} {k : Nat} (hg : gds k xs = true) (hk : k ≤ 60) (hl : xs.length ≤ 900000)
    (ih : ∀ x ∈ xs, ∀ w, ∃ d w', callF T (n + 1) 2 [.st, x] w = .ok d w' ∧ gd k d = true) : ∃ d w', callF T (n + 2) 2 [.st, .tup xs] w = .ok d w' ∧ gd (k + 1) d = true := by
  have he := gds_shps hg
  rw [callF_eq (by decide) hT (by rfl)]
  have nx : ∀ (w : W) (lim : Int), 0 < lim → lim < 1000000 → callF T (n + 1) 0 [.st, .int lim] w = .ok (.int (nextW w lim).1) (nextW w lim).2 := fun w lim h1 h2 => next_call h1 h2
  have h64 : shps 63 xs = true := shps_of fun x hx => shp_le (shps_mem he x hx) (by omega)
  have pre : ∀ R w, exs ⟨callF T (n + 1), T.gl⟩ (fdLawChanged.body.take 3 ++ R) ⟨[some (.st, false), some (.tup xs, false), none, none, none, none, none], w⟩ = exs ⟨callF T (n + 1), T.gl⟩ R ⟨[some (.st, false), some (.tup xs, false), none, none, none, none, none], w⟩ := by
    intro R w
    simp [fdLawChanged, LN, startE, exs, ex, ev, evs, evc, isBl, bnd, isTys, isTy, Opd.d, truthD, tr, opD, outR, endR, oneR, consume, callR, evOr, evAnd, isB]
  have post : ∀ (w : W), ∃ d w', endR (exs ⟨callF T (n + 1), T.gl⟩ (fdLawChanged.body.drop 4) ⟨[some (.st, false), some (.tup xs, false), none, none, none, none, none], w⟩) = .ok d w' ∧ gd (k + 1) d = true := by
    intro w
    have p1 : (0 : Int) < (xs.length : Int) + 1 := by omega
    have p2 : (xs.length : Int) + 1 < 1000000 := by omega
    have c1 := nx w ((xs.length : Int) + 1) p1 p2
    generalize (nextW w ((xs.length : Int) + 1)).2 = w1 at c1
    generalize (nextW w ((xs.length : Int) + 1)).1 = a at c1
    have c2 := nx w1 ((xs.length : Int) + 1) p1 p2
    generalize (nextW w1 ((xs.length : Int) + 1)).2 = w2 at c2
    generalize (nextW w1 ((xs.length : Int) + 1)).1 = b at c2
    have ad : ∀ i : Int, addD [.int i, .int 1] = some (.v (.int (i + 1))) := fun _ => rfl
    have ll : addD [.int (xs.length : Int), .int 1] = some (.v (.int ((xs.length : Int) + 1))) := rfl
    have cc : ∀ lo hi lo2 hi2, addD [.tup (cutL xs lo hi), .tup (cutL xs lo2 hi2)] = some (.v (.tup (cutL xs lo hi ++ cutL xs lo2 hi2))) := fun lo hi lo2 hi2 => addT (by
      have := cutL_len xs lo hi
      have := cutL_len xs lo2 hi2
      omega)
    have xc : ∀ lo hi, addD [.tup xs, .tup (cutL xs lo hi)] = some (.v (.tup (xs ++ cutL xs lo hi))) := fun lo hi => addT (by
      have := cutL_len xs lo hi
      omega)
    have x0 : addD [.tup xs, .tup [.int 0]] = some (.v (.tup (xs ++ [.int 0]))) := addT (by simp; omega)
    show ∃ d w', endR (exs ⟨callF T (n + 1), T.gl⟩ (.ife (.not (.isi (.var 1) [.tuple])) [.ret (.tup [])] [] :: .asg (.nm 3) (.call 0 [.var 0, .op .add [.op .len [.var 1], .cI 1]]) :: .asg (.nm 4) (.call 0 [.var 0, .op .add [.op .len [.var 1], .cI 1]]) :: fdLawChanged.body.drop 7) ⟨[some (.st, false), some (.tup xs, false), none, none, none, none, none], w⟩) = .ok d w' ∧ gd (k + 1) d = true
    rw [exs_next (s' := ⟨[some (.st, false), some (.tup xs, false), none, none, none, none, none], w⟩) (by simp [LN, startE, exs, ex, ev, evs, evc, isBl, bnd, isTys, isTy, Opd.d, truthD, tr, opD, outR, endR, oneR, consume, callR, evOr, evAnd]),
      exs_next (s' := ⟨[some (.st, false), some (.tup xs, false), none, some (.int a, false), none, none, none], w1⟩) (by simp [LN, startE, exs, ex, ev, evs, evc, isBl, bnd, isTys, isTy, Opd.d, truthD, tr, opD, outR, endR, oneR, consume, callR, evOr, evAnd, lenD, ll, c1, bindNm]),
      exs_next (s' := ⟨[some (.st, false), some (.tup xs, false), none, some (.int a, false), some (.int b, false), none, none], w2⟩) (by simp [LN, startE, exs, ex, ev, evs, evc, isBl, bnd, isTys, isTy, Opd.d, truthD, tr, opD, outR, endR, oneR, consume, callR, evOr, evAnd, lenD, ll, c2, bindNm])]
    have base : ∀ x ∈ [D.tup (cutL xs none (some a) ++ cutL xs (some (a + 1)) none), D.tup (xs ++ cutL xs none (some 1)), D.tup xs.reverse, D.tup (cutL xs (some a) none ++ cutL xs none (some a)), D.lst xs, D.tup (cutL xs none (some a)), D.tup [], D.tup (xs ++ [.int 0])], gd (k + 1) x = true := by
      intro x hx
      simp only [List.mem_cons, List.not_mem_nil, or_false] at hx
      have m1 := cutL_len xs none (some a)
      have m2 := cutL_len xs (some (a + 1)) none
      have m3 := cutL_len xs none (some 1)
      have m4 := cutL_len xs (some a) none
      rcases hx with rfl | rfl | rfl | rfl | rfl | rfl | rfl | rfl
      · exact gd_tup (gds_app (gds_cut hg) (gds_cut hg)) (by simp; omega)
      · exact gd_tup (gds_app hg (gds_cut hg)) (by simp; omega)
      · exact gd_tup (gds_rev hg) (by simp; omega)
      · exact gd_tup (gds_app (gds_cut hg) (gds_cut hg)) (by simp; omega)
      · exact gd_lst hg (by omega)
      · exact gd_tup (gds_cut hg) (by omega)
      · exact gd_tup rfl (by simp)
      · exact gd_tup (gds_app hg (by simp only [gds, Bool.and_true]; exact gd_int (by decide +kernel))) (by simp; omega)
    show ∃ d w', endR (exs ⟨callF T (n + 1), T.gl⟩ (.asg (.nm 5) (.lst [.op .add [.op (.slice false true) [.var 1, .var 3], .op (.slice true false) [.var 1, .op .add [.var 3, .cI 1]]], .op .add [.var 1, .op (.slice false true) [.var 1, .cI 1]], .op .rev [.var 1], .op .add [.op (.slice true false) [.var 1, .var 3], .op (.slice false true) [.var 1, .var 3]], .op .lstL [.var 1], .op (.slice false true) [.var 1, .var 3], .tup [], .op .add [.var 1, .tup [.cI 0]]]) :: fdLawChanged.body.drop 8) ⟨[some (.st, false), some (.tup xs, false), none, some (.int a, false), some (.int b, false), none, none], w2⟩) = .ok d w' ∧ gd (k + 1) d = true
    rw [exs_next (s' := ⟨[some (.st, false), some (.tup xs, false), none, some (.int a, false), some (.int b, false), some (.lst [D.tup (cutL xs none (some a) ++ cutL xs (some (a + 1)) none), D.tup (xs ++ cutL xs none (some 1)), D.tup xs.reverse, D.tup (cutL xs (some a) none ++ cutL xs none (some a)), D.lst xs, D.tup (cutL xs none (some a)), D.tup [], D.tup (xs ++ [.int 0])], true), none], w2⟩) (by
      simp [ex, ev, evs, evc, bnd, opD, outR, tr, Opd.d, oneR, consume, sliceD, cutD, revD, lstD, ad, cc, xc, x0, bindNm, isObjD, LN])]
    generalize hL0 : [D.tup (cutL xs none (some a) ++ cutL xs (some (a + 1)) none), D.tup (xs ++ cutL xs none (some 1)), D.tup xs.reverse, D.tup (cutL xs (some a) none ++ cutL xs none (some a)), D.lst xs, D.tup (cutL xs none (some a)), D.tup [], D.tup (xs ++ [.int 0])] = L0 at base
    have len0 : L0.length = 8 := by rw [← hL0]; rfl
    have fin : ∀ (L : List D) (w : W) (c : Option (D × Bool)), L ≠ [] → L.length < 100 → (∀ x ∈ L, gd (k + 1) x = true) → ∃ d w', endR (exs ⟨callF T (n + 1), T.gl⟩ [.ret (.op .ix [.var 5, .call 0 [.var 0, .op .len [.var 5]]])] ⟨[some (.st, false), some (.tup xs, false), none, some (.int a, false), some (.int b, false), some (.lst L, true), c], w⟩) = .ok d w' ∧ gd (k + 1) d = true := by
      intro L w c h0 hl2 hs
      obtain ⟨z, h1, h2⟩ := draw_at w h0
      have hp : (0 : Int) < (L.length : Int) := by
        have : L.length ≠ 0 := by simpa using h0
        omega
      have c3 := nx w (L.length : Int) hp (by omega)
      refine ⟨z, (nextW w (L.length : Int)).2, ?_, hs z h1⟩
      simp [exs, ex, ev, evs, evc, bnd, opD, outR, tr, Opd.d, oneR, consume, lenD, callR, c3, ixD, h2, endR]
    show ∃ d w', endR (exs ⟨callF T (n + 1), T.gl⟩ (.ife (.chain .lt .lt (.var 3) (.var 4) (.op .len [.var 1])) [.asg (.nm 5) (.op .add [.var 5, .comp [6] (.op .add [.op .add [.op .add [.op .add [.op (.slice false true) [.var 1, .var 3], .slc (.var 1) (.var 4) (.op .add [.var 4, .cI 1])], .slc (.var 1) (.op .add [.var 3, .cI 1]) (.var 4)], .slc (.var 1) (.var 3) (.op .add [.var 3, .cI 1])], .op (.slice true false) [.var 1, .op .add [.var 4, .cI 1]]]) (.nm 6) (.rng1 (.cI 3)) none])] [] :: [.ret (.op .ix [.var 5, .call 0 [.var 0, .op .len [.var 5]]])]) ⟨[some (.st, false), some (.tup xs, false), none, some (.int a, false), some (.int b, false), some (.lst L0, true), none], w2⟩) = .ok d w' ∧ gd (k + 1) d = true
    by_cases hc : a < b ∧ b < (xs.length : Int)
    · have aa : ∀ u v : List D, u.length ≤ 4000000 → v.length ≤ 1000000 → addD [.tup u, .tup v] = some (.v (.tup (u ++ v))) := fun u v h1 h2 => addT (by omega)
      have k1 := cutL_len xs none (some a)
      have k2 := cutL_len xs (some b) (some (b + 1))
      have k3 := cutL_len xs (some (a + 1)) (some b)
      have k4 := cutL_len xs (some a) (some (a + 1))
      have k5 := cutL_len xs (some (b + 1)) none
      have s1 := aa _ _ (by omega : (cutL xs none (some a)).length ≤ 4000000) (by omega : (cutL xs (some b) (some (b + 1))).length ≤ 1000000)
      have s2 := aa (cutL xs none (some a) ++ cutL xs (some b) (some (b + 1))) (cutL xs (some (a + 1)) (some b)) (by simp; omega) (by omega)
      have s3 := aa (cutL xs none (some a) ++ cutL xs (some b) (some (b + 1)) ++ cutL xs (some (a + 1)) (some b)) (cutL xs (some a) (some (a + 1))) (by simp; omega) (by omega)
      have s4 := aa (cutL xs none (some a) ++ cutL xs (some b) (some (b + 1)) ++ cutL xs (some (a + 1)) (some b) ++ cutL xs (some a) (some (a + 1))) (cutL xs (some (b + 1)) none) (by simp; omega) (by omega)
      generalize hP : cutL xs none (some a) ++ cutL xs (some b) (some (b + 1)) ++ cutL xs (some (a + 1)) (some b) ++ cutL xs (some a) (some (a + 1)) ++ cutL xs (some (b + 1)) none = PP at s4
      have shP : gds k PP = true := by
        rw [← hP]
        exact gds_app (gds_app (gds_app (gds_app (gds_cut hg) (gds_cut hg)) (gds_cut hg)) (gds_cut hg)) (gds_cut hg)
      have lP : PP.length ≤ 8000000 := by
        rw [← hP]
        simp only [List.length_append]
        omega
      have comp : ev ⟨callF T (n + 1), T.gl⟩ false (.comp [6] (.op .add [.op .add [.op .add [.op .add [.op (.slice false true) [.var 1, .var 3], .slc (.var 1) (.var 4) (.op .add [.var 4, .cI 1])], .slc (.var 1) (.op .add [.var 3, .cI 1]) (.var 4)], .slc (.var 1) (.var 3) (.op .add [.var 3, .cI 1])], .op (.slice true false) [.var 1, .op .add [.var 4, .cI 1]]]) (.nm 6) (.rng1 (.cI 3)) none) ⟨[some (.st, false), some (.tup xs, false), none, some (.int a, false), some (.int b, false), some (.lst L0, true), none], w2⟩ =
          .ok (.fresh (.lst [.tup PP, .tup PP, .tup PP])) ⟨[some (.st, false), some (.tup xs, false), none, some (.int a, false), some (.int b, false), some (.lst L0, true), none], w2⟩ := by
        rw [ev_comp1 (fun _ => true) (fun _ => .tup PP) (ds := rangeD 0 3) (s := ⟨[some (.st, false), some (.tup xs, false), none, some (.int a, false), some (.int b, false), some (.lst L0, true), none], w2⟩)]
        · rfl
        · rfl
        · show 6 < 7
          omega
        · rfl
        · decide
        · intro d hd
          refine ⟨rfl, fun _ => ?_⟩
          simp only [ev, evs, bnd, opD, outR, tr, Opd.d, oneR, consume, sliceD, cutD, ad, s1, s2, s3, s4, List.set, List.getElem?_cons_zero, List.getElem?_cons_succ, Bool.false_eq_true, if_false, Option.map_some]
      obtain ⟨d, w', h1, h2⟩ := fin (L0 ++ [.tup PP, .tup PP, .tup PP]) w2 none (by simp) (by simp [len0]) (fun x hx => by
        rcases List.mem_append.mp hx with h | h
        · exact base x h
        · simp only [List.mem_cons, List.not_mem_nil, or_false, or_self] at h
          subst h
          exact gd_tup shP lP)
      refine ⟨d, w', ?_, h2⟩
      rw [← h1, exs_next]
      rw [ex_t (o := .val (.bl true)) (s' := ⟨[some (.st, false), some (.tup xs, false), none, some (.int a, false), some (.int b, false), some (.lst L0, true), none], w2⟩) (by simp [ev, evs, bnd, opD, cmpI, i2, outR, tr, Opd.d, lenD, hc.1, hc.2, truthD]) rfl]
      have al : addD [.lst L0, .lst [.tup PP, .tup PP, .tup PP]] = some (.f (.lst (L0 ++ [.tup PP, .tup PP, .tup PP]))) := addL (by simp [len0])
      revert comp
      generalize (ME.comp [6] (.op .add [.op .add [.op .add [.op .add [.op (.slice false true) [.var 1, .var 3], .slc (.var 1) (.var 4) (.op .add [.var 4, .cI 1])], .slc (.var 1) (.op .add [.var 3, .cI 1]) (.var 4)], .slc (.var 1) (.var 3) (.op .add [.var 3, .cI 1])], .op (.slice true false) [.var 1, .op .add [.var 4, .cI 1]]]) (.nm 6) (.rng1 (.cI 3)) none) = q
      intro comp
      simp [ex, ev, evs, comp, bnd, opD, outR, tr, Opd.d, al, bindNm, isObjD, exs]
    · obtain ⟨d, w', h1, h2⟩ := fin L0 w2 none (by rw [← hL0]; simp) (by rw [len0]; decide) base
      refine ⟨d, w', ?_, h2⟩
      rw [← h1, exs_next]
      rw [ex_f (o := .val (.bl false)) (s' := ⟨[some (.st, false), some (.tup xs, false), none, some (.int a, false), some (.int b, false), some (.lst L0, true), none], w2⟩)]
      · rfl
      · by_cases h1 : a < b
        · have h2 : ¬ b < (xs.length : Int) := fun h => hc ⟨h1, h⟩
          simp [ev, evs, bnd, opD, cmpI, i2, outR, tr, Opd.d, lenD, h1, h2, truthD]
        · simp [ev, evs, bnd, opD, cmpI, i2, outR, tr, Opd.d, lenD, h1, truthD]
      · rfl
  have split4 : fdLawChanged.body = fdLawChanged.body.take 3 ++ (fdLawChanged.body.drop 3) := (List.take_append_drop 3 _).symm
  rw [split4]
  show ∃ d w', endR (exs ⟨callF T (n + 1), T.gl⟩ (fdLawChanged.body.take 3 ++ fdLawChanged.body.drop 3) ⟨[some (.st, false), some (.tup xs, false), none, none, none, none, none], w⟩) = .ok d w' ∧ gd (k + 1) d = true
  rw [pre]
  show ∃ d w', endR (exs ⟨callF T (n + 1), T.gl⟩ (.ife (.andL [.isi (.var 1) [.tuple], .op .ne [.var 1, .tup []], .op .gt [.call 0 [.var 0, .cI 4], .cI 0]]) [.asg (.nm 3) (.call 0 [.var 0, .op .len [.var 1]]), .ret (.op .add [.op .add [.op (.slice false true) [.var 1, .var 3], .tup [.call 2 [.var 0, .op .ix [.var 1, .var 3]]]], .op (.slice true false) [.var 1, .op .add [.var 3, .cI 1]]])] [] :: fdLawChanged.body.drop 4) ⟨[some (.st, false), some (.tup xs, false), none, none, none, none, none], w⟩) = .ok d w' ∧ gd (k + 1) d = true
  by_cases hx : xs = []
  · subst hx
    rw [exs_next (s' := ⟨[some (.st, false), some (.tup [], false), none, none, none, none, none], w⟩)]
    · exact post w
    · rw [ex_f (s' := ⟨[some (.st, false), some (.tup [], false), none, none, none, none, none], w⟩) (o := .val (.bl false))]
      · rfl
      · simp [LN, startE, exs, ex, ev, evs, evc, isBl, bnd, isTys, isTy, Opd.d, truthD, tr, opD, outR, endR, oneR, consume, callR, evOr, evAnd, eqB, shp, shps, eqD, eqDs]
      · rfl
  · have hne : xs.isEmpty = false := by cases xs <;> simp_all
    by_cases h4 : (nextW w 4).1 > 0
    · obtain ⟨z, h1, h2⟩ := draw_at (nextW w 4).2 hx
      obtain ⟨d, w', h3, h4'⟩ := ih z h1 (nextW (nextW w 4).2 (xs.length : Int)).2
      have p1 : (0 : Int) < (xs.length : Int) := by
        have : xs.length ≠ 0 := by simpa using hx
        omega
      have p2 : (xs.length : Int) < 1000000 := by omega
      rw [exs_ret (s' := ⟨[some (.st, false), some (.tup xs, false), none, some (.int (nextW (nextW w 4).2 (xs.length : Int)).1, false), none, none, none], w'⟩) (d := .tup (cutL xs none (some (nextW (nextW w 4).2 (xs.length : Int)).1) ++ [d] ++ cutL xs (some ((nextW (nextW w 4).2 (xs.length : Int)).1 + 1)) none))]
      · refine ⟨_, _, rfl, ?_⟩
        have m1 := cutL_len xs none (some (nextW (nextW w 4).2 (xs.length : Int)).1)
        have m2 := cutL_len xs (some ((nextW (nextW w 4).2 (xs.length : Int)).1 + 1)) none
        exact gd_tup (gds_app (gds_app (gds_cut hg) (by simp [gds, h4'])) (gds_cut hg)) (by simp only [List.length_append, List.length_cons, List.length_nil]; omega)
      · rw [ex_t (s' := ⟨[some (.st, false), some (.tup xs, false), none, none, none, none, none], (nextW w 4).2⟩) (o := .val (.bl true))]
        · rw [exs_next (s' := ⟨[some (.st, false), some (.tup xs, false), none, some (.int (nextW (nextW w 4).2 (xs.length : Int)).1, false), none, none, none], (nextW (nextW w 4).2 (xs.length : Int)).2⟩)]
          · refine exs_ret ?_
            generalize (nextW (nextW w 4).2 (xs.length : Int)).2 = w2 at h3 ⊢
            generalize (nextW (nextW w 4).2 (xs.length : Int)).1 = j at h2 ⊢
            have a1 : addD [.tup (cutL xs none (some j)), .tup [d]] = some (.v (.tup (cutL xs none (some j) ++ [d]))) := addT (by have := cutL_len xs none (some j); simp; omega)
            have a2 : addD [.tup (cutL xs none (some j) ++ [d]), .tup (cutL xs (some (j + 1)) none)] = some (.v (.tup (cutL xs none (some j) ++ [d] ++ cutL xs (some (j + 1)) none))) := addT (by
              have := cutL_len xs none (some j)
              have := cutL_len xs (some (j + 1)) none
              simp
              omega)
            have a3 : addD [.int j, .int 1] = some (.v (.int (j + 1))) := rfl
            simp only [LN, ex, ev, evs, evc, bnd, opD, outR, tr, Opd.d, oneR, consume, sliceD, cutD, ixD, h2, callR, h3, a1, a2, a3, List.getElem?_cons_zero, List.getElem?_cons_succ, Bool.false_eq_true, if_false, Option.map_some, List.length_cons, List.length_nil, Nat.reduceAdd, Nat.reduceLeDiff, if_true]
          · have c := nx (nextW w 4).2 (xs.length : Int) p1 p2
            simp [ex, ev, evs, evc, bnd, opD, outR, tr, Opd.d, oneR, consume, lenD, callR, c, bindNm]
        · simp [LN, startE, exs, ex, ev, evs, evc, isBl, bnd, isTys, isTy, Opd.d, truthD, tr, opD, outR, endR, oneR, consume, callR, evOr, evAnd, eqB, shp, shps, eq_nil, h64, hne, nx, h4, cmpI, i2]
        · rfl
    · rw [exs_next (s' := ⟨[some (.st, false), some (.tup xs, false), none, none, none, none, none], (nextW w 4).2⟩)]
      · exact post _
      · rw [ex_f (s' := ⟨[some (.st, false), some (.tup xs, false), none, none, none, none, none], (nextW w 4).2⟩) (o := .val (.bl false))]
        · rfl
        · simp [LN, startE, exs, ex, ev, evs, evc, isBl, bnd, isTys, isTy, Opd.d, truthD, tr, opD, outR, endR, oneR, consume, callR, evOr, evAnd, eqB, shp, shps, eq_nil, h64, hne, nx, h4, cmpI, i2]
        · rfl
end MP
set_option Elab.async false
set_option linter.all false
set_option maxRecDepth 100000
/-! How the shared small forms run: what is asked, further. -/
namespace MP
open PySem L2

mutual
theorem gd_by : ∀ {n : Nat} {d : D}, shp n d = true → intB 1000 d = true → szD d ≤ 900000 → gd n d = true
  | _, .non, _, _, _ => by simp [gd]
  | _, .bl _, _, _, _ => by simp [gd]
  | _, .int i, _, h, _ => gd_int (by simp only [intB, decide_eq_true_eq] at h; omega)
  | _, .str s, h, _, _ => by simpa [shp, gd] using h
  | 0, .lst xs, h, _, _ => by simp [shp] at h
  | 0, .tup xs, h, _, _ => by simp [shp] at h
  | n + 1, .lst xs, h, hb, hz => by
    simp only [shp] at h
    simp only [intB] at hb
    simp only [szD] at hz
    exact gd_lst (gds_by h hb (by omega)) (by have := szDs_len xs; omega)
  | n + 1, .tup xs, h, hb, hz => by
    simp only [shp] at h
    simp only [intB] at hb
    simp only [szD] at hz
    exact gd_tup (gds_by h hb (by omega)) (by have := szDs_len xs; omega)
  | _, .dct _, h, _, _ => by simp [shp] at h
  | _, .st, h, _, _ => by simp [shp] at h
  | _, .err _, h, _, _ => by simp [shp] at h
theorem gds_by : ∀ {n : Nat} {xs : List D}, shps n xs = true → intBs 1000 xs = true → szDs xs ≤ 900000 → gds n xs = true
  | _, [], _, _, _ => rfl
  | n, x :: r, h, hb, hz => by
    simp only [shps, Bool.and_eq_true] at h
    simp only [intBs, Bool.and_eq_true] at hb
    simp only [szDs] at hz
    simp only [gds, Bool.and_eq_true]
    exact ⟨gd_by h.1 hb.1 (by omega), gds_by h.2 hb.2 (by omega)⟩
end
theorem changed_run {T : Tab} (hT : T.fn 2 = some fdLawChanged) : ∀ (k : Nat) (v : D) (n : Nat) (w : W), shp k v = true → k ≤ 60 → plB v = true → szD v ≤ 900000 → intB 1000 v = true → ∃ d w', callF T (k + 2 + n) 2 [.st, v] w = .ok d w' ∧ gd k d = true := by
  intro k
  induction k with
  | zero =>
    intro v n w h1 h2 h3 h4 h5
    rw [show 0 + 2 + n = n + 2 by omega]
    refine changed_scal hT ?_ h3 h1 (by omega) h5
    cases v <;> first | rfl | (simp [shp] at h1; done) | (simp [plB] at h3)
  | succ k ih =>
    intro v n w h1 h2 h3 h4 h5
    by_cases hs : scalB v = true
    · rw [show k + 1 + 2 + n = (k + 1 + n) + 2 by omega]
      exact changed_scal hT hs h3 h1 (by omega) h5
    · cases v <;> first | (exact absurd rfl hs) | (simp [plB] at h3; done) | (simp [shp] at h1; done) | skip
      rename_i xs
      rw [show k + 1 + 2 + n = (k + 1 + n) + 2 by omega]
      simp only [shp] at h1
      simp only [szD] at h4
      refine changed_tup hT (gds_by h1 (by simpa [intB] using h5) (by omega)) (by omega) (by have := szDs_len xs; omega) fun x hx w => ?_
      rw [show k + 1 + n + 1 = k + 2 + n by omega]
      exact ih x n w (shps_mem h1 x hx) (by omega) (plBs_mem (by simpa [plB] using h3) x hx) (by have := szDs_mem hx; omega) (intBs_mem (by simpa [intB] using h5) x hx)
theorem forR_inv {t : MT} {b : S → R Fl} {all : List D} (I : List D → S → Prop) (step : ∀ done d rest s, all = done ++ d :: rest → I done s → ∃ env1 s', asgT t d s.env = some env1 ∧ (b ⟨env1, s.w⟩ = .ok .next s' ∨ b ⟨env1, s.w⟩ = .ok .cnt s') ∧ I (done ++ [d]) s') :
    ∀ (ds done : List D) (s : S), all = done ++ ds → I done s → ∃ s', forR t b ds s = .ok .next s' ∧ I all s'
  | [], done, s, e, h => ⟨s, rfl, by rw [e, List.append_nil]; exact h⟩
  | d :: ds, done, s, e, h => by
    obtain ⟨env1, s1, h1, h2, h3⟩ := step done d ds s e h
    obtain ⟨s2, h4, h5⟩ := forR_inv I step ds (done ++ [d]) s1 (by rw [e]; simp) h3
    refine ⟨s2, ?_, h5⟩
    rw [forR, h1]
    dsimp only
    rcases h2 with h2 | h2 <;> rw [h2] <;> exact h4
theorem szDs_app : ∀ xs ys : List D, szDs (xs ++ ys) = szDs xs + szDs ys
  | [], ys => by simp [szDs]
  | x :: r, ys => by simp [szDs, szDs_app r ys]; omega
theorem shps_ints {n : Nat} (is : List Int) : shps n (is.map D.int) = true := shps_of fun x hx => by
  obtain ⟨i, _, rfl⟩ := List.mem_map.mp hx
  simp [shp]
theorem any_int (is : List Int) (j : Int) : (is.map D.int).any (fun z => eqD z (.int j)) = is.contains j := by
  rw [List.any_map, List.contains_eq_any_beq]
  congr 1
  funext i
  show (i == j) = (j == i)
  by_cases h : i = j
  · subst h; rfl
  · have h2 : j ≠ i := fun e => h e.symm
    rw [beq_false_of_ne h, beq_false_of_ne h2]
/-- the ints of a told thing -/
theorem ints_run {T : Tab} (hT : T.fn 5 = some fdLawInts) {b : Nat} : ∀ (k : Nat) (v : D) (n : Nat) (w : W), shp k v = true → k ≤ 60 → szD v ≤ 900000 → intB b v = true →
    ∃ is : List Int, callF T (k + 1 + n) 5 [v] w = .ok (.lst (is.map D.int)) w ∧ is.length ≤ szD v ∧ ∀ i ∈ is, i.natAbs < 2 ^ b := by
  have nott : ∀ (v : D) (n : Nat) (w : W), (∀ xs, v ≠ .tup xs) → okA v → intB b v = true → ∃ is : List Int, callF T (n + 1) 5 [v] w = .ok (.lst (is.map D.int)) w ∧ is.length ≤ szD v ∧ ∀ i ∈ is, i.natAbs < 2 ^ b := by
    intro v n w hn ha hb
    rw [callF_eq (by decide) hT (by rfl)]
    cases v <;> (try (rcases ha with ha | ⟨_, ha⟩ <;> simp [shp] at ha; done)) <;> first
      | (exact absurd rfl (hn _))
      | (refine ⟨[], ?_, by simp, by simp⟩; simp [fdLawInts, LN, startE, exs, ex, ev, evs, evc, isBl, bnd, isTys, isTy, Opd.d, truthD, tr, opD, outR, endR, oneR, consume, evOr, evAnd]; done)
      | (rename_i i; refine ⟨[i], ?_, by simp [szD], by simpa [intB] using hb⟩; simp [fdLawInts, LN, startE, exs, ex, ev, evs, evc, isBl, bnd, isTys, isTy, Opd.d, truthD, tr, opD, outR, endR, oneR, consume, evOr, evAnd])
  intro k
  induction k with
  | zero =>
    intro v n w h1 h2 h3 h4
    rw [show 0 + 1 + n = n + 1 by omega]
    exact nott v n w (fun xs e => by subst e; simp [shp] at h1) (.inl (shp_le h1 (by omega))) h4
  | succ k ih =>
    intro v n w h1 h2 h3 h4
    by_cases hn : ∀ xs, v ≠ .tup xs
    · rw [show k + 1 + 1 + n = (k + 1 + n) + 1 by omega]
      exact nott v _ w hn (.inl (shp_le h1 (by omega))) h4
    · obtain ⟨xs, rfl⟩ : ∃ xs, v = .tup xs := by
        cases v <;> first | exact ⟨_, rfl⟩ | (exact absurd (fun xs e => by cases e) hn)
      rw [show k + 1 + 1 + n = (k + 1 + n) + 1 by omega, callF_eq (by decide) hT (by rfl)]
      simp only [shp] at h1
      simp only [szD] at h3
      simp only [intB] at h4
      have step : ∀ (done : List D) (d : D) (rest : List D) (s : S), xs = done ++ d :: rest → (∃ (is : List Int) (p : Option (D × Bool)), s = ⟨[some (.tup xs, false), some (.lst (is.map D.int), true), p, none], w⟩ ∧ is.length ≤ szDs done ∧ (∀ i ∈ is, i.natAbs < 2 ^ b)) → ∃ (env1 : Env) (s' : S), asgT (.nm 2) d s.env = some env1 ∧
          (exs ⟨callF T (k + 1 + n), T.gl⟩ [.asg (.nm 1) (.op .add [.var 1, .comp [3] (.var 3) (.nm 3) (.seq (.call 5 [.var 2])) (some (.op .nmem [.var 3, .var 1]))])] ⟨env1, s.w⟩ = .ok .next s' ∨ exs ⟨callF T (k + 1 + n), T.gl⟩ [.asg (.nm 1) (.op .add [.var 1, .comp [3] (.var 3) (.nm 3) (.seq (.call 5 [.var 2])) (some (.op .nmem [.var 3, .var 1]))])] ⟨env1, s.w⟩ = .ok .cnt s') ∧
          (∃ (is : List Int) (p : Option (D × Bool)), s' = ⟨[some (.tup xs, false), some (.lst (is.map D.int), true), p, none], w⟩ ∧ is.length ≤ szDs (done ++ [d]) ∧ (∀ i ∈ is, i.natAbs < 2 ^ b)) := by
        rintro done d rest s hr ⟨is, p, rfl, l1, l2⟩
        have hd : d ∈ xs := by rw [hr]; simp
        have hsz : szDs done + szD d ≤ szDs xs := by
          rw [hr, szDs_app]
          simp only [szDs]
          omega
        obtain ⟨js, c, j1, j2⟩ := ih d n w (shps_mem h1 d hd) (by omega) (by have := szDs_mem hd; omega) (intBs_mem h4 d hd)
        let s0 : S := ⟨[some (.tup xs, false), some (.lst (is.map D.int), true), some (d, false), none], w⟩
        have hcomp : ev ⟨callF T (k + 1 + n), T.gl⟩ false (.comp [3] (.var 3) (.nm 3) (.seq (.call 5 [.var 2])) (some (.op .nmem [.var 3, .var 1]))) s0 = .ok (.fresh (.lst (((js.filter fun j => !is.contains j)).map D.int))) s0 := by
          rw [ev_comp1 (fun x => match x with | .int j => !is.contains j | _ => false) id (ds := js.map D.int) (s := s0)]
          · rw [List.filter_map, List.map_map]
            simp [tr, Function.comp_def]
          · simp [s0, evI, ev, evc, bnd, oneR, consume, tr, callR, c, Opd.d, itemsD]
          · show 3 < 4
            omega
          · rfl
          · show (js.map D.int).length ≤ 16777216
            rw [List.length_map]; omega
          · intro x hx
            obtain ⟨j, _, rfl⟩ := List.mem_map.mp hx
            have hm := any_int is j
            refine ⟨?_, fun _ => ?_⟩
            · simp [s0, evO, isBl, ev, evs, bnd, tr, opD, memB, outR, Opd.d, shp, shps_ints, hm, truthD]
            · simp [s0, ev, bnd, oneR, consume, tr]
        refine ⟨s0.env, ⟨[some (.tup xs, false), some (.lst ((is ++ js.filter fun j => !is.contains j).map D.int), true), some (d, false), none], w⟩, ?_, .inl ?_, is ++ js.filter (fun j => !is.contains j), some (d, false), rfl, ?_, ?_⟩
        · simp [asgT, s0]
        · have al : addD [.lst (is.map D.int), .lst ((js.filter fun j => !is.contains j).map D.int)] = some (.f (.lst ((is ++ js.filter fun j => !is.contains j).map D.int))) := by
            rw [addL, List.map_append]
            have := List.length_filter_le (fun j => !is.contains j) js
            simp only [List.length_map]
            omega
          revert hcomp
          generalize (ME.comp [3] (.var 3) (.nm 3) (.seq (.call 5 [.var 2])) (some (.op .nmem [.var 3, .var 1]))) = q
          intro hcomp
          simp only [s0] at hcomp
          simp only [s0, exs, ex, ev, evs, bnd, tr, opD, outR, Opd.d, hcomp, al, List.getElem?_cons_zero, List.getElem?_cons_succ, Bool.false_eq_true, if_false, if_true, bindNm, isObjD]
          rfl
        · have := List.length_filter_le (fun j => !is.contains j) js
          rw [szDs_app]
          simp only [List.length_append, szDs]
          omega
        · intro i hi
          rcases List.mem_append.mp hi with h | h
          · exact l2 i h
          · exact j2 i (List.mem_filter.mp h).1
      obtain ⟨s', e1, is, p, rfl, l1, l2⟩ := forR_inv _ step xs [] ⟨[some (.tup xs, false), some (.lst [], true), none, none], w⟩ rfl ⟨[], none, rfl, by simp [szDs], by simp⟩
      refine ⟨is, ?_, by simp only [szD]; omega, l2⟩
      revert e1
      unfold fdLawInts
      generalize hq : ([.asg (.nm 1) (.op .add [.var 1, .comp [3] (.var 3) (.nm 3) (.seq (.call 5 [.var 2])) (some (.op .nmem [.var 3, .var 1]))])] : List MS) = q
      intro e1
      simp [startE, LN, exs, ex, ev, evs, evc, isBl, bnd, isTys, isTy, Opd.d, truthD, tr, opD, outR, endR, oneR, consume, evOr, evAnd, bindNm, isObjD, evIc, itemsD, e1]
def dOf : CR → D
  | .ok d _ => d
  | _ => .non
/-- two ints change places -/
theorem exch_run {T : Tab} (hT : T.fn 4 = some fdLawExchanged) {one other : Int} (hb1 : one.natAbs < 2 ^ 1000 * 4) (hb2 : other.natAbs < 2 ^ 1000 * 4) : ∀ (k : Nat) (v : D) (n : Nat) (w : W), gd k v = true → k ≤ 60 → szD v ≤ 900000 → ∃ d, callF T (k + 1 + n) 4 [v, .int one, .int other] w = .ok d w ∧ gd k d = true := by
  have nott : ∀ (v : D) (k n : Nat) (w : W), (∀ xs, v ≠ .tup xs) → gd k v = true → ∃ d, callF T (n + 1) 4 [v, .int one, .int other] w = .ok d w ∧ gd k d = true := by
    intro v k n w hn ha
    rw [callF_eq (by decide) hT (by rfl)]
    cases v <;> (try (simp [gd] at ha; done)) <;> first
      | (exact absurd rfl (hn _))
      | (refine ⟨_, ?_, ha⟩; simp [fdLawExchanged, LN, startE, exs, ex, ev, evs, evc, isBl, bnd, isTys, isTy, Opd.d, truthD, tr, opD, outR, endR, oneR, consume, evOr, evAnd]; done)
      | skip
    rename_i i
    refine ⟨.int (if i = one then other else if i = other then one else i), ?_, by
      split
      · exact gd_int hb2
      · split
        · exact gd_int hb1
        · exact ha⟩
    by_cases h1 : i = one
    · subst h1
      simp [fdLawExchanged, LN, startE, exs, ex, ev, evs, evc, isBl, bnd, isTys, isTy, Opd.d, truthD, tr, opD, outR, endR, oneR, consume, evOr, evAnd, eqB, shp, eqD]
    · have e1 : (i == one) = false := beq_false_of_ne h1
      by_cases h2 : i = other
      · subst h2
        simp [fdLawExchanged, LN, startE, exs, ex, ev, evs, evc, isBl, bnd, isTys, isTy, Opd.d, truthD, tr, opD, outR, endR, oneR, consume, evOr, evAnd, eqB, shp, eqD, e1, h1]
      · have e2 : (i == other) = false := beq_false_of_ne h2
        simp [fdLawExchanged, LN, startE, exs, ex, ev, evs, evc, isBl, bnd, isTys, isTy, Opd.d, truthD, tr, opD, outR, endR, oneR, consume, evOr, evAnd, eqB, shp, eqD, e1, e2, h1, h2]
  intro k
  induction k with
  | zero =>
    intro v n w h1 h2 h3
    rw [show 0 + 1 + n = n + 1 by omega]
    exact nott v 0 n w (fun xs e => by subst e; simp [gd] at h1) h1
  | succ k ih =>
    intro v n w h1 h2 h3
    by_cases hn : ∀ xs, v ≠ .tup xs
    · rw [show k + 1 + 1 + n = (k + 1 + n) + 1 by omega]
      exact nott v _ _ w hn h1
    · obtain ⟨xs, rfl⟩ : ∃ xs, v = .tup xs := by
        cases v <;> first | exact ⟨_, rfl⟩ | (exact absurd (fun xs e => by cases e) hn)
      rw [show k + 1 + 1 + n = (k + 1 + n) + 1 by omega, callF_eq (by decide) hT (by rfl)]
      simp only [gd, Bool.and_eq_true, decide_eq_true_eq] at h1
      obtain ⟨hlen, h1⟩ := h1
      simp only [szD] at h3
      let s0 : S := ⟨[some (.tup xs, false), some (.int one, false), some (.int other, false), none], w⟩
      have hcomp : ev ⟨callF T (k + 1 + n), T.gl⟩ false (.comp [3] (.call 4 [.var 3, .var 1, .var 2]) (.nm 3) (.seq (.var 0)) none) s0 = .ok (.fresh (.lst (xs.map fun x => dOf (callF T (k + 1 + n) 4 [x, .int one, .int other] w)))) s0 := by
        rw [ev_comp1 (fun _ => true) (fun x => dOf (callF T (k + 1 + n) 4 [x, .int one, .int other] w)) (ds := xs) (s := s0)]
        · have e : xs.filter (fun _ => true) = xs := List.filter_eq_self.mpr fun _ _ => rfl
          rw [e]
          rfl
        · simp [s0, evI, ev, bnd, tr, Opd.d, itemsD]
        · show 3 < 4
          omega
        · rfl
        · show xs.length ≤ 16777216
          have := szDs_len xs
          omega
        · intro x hx
          refine ⟨rfl, fun _ => ?_⟩
          obtain ⟨d, e, _⟩ := ih x n w (gds_mem h1 x hx) (by omega) (by have := szDs_mem hx; omega)
          simp [s0, ev, evc, bnd, oneR, consume, tr, callR, e, dOf]
      refine ⟨.tup (xs.map fun x => dOf (callF T (k + 1 + n) 4 [x, .int one, .int other] w)), ?_, ?_⟩
      · unfold fdLawExchanged
        revert hcomp
        generalize (ME.comp [3] (.call 4 [.var 3, .var 1, .var 2]) (.nm 3) (.seq (.var 0)) none) = q
        intro hcomp
        simp only [s0] at hcomp
        simp [startE, LN, exs, ex, ev, evs, evc, isBl, bnd, isTys, isTy, Opd.d, truthD, tr, opD, outR, endR, oneR, consume, evOr, evAnd, hcomp, tupD]
      · refine gd_tup (gds_of fun y hy => ?_) (by simpa using hlen)
        obtain ⟨x, hx, rfl⟩ := List.mem_map.mp hy
        obtain ⟨d, e, hd⟩ := ih x n w (gds_mem h1 x hx) (by omega) (by have := szDs_mem hx; omega)
        rw [e]
        exact hd
end MP
set_option Elab.async false
set_option linter.all false
set_option maxRecDepth 100000
/-! How the shared small forms run: _law_cut. -/
namespace MP
open PySem L2

theorem sOk_empty : sOk PySem.Str.empty = true := by decide +kernel
theorem sOk_join {a : Str} (ha : sOk a = true) : ∀ {ss : List Str}, (∀ s ∈ ss, sOk s = true) → sOk (PySem.Str.join a ss) = true
  | [], _ => sOk_empty
  | [x], h => h x List.mem_cons_self
  | x :: y :: r, h => by
    show sOk (x ++ a ++ PySem.Str.join a (y :: r)) = true
    exact sOk_app (sOk_app (h x List.mem_cons_self) ha) (sOk_join ha fun s hs => h s (List.mem_cons_of_mem _ hs))
def sumL (ss : List Str) : Nat := (ss.map (·.length)).sum
theorem szDs_strs : ∀ ss : List Str, szDs (ss.map D.str) = ss.length + sumL ss
  | [] => rfl
  | s :: r => by
    simp only [List.map_cons, szDs, szD, szDs_strs r, sumL, List.sum_cons, List.length_cons]
    omega
theorem strsOf_map : ∀ ss : List Str, strsOf (ss.map D.str) = some ss
  | [] => rfl
  | s :: r => by simp [strsOf, strsOf_map r]
theorem all_strs : ∀ {xs : List D}, (∀ x ∈ xs, ∃ s, x = .str s) → ∃ ss : List Str, xs = ss.map D.str
  | [], _ => ⟨[], rfl⟩
  | x :: r, h => by
    obtain ⟨s, rfl⟩ := h x List.mem_cons_self
    obtain ⟨ss, rfl⟩ := all_strs (xs := r) fun y hy => h y (List.mem_cons_of_mem _ hy)
    exact ⟨s :: ss, rfl⟩
theorem sumL_take (ss : List Str) (n : Nat) : sumL (ss.take n) ≤ sumL ss := by
  unfold sumL
  induction ss generalizing n with
  | nil => simp
  | cons s r ih =>
    cases n with
    | zero => simp
    | succ n =>
      have := ih n
      simp only [List.take_succ_cons, List.map_cons, List.sum_cons]
      omega
theorem sumL_drop (ss : List Str) (n : Nat) : sumL (ss.drop n) ≤ sumL ss := by
  unfold sumL
  induction ss generalizing n with
  | nil => simp
  | cons s r ih =>
    cases n with
    | zero => simp
    | succ n =>
      have := ih n
      simp only [List.drop_succ_cons, List.map_cons, List.sum_cons]
      omega
theorem cutL_map {α β : Type} (f : α → β) (xs : List α) (lo hi : Option Int) : cutL (xs.map f) lo hi = (cutL xs lo hi).map f := by
  simp [cutL, List.map_take, List.map_drop]
/-- texts joined with nothing between -/
theorem join_ok {ss : List Str} (h1 : ∀ s ∈ ss, sOk s = true) (h2 : sumL ss ≤ 1000000) : ∃ y, joinD [.str "", .tup (ss.map D.str)] = some (.v (.str y)) ∧ sOk y = true ∧ y.length ≤ 1000000 := by
  have le : (PySem.Str.ofString "").length = 0 := by decide +kernel
  have hl := StrLaws.join_length_le (PySem.Str.ofString "") ss
  have e := TL.join_eq (PySem.Str.ofString "") ss
  refine ⟨Txt.join "" ss, ?_, ?_, ?_⟩
  · simp only [joinD, strsOf_map, Option.bind_some]
    rw [if_pos]
    show sumL ss + ss.length * (PySem.Str.ofString "").length ≤ 16777216
    rw [le]
    omega
  · rw [e]
    exact sOk_join (by decide +kernel) h1
  · rw [e]
    rw [le] at hl
    have : sumL ss = (ss.map (·.length)).sum := rfl
    omega
theorem shps_strs {n : Nat} {ss : List Str} (h : ∀ s ∈ ss, sOk s = true) : shps n (ss.map D.str) = true := shps_of fun x hx => by
  obtain ⟨s, hs, rfl⟩ := List.mem_map.mp hx
  simp [shp, h s hs]
theorem gds_strs {n : Nat} {ss : List Str} (h : ∀ s ∈ ss, sOk s = true) : gds n (ss.map D.str) = true := gds_of fun x hx => by
  obtain ⟨s, hs, rfl⟩ := List.mem_map.mp hx
  simp [gd, h s hs]
theorem signs_ok {x : Str} (h : sOk x = true) {n : Nat} : gds n (x.cps.toList.map fun c => D.str ⟨#[c]⟩) = true := gds_of fun y hy => by
  obtain ⟨c, hc, rfl⟩ := List.mem_map.mp hy
  have := sOk_iff.mp h c hc
  simp [gd, sOk, this]
/-- the texts of a told thing are cut otherwise -/
theorem cut_strs {T : Tab} (hT : T.fn 3 = some fdLawCut) {n : Nat} {w : W} {ss : List Str} {k : Nat} (hne : ss ≠ []) (ho : ∀ s ∈ ss, sOk s = true) (hz : ss.length + sumL ss ≤ 900000) :
    ∃ d w', callF T (n + 2) 3 [.st, .tup (ss.map D.str)] w = .ok d w' ∧ gd (k + 1) d = true ∧ ∃ ys, d = .tup ys ∧ ys.length ≤ 4000000 := by
  rw [callF_eq (by decide) hT (by rfl)]
  have nx : ∀ (w : W) (lim : Int), 0 < lim → lim < 1000000 → callF T (n + 1) 0 [.st, .int lim] w = .ok (.int (nextW w lim).1) (nextW w lim).2 := fun w lim h1 h2 => next_call h1 h2
  have h64 : shps 63 (ss.map D.str) = true := shps_strs ho
  have hem : (ss.map D.str).isEmpty = false := by
    cases ss with
    | nil => exact absurd rfl hne
    | cons _ _ => rfl
  have hlen : (ss.map D.str).length = ss.length := List.length_map ..
  generalize hxs : ss.map D.str = xs at *
  have hln : (xs.length : Int) = (ss.length : Int) := by rw [hlen]
  have p1 : (0 : Int) < (xs.length : Int) := by
    have : ss.length ≠ 0 := by simpa using hne
    omega
  have c1 := nx w (xs.length : Int) p1 (by omega)
  obtain ⟨z, hz1, hz2⟩ := draw_at w (xs := xs) (by intro e; rw [e] at hem; cases hem)
  generalize (nextW w (xs.length : Int)).2 = w1 at c1
  generalize (nextW w (xs.length : Int)).1 = a at c1 hz2
  obtain ⟨x, hx, rfl⟩ : ∃ x ∈ ss, z = .str x := by
    rw [← hxs] at hz1
    obtain ⟨x, h1, h2⟩ := List.mem_map.mp hz1
    exact ⟨x, h1, h2.symm⟩
  have okx := ho x hx
  have lx : x.length ≤ 900000 := by
    have : szD (.str x) ≤ szDs (ss.map D.str) := szDs_mem (List.mem_map.mpr ⟨x, hx, rfl⟩)
    rw [szDs_strs] at this
    simp only [szD] at this
    omega
  have c2 := nx w1 ((x.length : Int) + 1) (by omega) (by omega)
  generalize (nextW w1 ((x.length : Int) + 1)).2 = w2 at c2
  generalize (nextW w1 ((x.length : Int) + 1)).1 = b at c2
  have hsum : sumL ss ≤ 1000000 := by omega
  obtain ⟨y, j1, j2, j3⟩ := join_ok ho hsum
  have hcut : ∀ s ∈ cutL ss (some a) (some (a + 2)), sOk s = true := fun s hs => ho s (cutL_mem hs)
  have hsum2 : sumL (cutL ss (some a) (some (a + 2))) ≤ 1000000 := by
    unfold cutL
    have := sumL_take (ss.drop (HT.sIx ss.length 0 (some a))) (HT.sIx ss.length ss.length (some (a + 2)) - HT.sIx ss.length 0 (some a))
    have := sumL_drop ss (HT.sIx ss.length 0 (some a))
    omega
  obtain ⟨y1, i1, i2, i3⟩ := join_ok hcut hsum2
  rw [← cutL_map, hxs] at i1
  rw [hxs] at j1
  have heA : gds k xs = true := by rw [← hxs]; exact gds_strs ho
  have okc1 : sOk (cutS x none (some b)) = true := sOk_cut okx
  have okc2 : sOk (cutS x (some b) none) = true := sOk_cut okx
  have cs1 : cutD (.str x) none (some b) = some (.v (.str (cutS x none (some b)))) := if_pos (by show x.length ≤ 16777216; omega)
  have cs2 : cutD (.str x) (some b) none = some (.v (.str (cutS x (some b) none))) := if_pos (by show x.length ≤ 16777216; omega)
  have ls : lenD [.str x] = some (.v (.int x.length)) := if_pos (by show x.length ≤ 16777216; omega)
  have ts : tupD [.str y] = some (.v (.tup (y.cps.toList.map fun c => .str ⟨#[c]⟩))) := if_pos (by show y.length ≤ 16777216; omega)
  have ad : ∀ i j : Int, addD [.int i, .int j] = some (.v (.int (i + j))) := fun _ _ => rfl
  have aa : ∀ u v : List D, u.length ≤ 4000000 → v.length ≤ 4000000 → addD [.tup u, .tup v] = some (.v (.tup (u ++ v))) := fun u v h1 h2 => addT (by omega)
  have k1 := cutL_len xs none (some a)
  have k2 := cutL_len xs (some (a + 1)) none
  have k3 := cutL_len xs (some (a + 2)) none
  have k4 := cutL_len xs (some a) none
  have k5 := cutL_len xs (some a) (some (a + 2))
  have q1 : gds k (cutL xs none (some a)) = true := gds_cut heA
  have q2 : gds k (cutL xs (some (a + 1)) none) = true := gds_cut heA
  have q3 : gds k (cutL xs (some (a + 2)) none) = true := gds_cut heA
  have q4 : gds k (cutL xs (some a) none) = true := gds_cut heA
  have q5 : gds k (cutL xs (some a) (some (a + 2))).reverse = true := gds_rev (gds_cut heA)
  have hcd : ∀ lo hi, cutD (.tup xs) lo hi = some (.v (.tup (cutL xs lo hi))) := fun _ _ => rfl
  generalize hA : cutL xs none (some a) = A at *
  generalize hB : cutL xs (some (a + 1)) none = BB at *
  generalize hC : cutL xs (some (a + 2)) none = CC at *
  generalize hE : cutL xs (some a) none = EE at *
  generalize hD : cutL xs (some a) (some (a + 2)) = DD at *
  have s1 := aa A [.str (cutS x none (some b)), .str (cutS x (some b) none)] (by omega) (by simp)
  have s2 := aa (A ++ [.str (cutS x none (some b)), .str (cutS x (some b) none)]) BB (by simp; omega) (by omega)
  have s3 := aa A [.str y1] (by omega) (by simp)
  have s4 := aa (A ++ [.str y1]) CC (by simp; omega) (by omega)
  have s5 := aa A [.str ""] (by omega) (by simp)
  have s6 := aa (A ++ [.str ""]) EE (by simp; omega) (by omega)
  have s7 := aa A DD.reverse (by omega) (by simp; omega)
  have s8 := aa (A ++ DD.reverse) CC (by simp; omega) (by omega)
  let cx : Cxt := ⟨callF T (n + 1), T.gl⟩
  let e0 : Env := [some (.st, false), some (.tup xs, false), none, none, none, none]
  show ∃ d w', endR (exs cx (.ife (.orL [.not (.isi (.var 1) [.tuple]), .op .eq [.var 1, .tup []]]) [.ret (.var 1)] [] ::
    .ife (.op .ne [.comp [2] (.var 2) (.nm 2) (.seq (.var 1)) (some (.not (.isi (.var 2) [.str]))), .lst []]) [.asg (.nm 3) (.call 0 [.var 0, .op .len [.var 1]]), .ret (.op .add [.op .add [.op (.slice false true) [.var 1, .var 3], .tup [.call 3 [.var 0, .op .ix [.var 1, .var 3]]]], .op (.slice true false) [.var 1, .op .add [.var 3, .cI 1]]])] [] ::
    .asg (.nm 3) (.call 0 [.var 0, .op .len [.var 1]]) :: .asg (.nm 4) (.call 0 [.var 0, .op .add [.op .len [.op .ix [.var 1, .var 3]], .cI 1]]) :: fdLawCut.body.drop 4) ⟨e0, w⟩) = .ok d w' ∧ gd (k + 1) d = true ∧ ∃ ys, d = .tup ys ∧ ys.length ≤ 4000000
  have comp : ev cx false (.comp [2] (.var 2) (.nm 2) (.seq (.var 1)) (some (.not (.isi (.var 2) [.str])))) ⟨e0, w⟩ = .ok (.fresh (.lst [])) ⟨e0, w⟩ := by
    rw [ev_comp1 (fun _ => false) id (ds := xs) (s := ⟨e0, w⟩)]
    · have e : xs.filter (fun _ => false) = [] := by simp
      rw [e]
      rfl
    · simp [e0, evI, ev, bnd, tr, Opd.d, itemsD]
    · show 2 < 6
      omega
    · rfl
    · show xs.length ≤ 16777216
      omega
    · intro z hz
      rw [← hxs] at hz
      obtain ⟨s, _, rfl⟩ := List.mem_map.mp hz
      refine ⟨?_, fun h => Bool.noConfusion h⟩
      simp [e0, evO, isBl, ev, bnd, tr, Opd.d, isTys, isTy]
  have t1 : ex cx (.ife (.orL [.not (.isi (.var 1) [.tuple]), .op .eq [.var 1, .tup []]]) [.ret (.var 1)] []) ⟨e0, w⟩ = .ok .next ⟨e0, w⟩ := by
    simp [e0, ex, exs, ev, evs, evc, evOr, isBl, bnd, isTys, isTy, Opd.d, truthD, tr, opD, outR, eqB, shp, shps, eq_nil, h64, hem, oneR, consume, LN]
  rw [exs_next t1]
  have t2 : ev cx true (.op .ne [.comp [2] (.var 2) (.nm 2) (.seq (.var 1)) (some (.not (.isi (.var 2) [.str]))), .lst []]) ⟨e0, w⟩ = .ok (.val (.bl false)) ⟨e0, w⟩ := by
    revert comp
    generalize (ME.comp [2] (.var 2) (.nm 2) (.seq (.var 1)) (some (.not (.isi (.var 2) [.str])))) = q
    intro comp
    simp [ev, evs, evc, bnd, comp, Opd.d, opD, outR, tr, truthD, eqB, shp, shps, eqD, eqDs, LN]
  rw [exs_next (s' := ⟨e0, w⟩) (by rw [ex_f t2 rfl]; rfl),
    exs_next (s' := ⟨[some (.st, false), some (.tup xs, false), none, some (.int a, false), none, none], w1⟩) (by
      simp [e0, cx, ex, ev, evs, evc, bnd, Opd.d, opD, outR, tr, oneR, consume, callR, lenD, c1, bindNm]),
    exs_next (s' := ⟨[some (.st, false), some (.tup xs, false), none, some (.int a, false), some (.int b, false), none], w2⟩) (by
      simp [cx, ex, ev, evs, evc, bnd, Opd.d, opD, outR, tr, oneR, consume, callR, ls, ixD, hz2, ad, c2, bindNm])]
  show ∃ d w', endR (exs cx (.asg (.nm 5) (.lst [.op .add [.op .add [.op (.slice false true) [.var 1, .var 3], .tup [.op (.slice false true) [.op .ix [.var 1, .var 3], .var 4], .op (.slice true false) [.op .ix [.var 1, .var 3], .var 4]]], .op (.slice true false) [.var 1, .op .add [.var 3, .cI 1]]], .op .add [.op .add [.op (.slice false true) [.var 1, .var 3], .tup [.join "" (.slc (.var 1) (.var 3) (.op .add [.var 3, .cI 2]))]], .op (.slice true false) [.var 1, .op .add [.var 3, .cI 2]]]]) ::
    .asg (.nm 5) (.op .add [.var 5, .lst [.tup [.join "" (.var 1)], .op .tupL [.join "" (.var 1)], .op .add [.op .add [.op (.slice false true) [.var 1, .var 3], .tup [.cS ""]], .op (.slice true false) [.var 1, .var 3]], .op .add [.op .add [.op (.slice false true) [.var 1, .var 3], .op .rev [.slc (.var 1) (.var 3) (.op .add [.var 3, .cI 2])]], .op (.slice true false) [.var 1, .op .add [.var 3, .cI 2]]]]]) ::
    [.ret (.op .ix [.var 5, .call 0 [.var 0, .op .len [.var 5]]])]) ⟨[some (.st, false), some (.tup xs, false), none, some (.int a, false), some (.int b, false), none], w2⟩) = .ok d w' ∧ gd (k + 1) d = true ∧ ∃ ys, d = .tup ys ∧ ys.length ≤ 4000000
  have al : ∀ (u v : List D), u.length ≤ 100 → v.length ≤ 100 → addD [.lst u, .lst v] = some (.f (.lst (u ++ v))) := fun u v h1 h2 => addL (by omega)
  have al1 := al [.tup (A ++ [.str (cutS x none (some b)), .str (cutS x (some b) none)] ++ BB), .tup (A ++ [.str y1] ++ CC)] [.tup [.str y], .tup (y.cps.toList.map fun c => .str ⟨#[c]⟩), .tup (A ++ [.str ""] ++ EE), .tup (A ++ DD.reverse ++ CC)] (by simp) (by simp)
  rw [exs_next (s' := ⟨[some (.st, false), some (.tup xs, false), none, some (.int a, false), some (.int b, false), some (.lst [.tup (A ++ [.str (cutS x none (some b)), .str (cutS x (some b) none)] ++ BB), .tup (A ++ [.str y1] ++ CC)], true)], w2⟩) (by
      simp only [cx, ex, ev, evs, evc, bnd, Opd.d, opD, outR, tr, oneR, consume, sliceD, hcd, hA, hB, hC, hD, hE, ixD, hz2, ad, cs1, cs2, i1, s1, s2, s3, s4, List.getElem?_cons_zero, List.getElem?_cons_succ, Bool.false_eq_true, if_false, Option.map_some, List.length_cons, List.length_nil, LN, Nat.reduceAdd, Nat.reduceLeDiff, if_true, Nat.reduceLT, bindNm, isObjD, List.set]),
    exs_next (s' := ⟨[some (.st, false), some (.tup xs, false), none, some (.int a, false), some (.int b, false), some (.lst ([.tup (A ++ [.str (cutS x none (some b)), .str (cutS x (some b) none)] ++ BB), .tup (A ++ [.str y1] ++ CC)] ++ [.tup [.str y], .tup (y.cps.toList.map fun c => .str ⟨#[c]⟩), .tup (A ++ [.str ""] ++ EE), .tup (A ++ DD.reverse ++ CC)]), true)], w2⟩) (by
      simp only [cx, ex, ev, evs, evc, bnd, Opd.d, opD, outR, tr, oneR, consume, sliceD, hcd, hA, hB, hC, hD, hE, revD, ad, j1, ts, s5, s6, s7, s8, al1, List.getElem?_cons_zero, List.getElem?_cons_succ, Bool.false_eq_true, if_false, Option.map_some, List.length_cons, List.length_nil, LN, Nat.reduceAdd, Nat.reduceLeDiff, if_true, Nat.reduceLT, bindNm, isObjD, List.set])]
  have hall : ∀ z ∈ ([.tup (A ++ [.str (cutS x none (some b)), .str (cutS x (some b) none)] ++ BB), .tup (A ++ [.str y1] ++ CC)] ++ [.tup [.str y], .tup (y.cps.toList.map fun c => .str ⟨#[c]⟩), .tup (A ++ [.str ""] ++ EE), .tup (A ++ DD.reverse ++ CC)] : List D), (gd (k + 1) z = true ∧ ∃ ys, z = .tup ys ∧ ys.length ≤ 4000000) := by
    intro z hz
    simp only [List.mem_append, List.mem_cons, List.not_mem_nil, or_false] at hz
    have mk : ∀ ys : List D, gds k ys = true → ys.length ≤ 4000000 → gd (k + 1) (.tup ys) = true ∧ ∃ zs, D.tup ys = .tup zs ∧ zs.length ≤ 4000000 := fun ys h1 h2 => ⟨gd_tup h1 (by omega), ys, rfl, h2⟩
    have ly : y.length = y.cps.size := rfl
    rcases hz with (rfl | rfl) | rfl | rfl | rfl | rfl
    · exact mk _ (gds_app (gds_app q1 (by simp [gds, gd, okc1, okc2])) q2) (by simp; omega)
    · exact mk _ (gds_app (gds_app q1 (by simp [gds, gd, i2])) q3) (by simp; omega)
    · exact mk _ (by simp [gds, gd, j2]) (by simp)
    · exact mk _ (signs_ok j2) (by simp; omega)
    · exact mk _ (gds_app (gds_app q1 (by simp [gds, gd, sOk_of])) q4) (by simp; omega)
    · exact mk _ (gds_app (gds_app q1 q5) q3) (by simp; omega)
  generalize hL : ([.tup (A ++ [.str (cutS x none (some b)), .str (cutS x (some b) none)] ++ BB), .tup (A ++ [.str y1] ++ CC)] ++ [.tup [.str y], .tup (y.cps.toList.map fun c => .str ⟨#[c]⟩), .tup (A ++ [.str ""] ++ EE), .tup (A ++ DD.reverse ++ CC)] : List D) = L at *
  have l6 : L.length = 6 := by rw [← hL]; rfl
  obtain ⟨z, g1, g2⟩ := draw_at w2 (xs := L) (by intro e; rw [e] at l6; cases l6)
  have c3 := nx w2 (L.length : Int) (by omega) (by omega)
  refine ⟨z, (nextW w2 (L.length : Int)).2, ?_, hall z g1⟩
  simp [cx, exs, ex, ev, evs, evc, bnd, opD, outR, tr, Opd.d, oneR, consume, lenD, callR, c3, ixD, g2, endR]
/-- _law_cut is safe -/
theorem cut_run {T : Tab} (hT : T.fn 3 = some fdLawCut) : ∀ (k : Nat) (v : D) (n : Nat) (w : W), gd k v = true → k ≤ 60 → szD v ≤ 900000 → ∃ d w', callF T (k + 2 + n) 3 [.st, v] w = .ok d w' ∧ gd k d = true ∧ ∀ xs, v = .tup xs → ∃ ys, d = .tup ys ∧ ys.length ≤ 4000000 := by
  have nott : ∀ (v : D) (k n : Nat) (w : W), (∀ xs, v = .tup xs → xs = []) → k ≤ 60 → gd k v = true → ∃ d w', callF T (n + 2) 3 [.st, v] w = .ok d w' ∧ gd k d = true ∧ ∀ xs, v = .tup xs → ∃ ys, d = .tup ys ∧ ys.length ≤ 4000000 := by
    intro v k n w hn hk ha
    rw [callF_eq (by decide) hT (by rfl)]
    refine ⟨v, w, ?_, ha, fun xs e => ⟨xs, e, by rw [hn xs e]; decide⟩⟩
    cases v <;> (try (simp [gd] at ha; done)) <;> first
      | (simp [fdLawCut, LN, startE, exs, ex, ev, evs, evc, isBl, bnd, isTys, isTy, Opd.d, truthD, tr, opD, outR, endR, oneR, consume, evOr, evAnd]; done)
      | skip
    rename_i xs
    have := hn xs rfl
    subst this
    simp [fdLawCut, LN, startE, exs, ex, ev, evs, evc, isBl, bnd, isTys, isTy, Opd.d, truthD, tr, opD, outR, endR, oneR, consume, evOr, evAnd, eqB, shp, shps, eqD, eqDs]
  intro k
  induction k with
  | zero =>
    intro v n w h1 h2 h3
    rw [show 0 + 2 + n = n + 2 by omega]
    exact nott v 0 n w (fun xs e => by subst e; simp [gd] at h1) (by omega) h1
  | succ k ih =>
    intro v n w h1 h2 h3
    rw [show k + 1 + 2 + n = (k + 1 + n) + 2 by omega]
    by_cases hn : ∀ xs, v = .tup xs → xs = []
    · exact nott v _ _ w hn h2 h1
    · obtain ⟨xs, rfl, hne⟩ : ∃ xs, v = .tup xs ∧ xs ≠ [] := by
        cases v <;> first | (exact ⟨_, rfl, fun e => hn fun ys e2 => by cases e2; exact e⟩) | (exact absurd (fun xs e => by cases e) hn)
      simp only [gd, Bool.and_eq_true, decide_eq_true_eq] at h1
      obtain ⟨hlen, hg⟩ := h1
      have h1 := gds_shps hg
      simp only [szD] at h3
      by_cases hs : ∀ x ∈ xs, ∃ s, x = D.str s
      · obtain ⟨ss, rfl⟩ := all_strs hs
        refine (fun ⟨d, w', c1, c2, c3⟩ => ⟨d, w', c1, c2, fun _ _ => c3⟩ : _ → _) (cut_strs hT (by intro e; subst e; exact hne rfl) (fun s hs => ?_) (by rw [szDs_strs] at h3; omega))
        have := shps_mem h1 (.str s) (List.mem_map.mpr ⟨s, hs, rfl⟩)
        simpa [shp] using this
      · rw [callF_eq (by decide) hT (by rfl)]
        have nx : ∀ (w : W) (lim : Int), 0 < lim → lim < 1000000 → callF T (k + 1 + n + 1) 0 [.st, .int lim] w = .ok (.int (nextW w lim).1) (nextW w lim).2 := fun w lim h1 h2 => next_call h1 h2
        have hlx := szDs_len xs
        have h64 : shps 63 xs = true := shps_of fun x hx => shp_le (shps_mem h1 x hx) (by omega)
        have hem : xs.isEmpty = false := by cases xs <;> simp_all
        have p1 : (0 : Int) < (xs.length : Int) := by
          have : xs.length ≠ 0 := by simpa using hne
          omega
        have c1 := nx w (xs.length : Int) p1 (by omega)
        obtain ⟨z, hz1, hz2⟩ := draw_at w hne
        generalize (nextW w (xs.length : Int)).2 = w1 at c1
        generalize (nextW w (xs.length : Int)).1 = a at c1 hz2
        obtain ⟨d, w', c2, hd, _⟩ := ih z n w1 (gds_mem hg z hz1) (by omega) (by have := szDs_mem hz1; omega)
        rw [show k + 2 + n = k + 1 + n + 1 by omega] at c2
        let cx : Cxt := ⟨callF T (k + 1 + n + 1), T.gl⟩
        let e0 : Env := [some (.st, false), some (.tup xs, false), none, none, none, none]
        let isn : D → Bool := fun x => match x with | .str _ => false | _ => true
        show ∃ d w', endR (exs cx (.ife (.orL [.not (.isi (.var 1) [.tuple]), .op .eq [.var 1, .tup []]]) [.ret (.var 1)] [] ::
          .ife (.op .ne [.comp [2] (.var 2) (.nm 2) (.seq (.var 1)) (some (.not (.isi (.var 2) [.str]))), .lst []]) [.asg (.nm 3) (.call 0 [.var 0, .op .len [.var 1]]), .ret (.op .add [.op .add [.op (.slice false true) [.var 1, .var 3], .tup [.call 3 [.var 0, .op .ix [.var 1, .var 3]]]], .op (.slice true false) [.var 1, .op .add [.var 3, .cI 1]]])] [] :: fdLawCut.body.drop 2) ⟨e0, w⟩) = .ok d w' ∧ gd (k + 1) d = true ∧ ∀ zs, D.tup xs = .tup zs → ∃ ys, d = .tup ys ∧ ys.length ≤ 4000000
        have comp : ev cx false (.comp [2] (.var 2) (.nm 2) (.seq (.var 1)) (some (.not (.isi (.var 2) [.str])))) ⟨e0, w⟩ = .ok (.fresh (.lst (xs.filter isn))) ⟨e0, w⟩ := by
          rw [ev_comp1 isn id (ds := xs) (s := ⟨e0, w⟩)]
          · rw [List.map_id]
            rfl
          · simp [e0, evI, ev, bnd, tr, Opd.d, itemsD]
          · show 2 < 6
            omega
          · rfl
          · show xs.length ≤ 16777216
            omega
          · intro z hz
            have hsz := shps_mem h64 z hz
            refine ⟨?_, fun _ => ?_⟩
            · cases z <;> first | (simp [shp] at hsz; done) | simp [e0, evO, isBl, ev, bnd, tr, Opd.d, isTys, isTy, isn]
            · simp [e0, ev, bnd, oneR, consume, tr]
        have hf : shps 63 (xs.filter isn) = true := shps_of fun x hx => shps_mem h64 x (List.mem_filter.mp hx).1
        have hfe : eqD (.lst (xs.filter isn)) (.lst []) = false := by
          cases hq : xs.filter isn with
          | cons _ _ => simp [eqD, eqDs]
          | nil =>
            exfalso
            apply hs
            intro x hx
            have := List.filter_eq_nil_iff.mp hq x hx
            cases x <;> first | exact ⟨_, rfl⟩ | (exact absurd rfl this)
        have t1 : ex cx (.ife (.orL [.not (.isi (.var 1) [.tuple]), .op .eq [.var 1, .tup []]]) [.ret (.var 1)] []) ⟨e0, w⟩ = .ok .next ⟨e0, w⟩ := by
          simp [e0, ex, exs, ev, evs, evc, evOr, isBl, bnd, isTys, isTy, Opd.d, truthD, tr, opD, outR, eqB, shp, shps, eq_nil, h64, hem, oneR, consume, LN]
        rw [exs_next t1]
        have t2 : ev cx true (.op .ne [.comp [2] (.var 2) (.nm 2) (.seq (.var 1)) (some (.not (.isi (.var 2) [.str]))), .lst []]) ⟨e0, w⟩ = .ok (.val (.bl true)) ⟨e0, w⟩ := by
          revert comp
          generalize (ME.comp [2] (.var 2) (.nm 2) (.seq (.var 1)) (some (.not (.isi (.var 2) [.str])))) = q
          intro comp
          simp [ev, evs, evc, bnd, comp, Opd.d, opD, outR, tr, truthD, eqB, shp, shps, hf, hfe, LN]
        have ad : ∀ i j : Int, addD [.int i, .int j] = some (.v (.int (i + j))) := fun _ _ => rfl
        have k1 := cutL_len xs none (some a)
        have k2 := cutL_len xs (some (a + 1)) none
        have s1 : addD [.tup (cutL xs none (some a)), .tup [d]] = some (.v (.tup (cutL xs none (some a) ++ [d]))) := addT (by simp; omega)
        have s2 : addD [.tup (cutL xs none (some a) ++ [d]), .tup (cutL xs (some (a + 1)) none)] = some (.v (.tup (cutL xs none (some a) ++ [d] ++ cutL xs (some (a + 1)) none))) := addT (by simp; omega)
        rw [exs_ret (d := .tup (cutL xs none (some a) ++ [d] ++ cutL xs (some (a + 1)) none)) (s' := ⟨[some (.st, false), some (.tup xs, false), none, some (.int a, false), none, none], w'⟩)]
        · refine ⟨_, _, rfl, ?_, fun _ _ => ⟨_, rfl, by simp; omega⟩⟩
          exact gd_tup (gds_app (gds_app (gds_cut hg) (by simp [gds, hd])) (gds_cut hg)) (by simp; omega)
        · rw [ex_t t2 rfl, exs_next (s' := ⟨[some (.st, false), some (.tup xs, false), none, some (.int a, false), none, none], w1⟩) (by
            simp [e0, cx, ex, ev, evs, evc, bnd, Opd.d, opD, outR, tr, oneR, consume, callR, lenD, c1, bindNm])]
          refine exs_ret ?_
          simp only [cx, LN, ex, ev, evs, evc, bnd, opD, outR, tr, Opd.d, oneR, consume, sliceD, cutD, ixD, hz2, callR, c2, s1, s2, ad, List.getElem?_cons_zero, List.getElem?_cons_succ, Bool.false_eq_true, if_false, Option.map_some, List.length_cons, List.length_nil, Nat.reduceAdd, Nat.reduceLeDiff, if_true]
end MP
set_option Elab.async false
set_option linter.all false
set_option maxRecDepth 100000
/-! How the shared small forms run: _law_turned_about, _law_odd. -/
namespace MP
open PySem L2

theorem compR_w {own : List Nat} {tg : MT} {elt : S → R D} {env : Env} {P : D → Prop} : ∀ {ds acc : List D} {w : W},
    (∀ d ∈ ds, ∀ w, ∃ env1 x w', asgT tg d env = some env1 ∧ elt ⟨env1, w⟩ = .ok x ⟨env1, w'⟩ ∧ P x ∧ wipeE env1 own = env) → acc.length + ds.length ≤ LN → (∀ x ∈ acc, P x) →
    ∃ xs w', compR own tg (fun s => .ok true s) elt ds acc ⟨env, w⟩ = .ok xs ⟨env, w'⟩ ∧ (∀ x ∈ xs, P x) ∧ xs.length = acc.length + ds.length
  | [], acc, w, _, _, ha => ⟨acc, w, by simp [compR], ha, by simp⟩
  | d :: ds, acc, w, h, hl, ha => by
    obtain ⟨env1, x, w1, h1, h2, h3, h4⟩ := h d List.mem_cons_self w
    simp only [List.length_cons] at hl
    obtain ⟨xs, w2, e1, e2, e3⟩ := compR_w (own := own) (tg := tg) (elt := elt) (env := env) (P := P) (ds := ds) (acc := acc ++ [x]) (w := w1) (fun d' hd => h d' (List.mem_cons_of_mem _ hd)) (by simp; omega) (fun y hy => by
      rcases List.mem_append.mp hy with hy | hy
      · exact ha y hy
      · simp at hy
        subst hy
        exact h3)
    refine ⟨xs, w2, ?_, e2, by rw [e3]; simp; omega⟩
    rw [compR, h1]
    dsimp only
    simp only [bndx, if_true]
    rw [h2]
    dsimp only
    rw [if_pos (by omega), h4]
    exact e1
/-- a comprehension with one name whose parts draw -/
theorem ev_compW {cx : Cxt} {i : Nat} {elt : ME} {src : MI} {s0 : S} {env : Env} {w : W} {ds : List D} (P : D → Prop) (hs : evI cx src s0 = .ok ds ⟨env, w⟩) (hi : i < env.length) (ho : noOwn env [i] = true) (hl : ds.length ≤ LN)
    (h : ∀ d ∈ ds, ∀ w, ∃ x w', oneR (ev cx false elt ⟨env.set i (some (d, false)), w⟩) = .ok x ⟨env.set i (some (d, false)), w'⟩ ∧ P x) :
    ∃ xs w', ev cx false (.comp [i] elt (.nm i) src none) s0 = .ok (.fresh (.lst xs)) ⟨env, w'⟩ ∧ (∀ x ∈ xs, P x) ∧ xs.length = ds.length := by
  obtain ⟨xs, w', e1, e2, e3⟩ := compR_w (own := [i]) (tg := .nm i) (elt := fun s => oneR (ev cx false elt s)) (env := wipeE env [i]) (P := P) (ds := ds) (acc := []) (w := w) (fun d hd w => by
    obtain ⟨x, w', h1, h2⟩ := h d hd w
    refine ⟨env.set i (some (d, false)), x, w', ?_, h1, h2, ?_⟩
    · simp [asgT, wipeE, hi]
    · simp [wipeE]) (by simpa using hl) (by simp)
  refine ⟨xs, w', ?_, e2, by simpa using e3⟩
  simp only [ev, hs, bnd_ok, ho, if_true, evO]
  rw [e1]
  simp only [bndx, restE, wipeE]
  have : ((env.set i none).set i (env.getD i none)) = env := by
    rw [set_wipe]
    apply List.ext_getElem?
    intro j
    by_cases hj : i = j
    · subst hj
      rw [List.getElem?_set_self hi, List.getD_eq_getElem?_getD, List.getElem?_eq_getElem hi]
      rfl
    · rw [List.getElem?_set_ne hj]
  rw [this]
  rfl
theorem szDs_take (xs : List D) (n : Nat) : szDs (xs.take n) ≤ szDs xs := by
  induction xs generalizing n with
  | nil => simp
  | cons s r ih =>
    cases n with
    | zero => simp [szDs]
    | succ n =>
      have := ih n
      simp only [List.take_succ_cons, szDs]
      omega
theorem szDs_drop (xs : List D) (n : Nat) : szDs (xs.drop n) ≤ szDs xs := by
  induction xs generalizing n with
  | nil => simp
  | cons s r ih =>
    cases n with
    | zero => simp
    | succ n =>
      have := ih n
      simp only [List.drop_succ_cons, szDs]
      omega
theorem szDs_cut (xs : List D) (lo hi : Option Int) : szDs (cutL xs lo hi) ≤ szDs xs := Nat.le_trans (szDs_take _ _) (szDs_drop _ _)
theorem turned_run {T : Tab} (h5 : T.fn 5 = some fdLawInts) (h4 : T.fn 4 = some fdLawExchanged) (hT3 : T.fn 3 = some fdLawCut) (h10 : T.fn 10 = some fdLawTurnedAbout) {k n : Nat} {xs : List D} {w : W} (hk : k ≤ 50) (hx : xs ≠ []) (hsh : shps k xs = true) (hz : szDs xs ≤ 800000) (hb : intBs 1000 xs = true) :
    ∃ d w', callF T (k + 4 + n) 10 [.st, .tup xs] w = .ok d w' ∧ gd (k + 1) d = true := by
  rw [show k + 4 + n = (k + 3 + n) + 1 by omega, callF_eq (by decide) h10 (by rfl)]
  have nx : ∀ (w : W) (lim : Int), 0 < lim → lim < 1000000 → callF T (k + 3 + n) 0 [.st, .int lim] w = .ok (.int (nextW w lim).1) (nextW w lim).2 := fun w lim h1 h2 => by
    rw [show k + 3 + n = (k + 2 + n) + 1 by omega]
    exact next_call h1 h2
  have hlx := szDs_len xs
  have hg : gds k xs = true := gds_by hsh hb (by omega)
  have h64 : shps 63 xs = true := shps_of fun x hx => shp_le (shps_mem hsh x hx) (by omega)
  have hem : xs.isEmpty = false := by cases xs <;> simp_all
  have p1 : (0 : Int) < (xs.length : Int) := by
    have : xs.length ≠ 0 := by simpa using hx
    omega
  obtain ⟨is, ci, li, bi⟩ := ints_run h5 (b := 1000) (k + 1) (.tup xs) (n + 1) w (by simpa [shp] using hsh) (by omega) (by simp only [szD]; omega) (by simpa [intB] using hb)
  rw [show k + 1 + 1 + (n + 1) = k + 3 + n by omega] at ci
  simp only [szD] at li
  have c5 := nx w 5 (by decide) (by decide)
  have bp := draw_bnd w (lim := 5) (by decide)
  generalize (nextW w 5).2 = w1 at c5
  generalize (nextW w 5).1 = pick at c5 bp
  let cx : Cxt := ⟨callF T (k + 3 + n), T.gl⟩
  have ad : ∀ i j : Int, addD [.int i, .int j] = some (.v (.int (i + j))) := fun _ _ => rfl
  have aa : ∀ u v : List D, u.length ≤ 8000000 → v.length ≤ 8000000 → addD [.tup u, .tup v] = some (.v (.tup (u ++ v))) := fun u v h1 h2 => addT (by omega)
  show ∃ d w', endR (exs cx (.asg (.nm 2) (.call 5 [.var 1]) :: .asg (.nm 3) (.call 0 [.var 0, .cI 5]) ::
    .ife (.andL [.op .lt [.var 3, .cI 3], .op .ne [.var 2, .lst []]]) [.asg (.nm 4) (.op .ix [.var 2, .call 0 [.var 0, .op .len [.var 2]]]), .asg (.nm 5) (.ife (.op .eq [.var 3, .cI 0]) (.op .add [.var 4, .cI 1]) (.op .ix [.var 2, .call 0 [.var 0, .op .len [.var 2]]])), .ret (.call 4 [.var 1, .var 4, .var 5])] [] ::
    .ife (.op .eq [.var 3, .cI 3]) [.ret (.op .add [.op (.slice false true) [.var 1, .cI 1], .ife (.op .gt [.op .len [.var 1], .cI 2]) (.call 3 [.var 0, .op (.slice true false) [.var 1, .cI 1]]) (.op .tupL [.comp [6] (.call 3 [.var 0, .var 6]) (.nm 6) (.seq (.op (.slice true false) [.var 1, .cI 1])) none])])] [] :: fdLawTurnedAbout.body.drop 4)
    ⟨[some (.st, false), some (.tup xs, false), none, none, none, none, none, none, none], w⟩) = .ok d w' ∧ gd (k + 1) d = true
  rw [exs_next (s' := ⟨[some (.st, false), some (.tup xs, false), some (.lst (is.map D.int), false), none, none, none, none, none, none], w⟩) (by
      simp [cx, ex, ev, evs, evc, bnd, Opd.d, tr, oneR, consume, callR, ci, bindNm]),
    exs_next (s' := ⟨[some (.st, false), some (.tup xs, false), some (.lst (is.map D.int), false), some (.int pick, false), none, none, none, none, none], w1⟩) (by
      simp [cx, ex, ev, evs, evc, bnd, Opd.d, tr, oneR, consume, callR, c5, bindNm])]
  by_cases hc : pick < 3 ∧ is ≠ []
  · -- two ints change places
    have hne : eqD (.lst (is.map D.int)) (.lst []) = false := by
      cases is with
      | nil => exact absurd rfl hc.2
      | cons _ _ => simp [eqD, eqDs]
    have hm : is.map D.int ≠ [] := by simpa using hc.2
    have hil : ((is.map D.int).length : Int) = (is.length : Int) := by rw [List.length_map]
    have pI : (0 : Int) < ((is.map D.int).length : Int) := by
      have : is.length ≠ 0 := by simpa using hc.2
      omega
    have cA := nx w1 ((is.map D.int).length : Int) pI (by omega)
    obtain ⟨z, z1, z2⟩ := draw_at w1 hm
    generalize (nextW w1 ((is.map D.int).length : Int)).2 = w2 at cA
    generalize (nextW w1 ((is.map D.int).length : Int)).1 = a at cA z2
    obtain ⟨one, hone, rfl⟩ := List.mem_map.mp z1
    have shI : shps 63 (is.map D.int) = true := shps_ints is
    have b1 := bi one hone
    have fin : ∀ (other : Int) (w3 : W), other.natAbs < 2 ^ 1000 * 4 → ∃ d s', exs cx [.ret (.call 4 [.var 1, .var 4, .var 5])] ⟨[some (.st, false), some (.tup xs, false), some (.lst (is.map D.int), false), some (.int pick, false), some (.int one, false), some (.int other, false), none, none, none], w3⟩ = .ok (.ret d) s' ∧ gd (k + 1) d = true := by
      intro other w3 hoth
      obtain ⟨d, c, hd⟩ := exch_run h4 (one := one) (other := other) (by omega) hoth (k + 1) (.tup xs) (n + 1) w3 (gd_tup hg (by omega)) (by omega) (by simp only [szD]; omega)
      rw [show k + 1 + 1 + (n + 1) = k + 3 + n by omega] at c
      refine ⟨d, ⟨[some (.st, false), some (.tup xs, false), some (.lst (is.map D.int), false), some (.int pick, false), some (.int one, false), some (.int other, false), none, none, none], w3⟩, exs_ret ?_, hd⟩
      simp [cx, ex, ev, evc, bnd, tr, oneR, consume, callR, c]
    have ht : ev cx true (.andL [.op .lt [.var 3, .cI 3], .op .ne [.var 2, .lst []]]) ⟨[some (.st, false), some (.tup xs, false), some (.lst (is.map D.int), false), some (.int pick, false), none, none, none, none, none], w1⟩ = .ok (.val (.bl true)) ⟨[some (.st, false), some (.tup xs, false), some (.lst (is.map D.int), false), some (.int pick, false), none, none, none, none, none], w1⟩ := by
      simp [ev, evs, evc, evAnd, bnd, Opd.d, tr, opD, outR, cmpI, i2, hc.1, eqB, shp, shps, shI, hne, truthD, LN]
    have hs4 : ex cx (.asg (.nm 4) (.op .ix [.var 2, .call 0 [.var 0, .op .len [.var 2]]])) ⟨[some (.st, false), some (.tup xs, false), some (.lst (is.map D.int), false), some (.int pick, false), none, none, none, none, none], w1⟩ = .ok .next ⟨[some (.st, false), some (.tup xs, false), some (.lst (is.map D.int), false), some (.int pick, false), some (.int one, false), none, none, none, none], w2⟩ := by
      simp only [cx, ex, ev, evs, evc, bnd, Opd.d, tr, opD, outR, oneR, consume, callR, lenD, cA, ixD, z2, bindNm, List.getElem?_cons_zero, List.getElem?_cons_succ, Bool.false_eq_true, if_false, Option.map_some, List.length_cons, List.length_nil, Nat.reduceAdd, Nat.reduceLT, if_true, List.set]
    have out : ∃ (other : Int) (w3 : W), other.natAbs < 2 ^ 1000 * 4 ∧ exs cx [.asg (.nm 5) (.ife (.op .eq [.var 3, .cI 0]) (.op .add [.var 4, .cI 1]) (.op .ix [.var 2, .call 0 [.var 0, .op .len [.var 2]]])), .ret (.call 4 [.var 1, .var 4, .var 5])] ⟨[some (.st, false), some (.tup xs, false), some (.lst (is.map D.int), false), some (.int pick, false), some (.int one, false), none, none, none, none], w2⟩ =
        exs cx [.ret (.call 4 [.var 1, .var 4, .var 5])] ⟨[some (.st, false), some (.tup xs, false), some (.lst (is.map D.int), false), some (.int pick, false), some (.int one, false), some (.int other, false), none, none, none], w3⟩ := by
      by_cases h0 : pick = 0
      · refine ⟨one + 1, w2, by omega, exs_next ?_⟩
        simp [cx, ex, ev, evs, bnd, Opd.d, tr, opD, outR, eqB, shp, eqD, h0, truthD, ad, bindNm]
      · have e0 : (pick == 0) = false := beq_false_of_ne h0
        have cB := nx w2 ((is.map D.int).length : Int) pI (by omega)
        obtain ⟨y, y1, y2⟩ := draw_at w2 hm
        generalize (nextW w2 ((is.map D.int).length : Int)).2 = w3 at cB
        generalize (nextW w2 ((is.map D.int).length : Int)).1 = a2 at cB y2
        obtain ⟨other, hother, rfl⟩ := List.mem_map.mp y1
        refine ⟨other, w3, by have := bi other hother; omega, exs_next ?_⟩
        simp only [cx, ex, ev, evs, evc, bnd, Opd.d, tr, opD, outR, oneR, consume, callR, lenD, cB, ixD, y2, eqB, shp, eqD, e0, truthD, Bool.and_self, bindNm, List.getElem?_cons_zero, List.getElem?_cons_succ, Bool.false_eq_true, if_false, Option.map_some, List.length_cons, List.length_nil, Nat.reduceAdd, Nat.reduceLT, if_true, List.set]
    obtain ⟨other, w3, hoth, ho⟩ := out
    obtain ⟨d, s', e1, e2⟩ := fin other w3 hoth
    rw [exs_ret (d := d) (s' := s')]
    · exact ⟨d, _, rfl, e2⟩
    · rw [ex_t ht rfl, exs_next hs4, ho, e1]
  · -- otherwise
    have hf : ev cx true (.andL [.op .lt [.var 3, .cI 3], .op .ne [.var 2, .lst []]]) ⟨[some (.st, false), some (.tup xs, false), some (.lst (is.map D.int), false), some (.int pick, false), none, none, none, none, none], w1⟩ = .ok (.val (.bl false)) ⟨[some (.st, false), some (.tup xs, false), some (.lst (is.map D.int), false), some (.int pick, false), none, none, none, none, none], w1⟩ := by
      by_cases h3 : pick < 3
      · have he : is = [] := by
          by_cases h : is = []
          · exact h
          · exact absurd ⟨h3, h⟩ hc
        subst he
        simp [ev, evs, evc, evAnd, bnd, Opd.d, tr, opD, outR, cmpI, i2, h3, eqB, shp, shps, eqD, eqDs, truthD, LN]
      · simp [ev, evs, evc, evAnd, bnd, Opd.d, tr, opD, outR, cmpI, i2, h3, truthD]
    rw [exs_next (s' := ⟨[some (.st, false), some (.tup xs, false), some (.lst (is.map D.int), false), some (.int pick, false), none, none, none, none, none], w1⟩) (by rw [ex_f hf rfl]; rfl)]
    have q1 : gds k (cutL xs none (some 1)) = true := gds_cut hg
    have q2 : gds k (cutL xs (some 1) none) = true := gds_cut hg
    have l1 := cutL_len xs none (some 1)
    have l2 := cutL_len xs (some 1) none
    have hcd : ∀ lo hi, cutD (.tup xs) lo hi = some (.v (.tup (cutL xs lo hi))) := fun _ _ => rfl
    by_cases h3 : pick = 3
    · -- texts are cut
      have ht : ev cx true (.op .eq [.var 3, .cI 3]) ⟨[some (.st, false), some (.tup xs, false), some (.lst (is.map D.int), false), some (.int pick, false), none, none, none, none, none], w1⟩ = .ok (.val (.bl true)) ⟨[some (.st, false), some (.tup xs, false), some (.lst (is.map D.int), false), some (.int pick, false), none, none, none, none, none], w1⟩ := by
        simp [ev, evs, bnd, Opd.d, tr, opD, outR, eqB, shp, eqD, h3, truthD]
      have val : ∃ ys w', ev cx false (.ife (.op .gt [.op .len [.var 1], .cI 2]) (.call 3 [.var 0, .op (.slice true false) [.var 1, .cI 1]]) (.op .tupL [.comp [6] (.call 3 [.var 0, .var 6]) (.nm 6) (.seq (.op (.slice true false) [.var 1, .cI 1])) none])) ⟨[some (.st, false), some (.tup xs, false), some (.lst (is.map D.int), false), some (.int pick, false), none, none, none, none, none], w1⟩ = .ok (.val (.tup ys)) ⟨[some (.st, false), some (.tup xs, false), some (.lst (is.map D.int), false), some (.int pick, false), none, none, none, none, none], w'⟩ ∧ gds k ys = true ∧ ys.length ≤ 4000000 := by
        have l64 : shps 63 xs = true := h64
        by_cases hl : (xs.length : Int) > 2
        · obtain ⟨d, w', c, hd, hy⟩ := cut_run hT3 (k + 1) (.tup (cutL xs (some 1) none)) n w1 (gd_tup q2 (by omega)) (by omega) (by
            have := szDs_cut xs (some 1) none
            simp only [szD]
            omega)
          obtain ⟨ys, rfl, hyl⟩ := hy _ rfl
          rw [show k + 1 + 2 + n = k + 3 + n by omega] at c
          refine ⟨ys, w', ?_, by simp only [gd, Bool.and_eq_true] at hd; exact hd.2, hyl⟩
          simp only [cx, ev, evs, evc, bnd, Opd.d, tr, opD, outR, oneR, consume, callR, lenD, cmpI, i2, hl, decide_true, truthD, sliceD, hcd, c, List.getElem?_cons_zero, List.getElem?_cons_succ, Bool.false_eq_true, if_false, if_true, gt_iff_lt, decide_eq_true_eq] at *
        · obtain ⟨ys, w', c, hy, hyl⟩ := ev_compW (cx := cx) (i := 6) (elt := .call 3 [.var 0, .var 6]) (src := .seq (.op (.slice true false) [.var 1, .cI 1])) (s0 := ⟨[some (.st, false), some (.tup xs, false), some (.lst (is.map D.int), false), some (.int pick, false), none, none, none, none, none], w1⟩) (env := [some (.st, false), some (.tup xs, false), some (.lst (is.map D.int), false), some (.int pick, false), none, none, none, none, none]) (w := w1) (ds := cutL xs (some 1) none) (fun x => gd k x = true) (by
            simp only [evI, ev, evs, bnd, Opd.d, tr, opD, outR, sliceD, hcd, itemsD, List.getElem?_cons_zero, List.getElem?_cons_succ, Bool.false_eq_true, if_false]) (by show 6 < 9; omega) rfl (by show (cutL xs (some 1) none).length ≤ 16777216; omega) (fun x hx w => by
            have hxm := cutL_mem hx
            obtain ⟨d, w', c, hd, _⟩ := cut_run hT3 k x (n + 1) w (gds_mem hg x hxm) (by omega) (by have := szDs_mem hxm; omega)
            rw [show k + 2 + (n + 1) = k + 3 + n by omega] at c
            refine ⟨d, w', ?_, hd⟩
            simp [cx, ev, evc, bnd, oneR, consume, tr, callR, c])
          refine ⟨ys, w', ?_, gds_of hy, by rw [hyl]; omega⟩
          revert c
          generalize (ME.comp [6] (.call 3 [.var 0, .var 6]) (.nm 6) (.seq (.op (.slice true false) [.var 1, .cI 1])) none) = q
          intro c
          have hl' : ¬ 2 < (xs.length : Int) := hl
          simp [ev, evs, bnd, Opd.d, tr, opD, outR, lenD, cmpI, i2, hl', truthD, c, tupD]
      obtain ⟨ys, w', hv, hy1, hy2⟩ := val
      have s1 := aa (cutL xs none (some 1)) ys (by omega) (by omega)
      rw [exs_ret (d := .tup (cutL xs none (some 1) ++ ys)) (s' := ⟨[some (.st, false), some (.tup xs, false), some (.lst (is.map D.int), false), some (.int pick, false), none, none, none, none, none], w'⟩)]
      · exact ⟨_, _, rfl, gd_tup (gds_app q1 hy1) (by simp; omega)⟩
      · rw [ex_t ht rfl]
        refine exs_ret ?_
        revert hv
        generalize (ME.ife (.op .gt [.op .len [.var 1], .cI 2]) (.call 3 [.var 0, .op (.slice true false) [.var 1, .cI 1]]) (.op .tupL [.comp [6] (.call 3 [.var 0, .var 6]) (.nm 6) (.seq (.op (.slice true false) [.var 1, .cI 1])) none])) = q
        intro hv
        simp only [ex, ev, evs, bnd, Opd.d, tr, opD, outR, oneR, consume, sliceD, hcd, hv, s1, List.getElem?_cons_zero, List.getElem?_cons_succ, Bool.false_eq_true, if_false]
    · -- parts change places
      have hf3 : ev cx true (.op .eq [.var 3, .cI 3]) ⟨[some (.st, false), some (.tup xs, false), some (.lst (is.map D.int), false), some (.int pick, false), none, none, none, none, none], w1⟩ = .ok (.val (.bl false)) ⟨[some (.st, false), some (.tup xs, false), some (.lst (is.map D.int), false), some (.int pick, false), none, none, none, none, none], w1⟩ := by
        have e3 : (pick == 3) = false := beq_false_of_ne h3
        simp [ev, evs, bnd, Opd.d, tr, opD, outR, eqB, shp, eqD, e3, truthD]
      rw [exs_next (s' := ⟨[some (.st, false), some (.tup xs, false), some (.lst (is.map D.int), false), some (.int pick, false), none, none, none, none, none], w1⟩) (by rw [ex_f hf3 rfl]; rfl)]
      have cA := nx w1 (xs.length : Int) p1 (by omega)
      generalize (nextW w1 (xs.length : Int)).2 = w2 at cA
      generalize (nextW w1 (xs.length : Int)).1 = a at cA
      have cB := nx w2 (xs.length : Int) p1 (by omega)
      generalize (nextW w2 (xs.length : Int)).2 = w3 at cB
      generalize (nextW w2 (xs.length : Int)).1 = b at cB
      show ∃ d w', endR (exs cx (.par [7, 8] [.call 0 [.var 0, .op .len [.var 1]], .call 0 [.var 0, .op .len [.var 1]]] ::
        .ife (.andL [.op .eq [.op .len [.var 1], .cI 2], .isi (.op .ix [.var 1, .cI 1]) [.tuple], .op .ne [.op .ix [.var 1, .cI 1], .tup []]]) [.par [7, 8] [.call 0 [.var 0, .op .len [.op .ix [.var 1, .cI 1]]], .call 0 [.var 0, .op .len [.op .ix [.var 1, .cI 1]]]], .ret (.tup [.op .ix [.var 1, .cI 0], .op .add [.op .add [.op (.slice false true) [.op .ix [.var 1, .cI 1], .var 7], .slc (.op .ix [.var 1, .cI 1]) (.var 8) (.op .add [.var 8, .cI 1])], .op (.slice true false) [.op .ix [.var 1, .cI 1], .op .add [.var 7, .cI 1]]]])] [] ::
        [.ret (.ife (.andL [.op .gt [.var 7, .cI 0], .op .gt [.var 8, .cI 0]]) (.op .add [.op .add [.op (.slice false true) [.var 1, .var 7], .slc (.var 1) (.var 8) (.op .add [.var 8, .cI 1])], .op (.slice true false) [.var 1, .op .add [.var 7, .cI 1]]]) (.var 1))])
        ⟨[some (.st, false), some (.tup xs, false), some (.lst (is.map D.int), false), some (.int pick, false), none, none, none, none, none], w1⟩) = .ok d w' ∧ gd (k + 1) d = true
      rw [exs_next (s' := ⟨[some (.st, false), some (.tup xs, false), some (.lst (is.map D.int), false), some (.int pick, false), none, none, none, some (.int a, false), some (.int b, false)], w3⟩) (by
        simp [cx, ex, evps, ev, evs, evc, bnd, Opd.d, tr, opD, outR, oneR, consume, callR, lenD, cA, cB, part, setAll])]
      have last : ∃ d w', endR (exs cx [.ret (.ife (.andL [.op .gt [.var 7, .cI 0], .op .gt [.var 8, .cI 0]]) (.op .add [.op .add [.op (.slice false true) [.var 1, .var 7], .slc (.var 1) (.var 8) (.op .add [.var 8, .cI 1])], .op (.slice true false) [.var 1, .op .add [.var 7, .cI 1]]]) (.var 1))] ⟨[some (.st, false), some (.tup xs, false), some (.lst (is.map D.int), false), some (.int pick, false), none, none, none, some (.int a, false), some (.int b, false)], w3⟩) = .ok d w' ∧ gd (k + 1) d = true := by
        have m1 := cutL_len xs none (some a)
        have m2 := cutL_len xs (some b) (some (b + 1))
        have m3 := cutL_len xs (some (a + 1)) none
        have s1 := aa (cutL xs none (some a)) (cutL xs (some b) (some (b + 1))) (by omega) (by omega)
        have s2 := aa (cutL xs none (some a) ++ cutL xs (some b) (some (b + 1))) (cutL xs (some (a + 1)) none) (by simp; omega) (by omega)
        by_cases hab : a > 0 ∧ b > 0
        · refine ⟨.tup (cutL xs none (some a) ++ cutL xs (some b) (some (b + 1)) ++ cutL xs (some (a + 1)) none), w3, ?_, gd_tup (gds_app (gds_app (gds_cut hg) (gds_cut hg)) (gds_cut hg)) (by simp; omega)⟩
          have z1 : 0 < a := hab.1
          have z2 : 0 < b := hab.2
          rw [exs_ret (d := .tup (cutL xs none (some a) ++ cutL xs (some b) (some (b + 1)) ++ cutL xs (some (a + 1)) none)) (s' := ⟨[some (.st, false), some (.tup xs, false), some (.lst (is.map D.int), false), some (.int pick, false), none, none, none, some (.int a, false), some (.int b, false)], w3⟩)]
          · rfl
          · simp only [ex, ev, evs, evAnd, bnd, Opd.d, tr, opD, outR, oneR, consume, cmpI, i2, z1, z2, decide_true, truthD, sliceD, hcd, ad, s1, s2, List.getElem?_cons_zero, List.getElem?_cons_succ, Bool.false_eq_true, if_false, if_true]
        · refine ⟨.tup xs, w3, ?_, gd_tup hg (by omega)⟩
          by_cases z1 : 0 < a
          · have z2 : ¬ 0 < b := fun h => hab ⟨z1, h⟩
            simp [exs, ex, ev, evs, evAnd, bnd, Opd.d, tr, opD, outR, oneR, consume, cmpI, i2, z1, z2, truthD, endR]
          · simp [exs, ex, ev, evs, evAnd, bnd, Opd.d, tr, opD, outR, oneR, consume, cmpI, i2, z1, truthD, endR]
      by_cases hz2 : ∃ x0 zs, xs = [x0, .tup zs] ∧ zs ≠ []
      · obtain ⟨x0, zs, rfl, hzs⟩ := hz2
        have hzl : zs.length ≤ 800000 := by
          have := szDs_len zs
          simp only [szDs, szD] at hz
          omega
        have sh2 : shp k x0 = true ∧ shp k (.tup zs) = true := by
          simp only [shps, Bool.and_eq_true] at hsh
          exact ⟨hsh.1, hsh.2.1⟩
        have hze : zs.isEmpty = false := by cases zs <;> simp_all
        have z64 : shp 64 (.tup zs) = true := shp_le sh2.2 (by omega)
        have pz : (0 : Int) < (zs.length : Int) := by
          have : zs.length ≠ 0 := by simpa using hzs
          omega
        have a0 : atI [x0, D.tup zs] 0 = some x0 := by rfl
        have a1 : atI [x0, D.tup zs] 1 = some (.tup zs) := by rfl
        have z64' : shps 63 zs = true := by simpa [shp] using z64
        have hzn : eqDs zs [] = false := by cases zs <;> simp_all [eqDs]
        have ht : ev cx true (.andL [.op .eq [.op .len [.var 1], .cI 2], .isi (.op .ix [.var 1, .cI 1]) [.tuple], .op .ne [.op .ix [.var 1, .cI 1], .tup []]]) ⟨[some (.st, false), some (.tup [x0, .tup zs], false), some (.lst (is.map D.int), false), some (.int pick, false), none, none, none, some (.int a, false), some (.int b, false)], w3⟩ = .ok (.val (.bl true)) ⟨[some (.st, false), some (.tup [x0, .tup zs], false), some (.lst (is.map D.int), false), some (.int pick, false), none, none, none, some (.int a, false), some (.int b, false)], w3⟩ := by
          simp [ev, evs, evc, evAnd, bnd, Opd.d, tr, opD, outR, oneR, consume, lenD, eqB, shp, shps, eqD, truthD, ixD, a1, isTys, isTy, z64', hzn, LN]
        have cC := nx w3 (zs.length : Int) pz (by omega)
        generalize (nextW w3 (zs.length : Int)).2 = w4 at cC
        generalize (nextW w3 (zs.length : Int)).1 = a' at cC
        have cD := nx w4 (zs.length : Int) pz (by omega)
        generalize (nextW w4 (zs.length : Int)).2 = w5 at cD
        generalize (nextW w4 (zs.length : Int)).1 = b' at cD
        have m1 := cutL_len zs none (some a')
        have m2 := cutL_len zs (some b') (some (b' + 1))
        have m3 := cutL_len zs (some (a' + 1)) none
        have s1 := aa (cutL zs none (some a')) (cutL zs (some b') (some (b' + 1))) (by omega) (by omega)
        have s2 := aa (cutL zs none (some a') ++ cutL zs (some b') (some (b' + 1))) (cutL zs (some (a' + 1)) none) (by simp; omega) (by omega)
        have hcz : ∀ lo hi, cutD (.tup zs) lo hi = some (.v (.tup (cutL zs lo hi))) := fun _ _ => rfl
        rw [exs_ret (d := .tup [x0, .tup (cutL zs none (some a') ++ cutL zs (some b') (some (b' + 1)) ++ cutL zs (some (a' + 1)) none)]) (s' := ⟨[some (.st, false), some (.tup [x0, .tup zs], false), some (.lst (is.map D.int), false), some (.int pick, false), none, none, none, some (.int a', false), some (.int b', false)], w5⟩)]
        · refine ⟨_, _, rfl, ?_⟩
          have g2 : gd k x0 = true ∧ gd k (.tup zs) = true := by
            simp only [gds, Bool.and_eq_true] at hg
            exact ⟨hg.1, hg.2.1⟩
          refine gd_tup ?_ (by simp)
          simp only [gds, Bool.and_true, Bool.and_eq_true]
          refine ⟨g2.1, ?_⟩
          cases k with
          | zero => simp [shp] at sh2
          | succ k' =>
            have hz' : gds k' zs = true := by
              have := g2.2
              simp only [gd, Bool.and_eq_true] at this
              exact this.2
            exact gd_tup (gds_app (gds_app (gds_cut hz') (gds_cut hz')) (gds_cut hz')) (by simp; omega)
        · rw [ex_t ht rfl, exs_next (s' := ⟨[some (.st, false), some (.tup [x0, .tup zs], false), some (.lst (is.map D.int), false), some (.int pick, false), none, none, none, some (.int a', false), some (.int b', false)], w5⟩) (by
            simp [cx, ex, evps, ev, evs, evc, bnd, Opd.d, tr, opD, outR, oneR, consume, callR, lenD, ixD, a1, cC, cD, part, setAll])]
          refine exs_ret ?_
          simp only [cx, ex, ev, evs, evc, bnd, Opd.d, tr, opD, outR, oneR, consume, ixD, a0, a1, sliceD, hcz, ad, s1, s2, List.getElem?_cons_zero, List.getElem?_cons_succ, Bool.false_eq_true, if_false, if_true, Option.map_some, List.length_cons, List.length_nil, LN, Nat.reduceAdd, Nat.reduceLeDiff]
      · rw [exs_next (s' := ⟨[some (.st, false), some (.tup xs, false), some (.lst (is.map D.int), false), some (.int pick, false), none, none, none, some (.int a, false), some (.int b, false)], w3⟩)]
        · exact last
        · rw [ex_f (o := .val (.bl false)) (s' := ⟨[some (.st, false), some (.tup xs, false), some (.lst (is.map D.int), false), some (.int pick, false), none, none, none, some (.int a, false), some (.int b, false)], w3⟩)]
          · rfl
          · match xs, hx, hz2, h64 with
            | [x0], _, _, _ => simp [ev, evs, evAnd, bnd, Opd.d, tr, opD, outR, lenD, eqB, shp, eqD, truthD]
            | x0 :: x1 :: x2 :: r, _, _, _ =>
              have e : (((r.length : Int) + 1 + 1 + 1) == 2) = false := beq_false_of_ne (by omega)
              simp [ev, evs, evAnd, bnd, Opd.d, tr, opD, outR, lenD, eqB, shp, eqD, truthD, e]
            | [x0, x1], hxx, hz2, h64 =>
              have a1 : atI [x0, x1] 1 = some x1 := by rfl
              have sx : shp 63 x1 = true := by
                simp only [shps, Bool.and_eq_true] at h64
                exact h64.2.1
              cases x1 <;> first
                | (simp [shp] at sx; done)
                | (simp [ev, evs, evAnd, bnd, Opd.d, tr, opD, outR, lenD, eqB, shp, eqD, truthD, ixD, a1, isTys, isTy]; done)
                | skip
              rename_i zs
              have : zs = [] := by
                by_cases h : zs = []
                · exact h
                · exact absurd ⟨x0, zs, rfl, h⟩ hz2
              subst this
              simp [ev, evs, evc, evAnd, bnd, Opd.d, tr, opD, outR, lenD, eqB, shp, shps, eqD, eqDs, truthD, ixD, a1, isTys, isTy, LN]
          · rfl
end MP
set_option Elab.async false
set_option linter.all false
set_option maxRecDepth 100000
/-! How the shared small forms run: _law_odd. -/
namespace MP
open PySem L2

/-- the defs that _law_odd needs -/
structure OddT (T : Tab) : Prop where
  h2 : T.fn 2 = some fdLawChanged
  h3 : T.fn 3 = some fdLawCut
  h4 : T.fn 4 = some fdLawExchanged
  h5 : T.fn 5 = some fdLawInts
  h7 : T.fn 7 = some fdLawOdd
  h10 : T.fn 10 = some fdLawTurnedAbout
/-- good data that may be asked about -/
def okG (d : D) : Prop := gd 64 d = true ∨ ∃ kvs, d = .dct kvs
theorem okG.okA {d : D} (h : okG d) : okA d := h.imp gd_shp id
theorem gd_up : ∀ {n : Nat} {d : D}, gd n d = true → gd (n + 1) d = true
  | n, .non, _ => by simp [gd]
  | n, .bl _, _ => by simp [gd]
  | n, .int _, h => by simpa [gd] using h
  | n, .str s, h => by simpa [gd] using h
  | 0, .lst xs, h => by simp [gd] at h
  | 0, .tup xs, h => by simp [gd] at h
  | n + 1, .lst xs, h => by
    simp only [gd, Bool.and_eq_true] at h ⊢
    exact ⟨h.1, gds_up h.2⟩
  | n + 1, .tup xs, h => by
    simp only [gd, Bool.and_eq_true] at h ⊢
    exact ⟨h.1, gds_up h.2⟩
  | n, .dct _, h => by simp [gd] at h
  | n, .st, h => by simp [gd] at h
  | n, .err _, h => by simp [gd] at h
where
  gds_up : ∀ {n : Nat} {xs : List D}, gds n xs = true → gds (n + 1) xs = true
  | _, [], _ => rfl
  | n, x :: r, h => by
    simp only [gds, Bool.and_eq_true] at h ⊢
    exact ⟨gd_up h.1, gds_up h.2⟩
theorem gd_le {n m : Nat} {d : D} (h : gd n d = true) (hm : n ≤ m) : gd m d = true := by
  induction hm with
  | refl => exact h
  | step _ ih => exact gd_up ih
theorem okG_le {k : Nat} {d : D} (h : gd k d = true) (hk : k ≤ 64) : okG d := .inl (gd_le h hk)
theorem okA_le {k : Nat} {d : D} (h : shp k d = true) (hk : k ≤ 64) : okA d := .inl (shp_le h hk)
theorem odd_run {T : Tab} (O : OddT T) {k n : Nat} {xs : List D} {w : W} (hk : k ≤ 50) (hx : xs ≠ []) (hsh : shps k xs = true) (hp : plBs xs = true) (hz : szDs xs ≤ 800000) (hb : intBs 1000 xs = true) :
    ∃ d w', callF T (k + 5 + n) 7 [.st, .tup xs] w = .ok d w' ∧ okG d := by
  rw [show k + 5 + n = (k + 4 + n) + 1 by omega, callF_eq (by decide) O.h7 (by rfl)]
  have nx : ∀ (w : W) (lim : Int), 0 < lim → lim < 1000000 → callF T (k + 4 + n) 0 [.st, .int lim] w = .ok (.int (nextW w lim).1) (nextW w lim).2 := fun w lim h1 h2 => by
    rw [show k + 4 + n = (k + 3 + n) + 1 by omega]
    exact next_call h1 h2
  have hlx := szDs_len xs
  have hg : gds k xs = true := gds_by hsh hb (by omega)
  have h60 : gds 60 xs = true := gds_of fun x hx => gd_le (gds_mem hg x hx) (by omega)
  obtain ⟨x0, r, rfl⟩ : ∃ x0 r, xs = x0 :: r := by
    cases xs with
    | nil => exact absurd rfl hx
    | cons a b => exact ⟨a, b, rfl⟩
  generalize hxs : x0 :: r = xs at *
  have a0 : atI xs 0 = some x0 := by rw [← hxs]; simp [atI, ixN]
  have s0 : gd 60 x0 = true := gds_mem h60 x0 (by rw [← hxs]; exact List.mem_cons_self)
  have hcd : ∀ lo hi, cutD (.tup xs) lo hi = some (.v (.tup (cutL xs lo hi))) := fun _ _ => rfl
  have l1 := cutL_len xs (some 1) none
  have e1 : addD [.tup xs, .tup [.int 0]] = some (.v (.tup (xs ++ [.int 0]))) := addT (by simp; omega)
  have e2 : addD [.tup [.lst [x0]], .tup (cutL xs (some 1) none)] = some (.v (.tup ([.lst [x0]] ++ cutL xs (some 1) none))) := addT (by simp; omega)
  have e3 : addD [.tup [.str "none such"], .tup (cutL xs (some 1) none)] = some (.v (.tup ([.str "none such"] ++ cutL xs (some 1) none))) := addT (by simp; omega)
  have q1 : gds 60 (cutL xs (some 1) none) = true := gds_cut h60
  have q2 : gds 60 (cutL xs none (some 1)) = true := gds_cut h60
  have l2 := cutL_len xs none (some 1)
  have up : ∀ {ys : List D}, gds 60 ys = true → ys.length ≤ 8000000 → okG (.tup ys) := fun h hl => okG_le (k := 61) (gd_tup h hl) (by decide)
  have hall : ∀ z ∈ ([.non, .str "", .str "yes", .dct [], .tup [], .tup (cutL xs none (some 1)), .lst xs, .tup (xs ++ [.int 0]), .tup ([.lst [x0]] ++ cutL xs (some 1) none), .tup ([.str "none such"] ++ cutL xs (some 1) none), .int 7] : List D), okG z := by
    intro z hz
    simp only [List.mem_cons, List.not_mem_nil, or_false] at hz
    rcases hz with rfl | rfl | rfl | rfl | rfl | rfl | rfl | rfl | rfl | rfl | rfl
    · exact .inl (by simp [gd])
    · exact .inl (by simp [gd, sOk_of])
    · exact .inl (by simp [gd, sOk_of])
    · exact .inr ⟨_, rfl⟩
    · exact .inl (gd_tup rfl (by simp))
    · exact up q2 (by omega)
    · exact okG_le (k := 61) (gd_lst h60 (by omega)) (by decide)
    · exact up (gds_app h60 (by simp only [gds, Bool.and_true]; exact gd_int (by decide +kernel))) (by simp; omega)
    · refine okG_le (k := 62) (gd_tup (gds_app ?_ (gds_of fun x hx => gd_up (gds_mem q1 x hx))) (by simp; omega)) (by decide)
      simp only [gds, Bool.and_true]
      exact gd_lst (by simp [gds, s0]) (by simp)
    · exact up (gds_app (by simp [gds, gd, sOk_of]) q1) (by simp; omega)
    · exact .inl (gd_int (by decide +kernel))
  let cx : Cxt := ⟨callF T (k + 4 + n), T.gl⟩
  have c9 := nx w 9 (by decide) (by decide)
  generalize (nextW w 9).2 = w1 at c9
  generalize (nextW w 9).1 = pick at c9
  show ∃ d w', endR (exs cx (.asg (.nm 2) (.lst [.cN, .cS "", .cS "yes", .dnew, .tup [], .op (.slice false true) [.var 1, .cI 1], .op .lstL [.var 1], .op .add [.var 1, .tup [.cI 0]], .op .add [.tup [.lst [.op .ix [.var 1, .cI 0]]], .op (.slice true false) [.var 1, .cI 1]], .op .add [.tup [.cS "none such"], .op (.slice true false) [.var 1, .cI 1]], .cI 7]) ::
    .asg (.nm 3) (.call 0 [.var 0, .cI 9]) :: .ife (.op .gt [.var 3, .cI 4]) [.ret (.call 10 [.var 0, .var 1])] [] ::
    [.ret (.ife (.op .eq [.var 3, .cI 0]) (.op .ix [.var 2, .call 0 [.var 0, .op .len [.var 2]]]) (.call 2 [.var 0, .var 1]))]) ⟨[some (.st, false), some (.tup xs, false), none, none], w⟩) = .ok d w' ∧ okG d
  generalize hL : ([.non, .str "", .str "yes", .dct [], .tup [], .tup (cutL xs none (some 1)), .lst xs, .tup (xs ++ [.int 0]), .tup ([.lst [x0]] ++ cutL xs (some 1) none), .tup ([.str "none such"] ++ cutL xs (some 1) none), .int 7] : List D) = L at *
  have l11 : L.length = 11 := by rw [← hL]; rfl
  rw [exs_next (s' := ⟨[some (.st, false), some (.tup xs, false), some (.lst L, true), none], w⟩) (by
      rw [← hL]
      simp only [cx, ex, ev, evs, evc, bnd, Opd.d, opD, outR, tr, oneR, consume, sliceD, hcd, lstD, ixD, a0, e1, e2, e3, List.getElem?_cons_zero, List.getElem?_cons_succ, Bool.false_eq_true, if_false, Option.map_some, List.length_cons, List.length_nil, LN, Nat.reduceAdd, Nat.reduceLeDiff, if_true, Nat.reduceLT, bindNm, isObjD, List.set]),
    exs_next (s' := ⟨[some (.st, false), some (.tup xs, false), some (.lst L, true), some (.int pick, false)], w1⟩) (by
      simp [cx, ex, ev, evs, evc, bnd, Opd.d, tr, oneR, consume, callR, c9, bindNm])]
  by_cases h4 : 4 < pick
  · obtain ⟨d, w', c, hd⟩ := turned_run (n := n) O.h5 O.h4 O.h3 O.h10 hk hx hsh hz hb (w := w1)
    refine ⟨d, w', ?_, okG_le hd (by omega)⟩
    simp [cx, exs, ex, ev, evs, evc, bnd, isBl, Opd.d, opD, outR, tr, oneR, consume, callR, cmpI, i2, h4, c, truthD, endR]
  · by_cases h0 : pick = 0
    · obtain ⟨z, z1, z2⟩ := draw_at w1 (xs := L) (by intro e; rw [e] at l11; cases l11)
      have c3 := nx w1 (L.length : Int) (by omega) (by omega)
      refine ⟨z, (nextW w1 (L.length : Int)).2, ?_, hall z z1⟩
      simp [cx, exs, ex, ev, evs, evc, bnd, isBl, Opd.d, opD, outR, tr, oneR, consume, callR, cmpI, i2, h4, truthD, endR, eqB, shp, eqD, h0, lenD, c3, ixD, z2]
    · have e0 : (pick == 0) = false := beq_false_of_ne h0
      obtain ⟨d, w', c, hd⟩ := changed_run O.h2 (k + 1) (.tup xs) (n + 1) w1 (by simpa [shp] using hsh) (by omega) (by simpa [plB] using hp) (by simp only [szD]; omega) (by simpa [intB] using hb)
      rw [show k + 1 + 2 + (n + 1) = k + 4 + n by omega] at c
      refine ⟨d, w', ?_, okG_le hd (by omega)⟩
      simp [cx, exs, ex, ev, evs, evc, bnd, isBl, Opd.d, opD, outR, tr, oneR, consume, callR, cmpI, i2, h4, truthD, endR, eqB, shp, eqD, e0, c]
end MP
set_option Elab.async false
set_option linter.all false
set_option maxRecDepth 100000
/-! The frame that most laws share: told, nearby, the look, what is refused, other things. -/
namespace MP
open PySem L2

def At (E : Env) (i : Nat) (v : D) : Prop := E[i]? = some (some (v, false))
theorem At.lt {E : Env} {i : Nat} {v : D} (h : At E i v) : i < E.length := (List.getElem?_eq_some_iff.mp h).1
theorem At.set {E : Env} {i j : Nat} {v : D} {x : Option (D × Bool)} (h : At E i v) (hj : j ≠ i) : At (E.set j x) i v := by
  unfold At at *
  rw [List.getElem?_set_ne hj]
  exact h
theorem At.new {E : Env} {i : Nat} {v : D} (h : i < E.length) : At (E.set i (some (v, false))) i v := by
  unfold At
  rw [List.getElem?_set_self h]
inductive Ats (E : Env) : List Nat → List D → Prop
  | nil : Ats E [] []
  | cons {i v is vs} : At E i v → Ats E is vs → Ats E (i :: is) (v :: vs)
theorem Ats.set {E : Env} {is : List Nat} {vs : List D} {j : Nat} {x : Option (D × Bool)} (h : Ats E is vs) (hj : j ∉ is) : Ats (E.set j x) is vs := by
  induction h with
  | nil => exact .nil
  | cons a _ ih =>
    simp only [List.mem_cons, not_or] at hj
    exact .cons (a.set hj.1) (ih hj.2)
theorem Ats.app {E : Env} {is : List Nat} {vs : List D} {j : Nat} {v : D} (h : Ats E is vs) (a : At E j v) : Ats E (is ++ [j]) (vs ++ [v]) := by
  induction h with
  | nil => exact .cons a .nil
  | cons b _ ih => exact .cons b ih
section
variable {F : Nat → List D → MP.W → CR} {G : Nat → Option D}
theorem ev_at {m : Bool} {E : Env} {w : MP.W} {i : Nat} {v : D} (h : At E i v) : ev ⟨F, G⟩ m (.var i) ⟨E, w⟩ = tr m (.val v) ⟨E, w⟩ := by
  unfold At at h
  simp [ev, h]
theorem evc_at {E : Env} {w : MP.W} {is : List Nat} {vs : List D} (h : Ats E is vs) : evc ⟨F, G⟩ (is.map .var) ⟨E, w⟩ = .ok vs ⟨E, w⟩ := by
  induction h with
  | nil => simp [evc]
  | cons a _ ih => simp [evc, ev_at a, tr, bnd, oneR, consume, ih]
theorem evc_len {E : Env} {is : List Nat} {vs : List D} (h : Ats E is vs) : is.length = vs.length := by
  induction h with
  | nil => rfl
  | cons _ _ ih => simp [ih]
theorem ev_call {m : Bool} {es : List ME} {f : Nat} {E E' : Env} {w w1 w2 : MP.W} {ds : List D} {d : D} (h : evc ⟨F, G⟩ es ⟨E, w⟩ = .ok ds ⟨E', w1⟩) (c : F f ds w1 = .ok d w2) : ev ⟨F, G⟩ m (.call f es) ⟨E, w⟩ = tr m (.val d) ⟨E', w2⟩ := by
  simp [ev, h, bnd, callR, c]
theorem ex_call {t f : Nat} {es : List ME} {E E' : Env} {w w1 w2 : MP.W} {ds : List D} {d : D} (h : evc ⟨F, G⟩ es ⟨E, w⟩ = .ok ds ⟨E', w1⟩) (c : F f ds w1 = .ok d w2) (ht : t < E'.length) : ex ⟨F, G⟩ (.asg (.nm t) (.call f es)) ⟨E, w⟩ = .ok .next ⟨E'.set t (some (d, false)), w2⟩ := by
  simp [ex, ev_call h c, tr, bnd, ht, bindNm]
/-- not a call that says True -/
theorem not_true {m : Bool} {es : List ME} {f : Nat} {E : Env} {w w1 : MP.W} {ds : List D} {b : Bool} (h : evc ⟨F, G⟩ es ⟨E, w⟩ = .ok ds ⟨E, w⟩) (c : F f ds w = .ok (.bl b) w1) : ev ⟨F, G⟩ m (.not (.call f es)) ⟨E, w⟩ = .ok (.val (.bl (!b))) ⟨E, w1⟩ := by
  simp [ev, h, bnd, callR, c, tr, truthD, Opd.d]
def tailStd (ins news : List Nat) (t k a jud M : Nat) : List MS :=
  [.asg (.nm 2) (.op .add [.op (.slice true false) [.var 2, .op .neg [.cI 3]], .lst (news.map .var)]),
   .forS (.nm k) (.rng1 (.op .add [.cI M, .op .len [.var 2]])) [.asg (.nm a) (.ife (.op .lt [.var k, .cI M]) (.call 7 [.var 1, .var t]) (.op .ix [.var 2, .op .sub [.var k, .cI M]])),
     .ife (.not (.call 8 [.call jud ((ins ++ [a]).map .var), .call 1 ((ins ++ [a]).map .var)])) [.ret (.cB false)] []]]
def lookStd (ins : List Nat) (t jud : Nat) : MS := .ife (.orL [.not (.call 1 ((ins ++ [t]).map .var)), .op .isn [.call jud ((ins ++ [t]).map .var), .cB true]]) [.ret (.cB false)] []
structure Good (L : Nat) (E : Env) (S : List D) : Prop where
  len : E.length = L
  st : At E 1 .st
  seen : E[2]? = some (some (.lst S, true))
  ok : ∀ d ∈ S, okG d
theorem Good.set {L : Nat} {E : Env} {S : List D} {j : Nat} {x : Option (D × Bool)} (h : Good L E S) (hj : 3 ≤ j) : Good L (E.set j x) S :=
  ⟨by rw [List.length_set]; exact h.len, h.st.set (by omega), by rw [List.getElem?_set_ne (by omega)]; exact h.seen, h.ok⟩
theorem ret_false {c : ME} {E : Env} {w w' : MP.W} (h : ev ⟨F, G⟩ true c ⟨E, w⟩ = .ok (.val (.bl false)) ⟨E, w'⟩) : ex ⟨F, G⟩ (.ife c [.ret (.cB false)] []) ⟨E, w⟩ = .ok .next ⟨E, w'⟩ := by
  rw [ex_f h rfl]
  rfl
/-- the look at what is told -/
theorem look_ok {ins : List Nat} {vals : List D} {t jud : Nat} {d : D} {E : Env} {w : MP.W} (hi : Ats E ins vals) (ht : At E t d) (h1 : F 1 (vals ++ [d]) w = .ok (.bl true) w) (h2 : F jud (vals ++ [d]) w = .ok (.bl true) w) : ex ⟨F, G⟩ (lookStd ins t jud) ⟨E, w⟩ = .ok .next ⟨E, w⟩ := by
  refine ret_false ?_
  have e := evc_at (F := F) (G := G) (w := w) (hi.app ht)
  generalize (ins ++ [t]).map ME.var = q at e ⊢
  simp [ev, evs, evOr, e, bnd, callR, h1, h2, tr, truthD, Opd.d, opD, outR, isB]
/-- the law's loop over other things -/
theorem tail_ok {L : Nat} {E : Env} {S : List D} {w : MP.W} {ins news : List Nat} {vals nd : List D} {t k a jud M : Nat} {told : D} (A : D → Bool) (g : Good L E S) (hS : S.length ≤ 900) (hi : Ats E ins vals) (hn : Ats E news nd) (hnl : nd.length ≤ 3) (hok : ∀ d ∈ nd, okG d) (ht : At E t told)
    (k3 : 3 ≤ k) (a3 : 3 ≤ a) (hk : k < L) (ha : a < L) (hka : k ≠ a) (hki : k ∉ ins) (hai : a ∉ ins) (h2i : 2 ∉ ins) (hkt : k ≠ t) (hat : a ≠ t) (h2t : t ≠ 2) (hM : M ≤ 100)
    (jd : ∀ (w : MP.W) (x : D), okG x → F jud (vals ++ [x]) w = .ok (.bl (A x)) w) (ac : ∀ (w : MP.W) (x : D), okG x → F 1 (vals ++ [x]) w = .ok (.bl (A x)) w)
    (od : ∀ (w : MP.W), ∃ d w', F 7 [.st, told] w = .ok d w' ∧ okG d) (sm : ∀ (w : MP.W) (b : Bool), F 8 [.bl b, .bl b] w = .ok (.bl true) w) :
    ∃ E' S' w', exs ⟨F, G⟩ (tailStd ins news t k a jud M) ⟨E, w⟩ = .ok .next ⟨E', w'⟩ ∧ Good L E' S' ∧ S'.length ≤ S.length + 3 := by
  have hcl := cutL_len S (some (-3)) none
  have hSS : ∀ d ∈ cutL S (some (-3)) none ++ nd, okG d := by
    intro d hd
    rcases List.mem_append.mp hd with h | h
    · exact g.ok d (cutL_mem h)
    · exact hok d h
  have al : addD [.lst (cutL S (some (-3)) none), .lst nd] = some (.f (.lst (cutL S (some (-3)) none ++ nd))) := addL (by omega)
  let SS := cutL S (some (-3)) none ++ nd
  have SSl : SS.length ≤ S.length + 3 := by show (_ ++ _ : List D).length ≤ _; rw [List.length_append]; omega
  let E1 := E.set 2 (some (.lst SS, true))
  have g2 : 2 < E.length := (List.getElem?_eq_some_iff.mp g.seen).1
  have gL : E.length = L := g.len
  have e1 : ex ⟨F, G⟩ (.asg (.nm 2) (.op .add [.op (.slice true false) [.var 2, .op .neg [.cI 3]], .lst (news.map .var)])) ⟨E, w⟩ = .ok .next ⟨E1, w⟩ := by
    have ev2 : evc ⟨F, G⟩ (news.map .var) ⟨E, w⟩ = .ok nd ⟨E, w⟩ := evc_at hn
    have hl2 : nd.length ≤ LN := Nat.le_trans hnl (by decide)
    generalize news.map ME.var = q at ev2 ⊢
    have gs := g.seen
    simp only [ex, ev, evs, ev2, hl2, gs, bnd, Opd.d, tr, opD, outR, oneR, consume, negD, sliceD, cutD, al, bindNm, isObjD, Bool.false_eq_true, if_false, if_true, g2]
    rfl
  have G1 : Good L E1 SS := ⟨by show (E.set 2 _).length = L; rw [List.length_set]; exact gL, g.st.set (by decide), List.getElem?_set_self g2, hSS⟩
  have hi1 : Ats E1 ins vals := hi.set h2i
  have ht1 : At E1 t told := ht.set (Ne.symm h2t)
  let body : List MS := [.asg (.nm a) (.ife (.op .lt [.var k, .cI M]) (.call 7 [.var 1, .var t]) (.op .ix [.var 2, .op .sub [.var k, .cI M]])),
     .ife (.not (.call 8 [.call jud ((ins ++ [a]).map .var), .call 1 ((ins ++ [a]).map .var)])) [.ret (.cB false)] []]
  have step : ∀ (done : List D) (d : D) (rest : List D) (s : MP.S), rangeD 0 ((M + SS.length : Nat) : Int) = done ++ d :: rest → (Good L s.env SS ∧ Ats s.env ins vals ∧ At s.env t told) → ∃ (env1 : Env) (s' : MP.S), asgT (.nm k) d s.env = some env1 ∧
      (exs ⟨F, G⟩ body ⟨env1, s.w⟩ = .ok .next s' ∨ exs ⟨F, G⟩ body ⟨env1, s.w⟩ = .ok .cnt s') ∧ (Good L s'.env SS ∧ Ats s'.env ins vals ∧ At s'.env t told) := by
    rintro done d rest ⟨E2, w2⟩ hd ⟨G2, i2, t2⟩
    have hdm : d ∈ rangeD 0 ((M + SS.length : Nat) : Int) := by rw [hd]; simp
    rw [rangeD0] at hdm
    obtain ⟨j, hj, rfl⟩ := List.mem_map.mp hdm
    have hj := List.mem_range.mp hj
    have lk : k < E2.length := by rw [G2.len]; exact hk
    refine ⟨E2.set k (some (.int (j : Int), false)), ?_⟩
    have G3 : Good L (E2.set k (some (.int (j : Int), false))) SS := G2.set k3
    have i3 : Ats (E2.set k (some (.int (j : Int), false))) ins vals := i2.set hki
    have t3 : At (E2.set k (some (.int (j : Int), false))) t told := t2.set hkt
    have k3' : At (E2.set k (some (.int (j : Int), false))) k (.int (j : Int)) := At.new lk
    have asg : asgT (.nm k) (.int (j : Int)) E2 = some (E2.set k (some (.int (j : Int), false))) := by simp [asgT, lk]
    generalize hE3 : E2.set k (some (.int (j : Int), false)) = E3 at *
    have la : a < E3.length := by rw [G3.len]; exact ha
    have pick : ∃ x w3, okG x ∧ ex ⟨F, G⟩ (.asg (.nm a) (.ife (.op .lt [.var k, .cI M]) (.call 7 [.var 1, .var t]) (.op .ix [.var 2, .op .sub [.var k, .cI M]]))) ⟨E3, w2⟩ = .ok .next ⟨E3.set a (some (x, false)), w3⟩ := by
      have q1 := G3.st
      have q2 := G3.seen
      unfold At at q1 k3' t3
      by_cases h4 : (j : Int) < (M : Int)
      · obtain ⟨x, w3, o1, o2⟩ := od w2
        refine ⟨x, w3, o2, ?_⟩
        simp [ex, ev, evs, evc, bnd, Opd.d, tr, opD, outR, cmpI, MP.i2, h4, truthD, oneR, consume, callR, o1, bindNm, q1, k3', t3, la]
      · have hlt : j - M < SS.length := by omega
        have e : (j : Int) - (M : Int) = ((j - M : Nat) : Int) := by omega
        have ha2 := atI_nat hlt
        rw [← e] at ha2
        refine ⟨SS[j - M], w2, hSS _ (List.getElem_mem hlt), ?_⟩
        simp [ex, ev, evs, evc, bnd, Opd.d, tr, opD, outR, cmpI, MP.i2, h4, truthD, oneR, consume, subD, ixD, ha2, bindNm, q2, k3', la]
    obtain ⟨x, w3, ox, px⟩ := pick
    have i4 : Ats (E3.set a (some (x, false))) (ins ++ [a]) (vals ++ [x]) := (i3.set hai).app (At.new la)
    have ee := evc_at (F := F) (G := G) (w := w3) i4
    refine ⟨⟨E3.set a (some (x, false)), w3⟩, asg, .inl ?_, G3.set a3, i3.set hai, t3.set hat⟩
    show exs ⟨F, G⟩ [_, _] _ = _
    rw [exs_next px]
    have j1 := jd w3 x ox
    have j2 := ac w3 x ox
    have s1 := sm w3 (A x)
    have st : ex ⟨F, G⟩ (.ife (.not (.call 8 [.call jud ((ins ++ [a]).map .var), .call 1 ((ins ++ [a]).map .var)])) [.ret (.cB false)] []) ⟨E3.set a (some (x, false)), w3⟩ = .ok .next ⟨E3.set a (some (x, false)), w3⟩ := by
      refine ret_false (not_true (b := true) (ds := [.bl (A x), .bl (A x)]) ?_ s1)
      generalize (ins ++ [a]).map ME.var = q at ee ⊢
      simp [evc, ev, ee, bnd, oneR, callR, j1, j2, tr, consume]
    rw [exs_next st]
    rfl
  obtain ⟨s', e, Gx, ix, tx⟩ := forR_inv _ step (rangeD 0 ((M + SS.length : Nat) : Int)) [] ⟨E1, w⟩ rfl ⟨G1, hi1, ht1⟩
  refine ⟨s'.env, SS, s'.w, ?_, Gx, SSl⟩
  show exs ⟨F, G⟩ [_, _] _ = _
  rw [exs_next e1]
  have e2 : ex ⟨F, G⟩ (.forS (.nm k) (.rng1 (.op .add [.cI M, .op .len [.var 2]])) body) ⟨E1, w⟩ = .ok .next s' := by
    have en : (M : Int) + (SS.length : Int) = ((M + SS.length : Nat) : Int) := by omega
    have q2 := G1.seen
    simp only [ex, evIc, evI, ev, evs, bnd, tr, Opd.d, opD, lenD, addD, outR, Bool.false_eq_true, if_false, if_true, q2, en]
    rw [if_pos (by omega)]
    exact e
  rw [exs_next e2]
  rfl
/-- the law's own loop -/
theorem law_frame {L N : Nat} {turnB : List MS} (hL : 3 < L) (hN : N ≤ 100) (w : MP.W) (turn : ∀ (E : Env) (S : List D) (w : MP.W), Good L E S → S.length ≤ 300 → ∃ E' S' w', exs ⟨F, G⟩ turnB ⟨E, w⟩ = .ok .next ⟨E', w'⟩ ∧ Good L E' S' ∧ S'.length ≤ S.length + 3) :
    ∃ s', exs ⟨F, G⟩ [.asg (.nm 2) (.lst []), .forS (.nm 3) (.rng1 (.cI N)) turnB, .ret (.cB true)] ⟨none :: some (.st, false) :: List.replicate (L - 2) none, w⟩ = .ok (.ret (.bl true)) s' := by
  have l0 : (none :: some (D.st, false) :: List.replicate (L - 2) none : Env).length = L := by simp; omega
  let E1 : Env := (none :: some (D.st, false) :: List.replicate (L - 2) none : Env).set 2 (some (.lst [], true))
  have e1 : ex ⟨F, G⟩ (.asg (.nm 2) (.lst [])) ⟨none :: some (.st, false) :: List.replicate (L - 2) none, w⟩ = .ok .next ⟨E1, w⟩ := by
    have : 2 < L - 2 + 1 + 1 := by omega
    simp [ex, ev, evc, bnd, tr, bindNm, isObjD, LN, E1, this]
  have G1 : Good L E1 [] := ⟨by show (List.set _ _ _).length = _; rw [List.length_set]; exact l0, At.set (j := 2) (by rfl) (by decide), List.getElem?_set_self (by rw [l0]; omega), by simp⟩
  have step : ∀ (done : List D) (d : D) (rest : List D) (s : MP.S), rangeD 0 (N : Int) = done ++ d :: rest → (∃ S, Good L s.env S ∧ S.length ≤ 3 * done.length) → ∃ (env1 : Env) (s' : MP.S), asgT (.nm 3) d s.env = some env1 ∧
      (exs ⟨F, G⟩ turnB ⟨env1, s.w⟩ = .ok .next s' ∨ exs ⟨F, G⟩ turnB ⟨env1, s.w⟩ = .ok .cnt s') ∧ (∃ S, Good L s'.env S ∧ S.length ≤ 3 * (done ++ [d]).length) := by
    rintro done d rest ⟨E, w1⟩ hd ⟨S, g, hS⟩
    have hlen : done.length ≤ 100 := by
      have := congrArg List.length hd
      rw [rangeD0] at this
      simp at this
      omega
    obtain ⟨E', S', w', e, g', hS'⟩ := turn (E.set 3 (some (d, false))) S w1 (g.set (by decide)) (by omega)
    have l3 : 3 < E.length := by rw [g.len]; exact hL
    exact ⟨E.set 3 (some (d, false)), ⟨E', w'⟩, by simp [asgT, l3], .inl e, S', g', by simp; omega⟩
  obtain ⟨s', e, _⟩ := forR_inv _ step (rangeD 0 (N : Int)) [] ⟨E1, w⟩ rfl ⟨[], G1, by simp⟩
  refine ⟨s', ?_⟩
  rw [exs_next e1, exs_next (s' := s')]
  · exact exs_ret (by simp [ex, ev, bnd, tr, oneR, consume])
  · simp only [ex, evIc, evI, ev, bnd, tr, Opd.d, Bool.false_eq_true, if_false]
    rw [if_pos (by omega)]
    exact e
end
end MP
set_option Elab.async false
set_option linter.all false
set_option maxRecDepth 100000
/-! Divisors and fractions. -/
namespace MP
open PySem L2

theorem fmod_neg_side {a b : Int} (h : b < 0) : a.fmod b ≤ 0 ∧ b < a.fmod b := by
  have e := Int.neg_fmod_neg a b
  have hb : 0 < -b := by omega
  have h1 := Int.fmod_nonneg_of_pos (-a) hb
  have h2 := Int.fmod_lt_of_pos (-a) hb
  omega
theorem fmod_natAbs {a b : Int} (hb : b ≠ 0) : (a.fmod b).natAbs < b.natAbs := by
  rcases Int.lt_or_gt_of_ne hb with h | h
  · obtain ⟨h1, h2⟩ := fmod_neg_side (a := a) h
    omega
  · have h1 := Int.fmod_nonneg_of_pos a h
    have h2 := Int.fmod_lt_of_pos a h
    omega
theorem gcd_fmod (a b : Int) : Int.gcd b (a.fmod b) = Int.gcd a b := by
  have e := Int.mul_fdiv_add_fmod a b
  have : a.fmod b = a - b * (a.fdiv b) := by omega
  rw [this, Int.gcd_comm a b]
  exact Int.gcd_sub_mul_left_right b a (a.fdiv b)
/-- two steps halve -/
theorem fmod_half {b r : Int} (hr : r ≠ 0) (hs : (0 < b ∧ 0 ≤ r ∧ r < b) ∨ (b < 0 ∧ r ≤ 0 ∧ b < r)) : 2 * (b.fmod r).natAbs < b.natAbs := by
  rcases hs with ⟨h1, h2, h3⟩ | ⟨h1, h2, h3⟩
  · have hr : 0 < r := by omega
    have m1 := Int.fmod_nonneg_of_pos b hr
    have m2 := Int.fmod_lt_of_pos b hr
    have e := Int.mul_fdiv_add_fmod b r
    have q : 1 ≤ b.fdiv r := by
      rcases Int.lt_or_le (b.fdiv r) 1 with h | h
      · have : r * b.fdiv r ≤ 0 := Int.mul_nonpos_of_nonneg_of_nonpos (by omega) (by omega)
        omega
      · exact h
    have : r * 1 ≤ r * b.fdiv r := Int.mul_le_mul_of_nonneg_left q (by omega)
    omega
  · have hr : r < 0 := by omega
    obtain ⟨m1, m2⟩ := fmod_neg_side (a := b) hr
    have e := Int.mul_fdiv_add_fmod b r
    have q : 1 ≤ b.fdiv r := by
      rcases Int.lt_or_le (b.fdiv r) 1 with h | h
      · have : 0 ≤ r * b.fdiv r := Int.mul_nonneg_of_nonpos_of_nonpos (by omega) (by omega)
        omega
      · exact h
    have : r * b.fdiv r ≤ r * 1 := Int.mul_le_mul_of_nonpos_left (by omega) q
    omega
theorem fmod_side {a b : Int} (hb : b ≠ 0) : (0 < b ∧ 0 ≤ a.fmod b ∧ a.fmod b < b) ∨ (b < 0 ∧ a.fmod b ≤ 0 ∧ b < a.fmod b) := by
  rcases Int.lt_or_gt_of_ne hb with h | h
  · exact .inr ⟨h, fmod_neg_side h⟩
  · exact .inl ⟨h, Int.fmod_nonneg_of_pos a h, Int.fmod_lt_of_pos a h⟩
section
variable {cx : Cxt} {w : MP.W}
abbrev gcdC : S → R Bool := fun s => isBl (ev ⟨cx.run, cx.gl⟩ true (.op .ne [.var 1, .cI 0]) s)
abbrev gcdB : S → R Fl := fun s => exs ⟨cx.run, cx.gl⟩ [.par [0, 1] [.var 1, .op .mod [.var 0, .var 1]]] s
theorem gcd_loop {r : Env} : ∀ (n fuel : Nat) (a b : Int), b.natAbs < 2 ^ n → 2 * n + 1 ≤ fuel → ∃ g : Int, g.natAbs = Int.gcd a b ∧
    whileR (gcdC (cx := cx)) (gcdB (cx := cx)) fuel ⟨some (.int a, false) :: some (.int b, false) :: r, w⟩ = .ok .next ⟨some (.int g, false) :: some (.int 0, false) :: r, w⟩ := by
  have zero : ∀ (fuel : Nat) (a : Int), whileR (gcdC (cx := cx)) (gcdB (cx := cx)) (fuel + 1) ⟨some (.int a, false) :: some (.int 0, false) :: r, w⟩ = .ok .next ⟨some (.int a, false) :: some (.int 0, false) :: r, w⟩ := by
    intro fuel a
    simp [whileR, gcdC, isBl, ev, evs, bnd, tr, Opd.d, opD, outR, eqB, shp, eqD, truthD]
  have one : ∀ (fuel : Nat) (a b : Int), b ≠ 0 → whileR (gcdC (cx := cx)) (gcdB (cx := cx)) (fuel + 1) ⟨some (.int a, false) :: some (.int b, false) :: r, w⟩ = whileR (gcdC (cx := cx)) (gcdB (cx := cx)) fuel ⟨some (.int b, false) :: some (.int (a.fmod b), false) :: r, w⟩ := by
    intro fuel a b hb
    have hb2 : (b == 0) = false := by simpa using hb
    rw [whileR]
    simp [gcdC, gcdB, isBl, ev, evs, bnd, tr, Opd.d, opD, outR, eqB, shp, eqD, truthD, hb2, exs, ex, evps, part, modD, i2, hb, setAll]
  intro n
  induction n with
  | zero =>
    intro fuel a b h1 h2
    have : b = 0 := by omega
    subst this
    obtain ⟨fuel, rfl⟩ : ∃ k, fuel = k + 1 := ⟨fuel - 1, by omega⟩
    exact ⟨a, by simp, zero fuel a⟩
  | succ n ih =>
    intro fuel a b h1 h2
    by_cases hb : b = 0
    · subst hb
      obtain ⟨fuel, rfl⟩ : ∃ k, fuel = k + 1 := ⟨fuel - 1, by omega⟩
      exact ⟨a, by simp, zero fuel a⟩
    · obtain ⟨fuel, rfl⟩ : ∃ k, fuel = k + 2 := ⟨fuel - 2, by omega⟩
      have e1 := one (fuel + 1) a b hb
      by_cases hr : a.fmod b = 0
      · refine ⟨b, ?_, ?_⟩
        · rw [← gcd_fmod, hr]; simp
        · rw [e1, hr]; exact zero fuel b
      · have e2 := one fuel b (a.fmod b) hr
        have hh := fmod_half hr (fmod_side hb)
        have p2 : 2 ^ (n + 1) = 2 * 2 ^ n := by rw [Nat.pow_succ]; omega
        obtain ⟨g, g1, g2⟩ := ih fuel (a.fmod b) (b.fmod (a.fmod b)) (by omega) (by omega)
        refine ⟨g, ?_, by rw [e1, e2]; exact g2⟩
        rw [g1, gcd_fmod, gcd_fmod]
end
section
variable {T : Tab} {n : Nat} {w : MP.W}
theorem gcd_end {cx : Cxt} {a b : Int} (h : b.natAbs < 2 ^ 9000) {rest : List MS} {r : Env} : ∃ g : Int, g.natAbs = Int.gcd a b ∧ exs cx (.whl (.op .ne [.var 1, .cI 0]) [.par [0, 1] [.var 1, .op .mod [.var 0, .var 1]]] :: rest) ⟨some (.int a, false) :: some (.int b, false) :: r, w⟩ = exs cx rest ⟨some (.int g, false) :: some (.int 0, false) :: r, w⟩ := by
  obtain ⟨g, g1, g2⟩ := gcd_loop (cx := cx) (w := w) (r := r) 9000 fuelW a b h (by decide)
  refine ⟨g, g1, exs_next ?_⟩
  simp only [ex]
  exact g2
theorem divisor_run (hT : T.fn 15 = some fdDivisor) {a b : Int} (h : b.natAbs < 2 ^ 9000) : callF T (n + 1) 15 [.int a, .int b] w = .ok (.int (Int.gcd a b : Int)) w := by
  rw [callF_eq (by decide) hT (by rfl)]
  obtain ⟨g, g1, g2⟩ := gcd_end (cx := ⟨callF T n, T.gl⟩) (w := w) (a := a) (b := b) h (rest := [.ret (.op .abs [.var 0])]) (r := [])
  show endR (exs _ (.whl _ _ :: [.ret (.op .abs [.var 0])]) ⟨some (.int a, false) :: some (.int b, false) :: [], w⟩) = _
  rw [g2]
  have e : (if g < 0 then -g else g) = (Int.gcd a b : Int) := by split <;> omega
  simp [exs, ex, ev, evs, bnd, tr, Opd.d, opD, absD, outR, oneR, consume, endR, e]
theorem law_gcd_run (hT : T.fn 13 = some fdLawGcd) {a b : Int} (h : b.natAbs < 2 ^ 9000) : callF T (n + 1) 13 [.int a, .int b] w = .ok (.int (Int.gcd a b : Int)) w := by
  rw [callF_eq (by decide) hT (by rfl)]
  obtain ⟨g, g1, g2⟩ := gcd_end (cx := ⟨callF T n, T.gl⟩) (w := w) (a := a) (b := b) h (rest := [.ret (.ife (.op .gt [.var 0, .cI 0]) (.var 0) (.op .sub [.cI 0, .var 0]))]) (r := [])
  show endR (exs _ (.whl _ _ :: [.ret (.ife (.op .gt [.var 0, .cI 0]) (.var 0) (.op .sub [.cI 0, .var 0]))]) ⟨some (.int a, false) :: some (.int b, false) :: [], w⟩) = _
  rw [g2]
  by_cases hg : 0 < g
  · have e : g = (Int.gcd a b : Int) := by omega
    simp [exs, ex, ev, evs, bnd, tr, Opd.d, opD, cmpI, i2, outR, oneR, consume, endR, truthD, hg]
    rw [e]
  · have e : 0 - g = (Int.gcd a b : Int) := by omega
    simp only [exs, ex, ev, evs, bnd, tr, Opd.d, opD, cmpI, i2, outR, oneR, consume, endR, truthD, subD, hg, decide_false, e, List.getElem?_cons_zero, Bool.false_eq_true, if_false, if_true]
/-! ### fractions -/
def qD (r : Rat) : D := .tup [.int r.num, .int (r.den : Int)]
theorem fdiv_pos {a : Int} {g : Nat} (hg : 0 < g) : a.fdiv (g : Int) = a / (g : Int) := Int.fdiv_eq_ediv_of_nonneg a (by omega)
theorem fdiv_neg' {a : Int} {g : Nat} (hg : 0 < g) : a.fdiv (-(g : Int)) = (-a) / (g : Int) := by
  rw [← fdiv_pos hg, ← Int.neg_fdiv_neg, Int.neg_neg]
theorem ratio_pair {a b : Int} (hb : b ≠ 0) : D.tup [.int (a.fdiv (if b < 0 then -(Int.gcd a b : Int) else (Int.gcd a b : Int))), .int (b.fdiv (if b < 0 then -(Int.gcd a b : Int) else (Int.gcd a b : Int)))] = qD (Rat.divInt a b) := by
  have hg : 0 < Int.gcd a b := Int.gcd_pos_of_ne_zero_right a hb
  unfold qD
  rw [Rat.num_divInt, Rat.den_divInt, if_neg hb, Int.gcd_comm b a]
  by_cases h : b < 0
  · rw [if_pos h, fdiv_neg' hg, fdiv_neg' hg, Int.sign_eq_neg_one_of_neg h]
    have e : ((b.natAbs / Int.gcd a b : Nat) : Int) = (-b) / (Int.gcd a b : Int) := by
      rw [Int.natCast_ediv]
      congr 1
      omega
    rw [e]
    simp
  · rw [if_neg h, fdiv_pos hg, fdiv_pos hg, Int.sign_eq_one_of_pos (by omega)]
    have e : ((b.natAbs / Int.gcd a b : Nat) : Int) = b / (Int.gcd a b : Int) := by
      rw [Int.natCast_ediv]
      congr 1
      omega
    rw [e]
    simp
theorem gcd_bits {a b : Int} (hb : b ≠ 0) (h : b.natAbs < 2 ^ 8000) : Int.gcd a b ≠ 0 ∧ bits (Int.gcd a b : Int) < 9000 ∧ bits (-(Int.gcd a b : Int)) < 9000 := by
  have hg : 0 < Int.gcd a b := Int.gcd_pos_of_ne_zero_right a hb
  have hle : Int.gcd a b ≤ b.natAbs := Nat.le_of_dvd (by omega) (Int.gcd_dvd_natAbs_right a b)
  have p : (2 : Nat) ^ 8000 < 2 ^ 8001 := Nat.pow_lt_pow_right (by decide) (by decide)
  refine ⟨by omega, ?_, ?_⟩
  · exact Nat.lt_of_le_of_lt (bits_le (n := 8000) (by simp only [Int.natAbs_natCast]; omega)) (by decide)
  · exact Nat.lt_of_le_of_lt (bits_le (n := 8000) (by simp only [Int.natAbs_neg, Int.natAbs_natCast]; omega)) (by decide)
theorem ratio_run (h15 : T.fn 15 = some fdDivisor) (h17 : T.fn 17 = some fdRatio) {a b : Int} (hb : b ≠ 0) (h : b.natAbs < 2 ^ 8000) : callF T (n + 2) 17 [.int a, .int b] w = .ok (qD (Rat.divInt a b)) w := by
  rw [callF_eq (by decide) h17 (by rfl), ← ratio_pair hb]
  have d := divisor_run (n := n) (w := w) h15 (a := a) (b := b) (Nat.lt_trans h (Nat.pow_lt_pow_right (by decide) (by decide)))
  obtain ⟨g1, g2, g3⟩ := gcd_bits (a := a) hb h
  show endR (exs _ fdRatio.body ⟨[some (.int a, false), some (.int b, false), none], w⟩) = _
  generalize callF T (n + 1) = F at d ⊢
  generalize hG : Int.gcd a b = g at d g1 g2 g3 ⊢
  have g0 : (g : Int) ≠ 0 := by omega
  have g4 : -(g : Int) ≠ 0 := by omega
  by_cases hn : b < 0
  · rw [fdRatio]
    simp only [if_pos hn]
    simp [exs, ex, ev, evs, evc, bnd, tr, Opd.d, opD, cmpI, i2, outR, oneR, consume, endR, callR, d, bindNm, isBl, truthD, hn, negD, fdivD, g1, g3, LN]
  · rw [fdRatio]
    simp only [if_neg hn]
    simp [exs, ex, ev, evs, evc, bnd, tr, Opd.d, opD, cmpI, i2, outR, oneR, consume, endR, callR, d, bindNm, isBl, truthD, hn, negD, fdivD, g1, g2, LN]
theorem law_of_run (h13 : T.fn 13 = some fdLawGcd) (h14 : T.fn 14 = some fdLawOf) {a b : Int} (hb : b ≠ 0) (h : b.natAbs < 2 ^ 8000) : callF T (n + 2) 14 [.int a, .int b] w = .ok (qD (Rat.divInt a b)) w := by
  rw [callF_eq (by decide) h14 (by rfl), ← ratio_pair hb]
  have d := law_gcd_run (n := n) (w := w) h13 (a := a) (b := b) (Nat.lt_trans h (Nat.pow_lt_pow_right (by decide) (by decide)))
  obtain ⟨g1, g2, g3⟩ := gcd_bits (a := a) hb h
  show endR (exs _ fdLawOf.body ⟨[some (.int a, false), some (.int b, false), none], w⟩) = _
  generalize callF T (n + 1) = F at d ⊢
  generalize hG : Int.gcd a b = g at d g1 g2 g3 ⊢
  have g0 : (g : Int) ≠ 0 := by omega
  have g4 : -(g : Int) ≠ 0 := by omega
  by_cases hn : b < 0
  · have hp : ¬ 0 < b := by omega
    rw [fdLawOf]
    simp only [if_pos hn]
    simp [exs, ex, ev, evs, evc, bnd, tr, Opd.d, opD, cmpI, i2, outR, oneR, consume, endR, callR, d, bindNm, isBl, truthD, hp, subD, fdivD, g1, g3, LN]
  · have hp : 0 < b := by omega
    rw [fdLawOf]
    simp only [if_neg hn]
    simp [exs, ex, ev, evs, evc, bnd, tr, Opd.d, opD, cmpI, i2, outR, oneR, consume, endR, callR, d, bindNm, isBl, truthD, hp, subD, fdivD, g1, g2, LN]
end
end MP
set_option Elab.async false
set_option linter.all false
set_option maxRecDepth 100000
/-! Sums, products, orders of fractions. -/
namespace MP
open PySem L2

def rb (k : Nat) (r : Rat) : Prop := r.num.natAbs < 2 ^ k ∧ r.den < 2 ^ k
theorem rb_le {k m : Nat} {r : Rat} (h : rb k r) (hm : k ≤ m) : rb m r :=
  ⟨Nat.lt_of_lt_of_le h.1 (Nat.pow_le_pow_right (by decide) hm), Nat.lt_of_lt_of_le h.2 (Nat.pow_le_pow_right (by decide) hm)⟩
theorem rb_divInt {k : Nat} {a b : Int} (ha : a.natAbs < 2 ^ k) (hb : b.natAbs < 2 ^ k) (h1 : 1 ≤ k) : rb k (Rat.divInt a b) := by
  have p : 1 < 2 ^ k := Nat.one_lt_two_pow (by omega)
  refine ⟨?_, ?_⟩
  · rw [Rat.num_divInt]
    refine Nat.lt_of_le_of_lt (Int.natAbs_ediv_le_natAbs _ _) ?_
    refine Nat.lt_of_le_of_lt ?_ ha
    rw [Int.natAbs_mul]
    have : b.sign.natAbs ≤ 1 := by
      rcases Int.lt_trichotomy b 0 with h | h | h
      · rw [Int.sign_eq_neg_one_of_neg h]; decide
      · subst h; decide
      · rw [Int.sign_eq_one_of_pos h]; decide
    calc b.sign.natAbs * a.natAbs ≤ 1 * a.natAbs := Nat.mul_le_mul_right _ this
      _ = a.natAbs := Nat.one_mul _
  · rw [Rat.den_divInt]
    split
    · exact p
    · exact Nat.lt_of_le_of_lt (Nat.div_le_self _ _) hb
theorem pow_two_mul {a b k m : Nat} (ha : a < 2 ^ k) (hb : b < 2 ^ m) : a * b < 2 ^ (k + m) := by
  rw [Nat.pow_add]
  exact Nat.mul_lt_mul'' ha hb
theorem ix0 (r : Rat) : ixD [qD r, .int 0] = some (.v (.int r.num)) := by simp [qD, ixD, atI, ixN]
theorem ix1 (r : Rat) : ixD [qD r, .int 1] = some (.v (.int (r.den : Int))) := by simp [qD, ixD, atI, ixN]
theorem rb_bits {k : Nat} {r : Rat} (h : rb k r) (h1 : 1 ≤ k) : bits r.num ≤ k ∧ bits (r.den : Int) ≤ k := by
  have p : 2 ^ k < 2 ^ (k + 1) := Nat.pow_lt_pow_right (by decide) (by omega)
  exact ⟨bits_le (Nat.lt_trans h.1 p), bits_le (by rw [Int.natAbs_natCast]; exact Nat.lt_trans h.2 p)⟩
theorem den_ne (r : Rat) : (r.den : Int) ≠ 0 := by have := r.den_nz; omega
theorem den_mul_ne (r s : Rat) : (r.den : Int) * (s.den : Int) ≠ 0 := Int.mul_ne_zero (den_ne r) (den_ne s)
theorem add_divInt (r s : Rat) : Rat.divInt (r.num * s.den + s.num * r.den) (r.den * s.den) = r + s := by
  rw [Rat.add_def', ← Int.natCast_mul, Rat.divInt_ofNat]
theorem sub_divInt (r s : Rat) : Rat.divInt (r.num * s.den - s.num * r.den) (r.den * s.den) = r - s := by
  rw [Rat.sub_def', ← Int.natCast_mul, Rat.divInt_ofNat]
theorem mul_divInt (r s : Rat) : Rat.divInt (r.num * s.num) (r.den * s.den) = r * s := by
  rw [Rat.mul_def', ← Int.natCast_mul, Rat.divInt_ofNat]
theorem div_divInt (r s : Rat) : Rat.divInt (r.num * s.den) (r.den * s.num) = r / s := by
  rw [Rat.div_def]
  conv => rhs; rw [← Rat.num_divInt_den r, ← Rat.num_divInt_den s]
  rw [Rat.inv_divInt, Rat.divInt_mul_divInt]
theorem natAbs_add_lt {a b : Int} {k : Nat} (ha : a.natAbs < 2 ^ k) (hb : b.natAbs < 2 ^ k) : (a + b).natAbs < 2 ^ (k + 1) := by
  have := Int.natAbs_add_le a b
  rw [Nat.pow_succ]
  omega
theorem natAbs_sub_lt {a b : Int} {k : Nat} (ha : a.natAbs < 2 ^ k) (hb : b.natAbs < 2 ^ k) : (a - b).natAbs < 2 ^ (k + 1) := by
  have := Int.natAbs_sub_le a b
  rw [Nat.pow_succ]
  omega
theorem cross_lt {k m : Nat} {r s : Rat} (hr : rb k r) (hs : rb m s) : (r.num * s.den).natAbs < 2 ^ (k + m) ∧ (s.num * r.den).natAbs < 2 ^ (k + m) ∧ ((r.den : Int) * s.den).natAbs < 2 ^ (k + m) ∧ (r.num * s.num).natAbs < 2 ^ (k + m) ∧ ((r.den : Int) * s.num).natAbs < 2 ^ (k + m) := by
  simp only [Int.natAbs_mul, Int.natAbs_natCast]
  refine ⟨pow_two_mul hr.1 hs.2, ?_, pow_two_mul hr.2 hs.2, pow_two_mul hr.1 hs.1, pow_two_mul hr.2 hs.1⟩
  rw [Nat.add_comm]
  exact pow_two_mul hs.1 hr.2
theorem pow_up {a k m : Nat} (h : a < 2 ^ k) (hm : k ≤ m) : a < 2 ^ m := Nat.lt_of_lt_of_le h (Nat.pow_le_pow_right (by decide) hm)
theorem rb_add {k m : Nat} {r s : Rat} (hr : rb k r) (hs : rb m s) : rb (k + m + 1) (r + s) := by
  obtain ⟨h1, h2, h3, _, _⟩ := cross_lt hr hs
  rw [← add_divInt]
  exact rb_divInt (natAbs_add_lt h1 h2) (pow_up h3 (by omega)) (by omega)
theorem rb_sub {k m : Nat} {r s : Rat} (hr : rb k r) (hs : rb m s) : rb (k + m + 1) (r - s) := by
  obtain ⟨h1, h2, h3, _, _⟩ := cross_lt hr hs
  rw [← sub_divInt]
  exact rb_divInt (natAbs_sub_lt h1 h2) (pow_up h3 (by omega)) (by omega)
theorem rb_mul {k m : Nat} {r s : Rat} (hr : rb k r) (hs : rb m s) : rb (k + m + 1) (r * s) := by
  obtain ⟨h1, h2, h3, h4, _⟩ := cross_lt hr hs
  rw [← mul_divInt]
  exact rb_divInt (pow_up h4 (by omega)) (pow_up h3 (by omega)) (by omega)
theorem rb_div {k m : Nat} {r s : Rat} (hr : rb k r) (hs : rb m s) : rb (k + m + 1) (r / s) := by
  obtain ⟨h1, h2, h3, h4, h5⟩ := cross_lt hr hs
  rw [← div_divInt]
  exact rb_divInt (pow_up h1 (by omega)) (pow_up h5 (by omega)) (by omega)
section
variable {T : Tab} {n : Nat} {w : MP.W}
/-- products within the look -/
theorem mulI {i j : Int} (h1 : bits i ≤ 3000) (h2 : bits j ≤ 3000) : mulD [.int i, .int j] = some (.v (.int (i * j))) := by
  have : bits i + bits j < 1000000 := by omega
  simp [mulD, i2, this]
theorem rb8 {k m : Nat} {r s : Rat} (hr : rb 3000 r) (hs : rb 3000 s) : ((r.den : Int) * s.den).natAbs < 2 ^ 8000 ∧ ((r.den : Int) * s.num).natAbs < 2 ^ 8000 := by
  obtain ⟨h1, h2, h3, h4, h5⟩ := cross_lt hr hs
  exact ⟨pow_up h3 (by decide), pow_up h5 (by decide)⟩
section
variable (h15 : T.fn 15 = some fdDivisor) (h17 : T.fn 17 = some fdRatio)
include h15 h17
theorem plus_run (h20 : T.fn 20 = some fdPlus) {r s : Rat} (hr : rb 3000 r) (hs : rb 3000 s) : callF T (n + 3) 20 [qD r, qD s] w = .ok (qD (r + s)) w := by
  have c := ratio_run (n := n) (w := w) h15 h17 (den_mul_ne r s) (a := r.num * s.den + s.num * r.den) (rb8 (k := 0) (m := 0) hr hs).1
  rw [add_divInt] at c
  rw [callF_eq (by decide) h20 (by rfl)]
  obtain ⟨b1, b2⟩ := rb_bits hr (by decide)
  obtain ⟨b3, b4⟩ := rb_bits hs (by decide)
  show endR (exs _ fdPlus.body ⟨[some (qD r, false), some (qD s, false)], w⟩) = _
  generalize callF T (n + 2) = F at c ⊢
  simp [fdPlus, exs, ex, ev, evs, evc, bnd, tr, Opd.d, opD, ix0, ix1, outR, oneR, consume, endR, callR, mulI b1 b4, mulI b3 b2, mulI b2 b4, addD, c]
theorem sub_run (h32 : T.fn 32 = some fdSub) {r s : Rat} (hr : rb 3000 r) (hs : rb 3000 s) : callF T (n + 3) 32 [qD r, qD s] w = .ok (qD (r - s)) w := by
  have c := ratio_run (n := n) (w := w) h15 h17 (den_mul_ne r s) (a := r.num * s.den - s.num * r.den) (rb8 (k := 0) (m := 0) hr hs).1
  rw [sub_divInt] at c
  rw [callF_eq (by decide) h32 (by rfl)]
  obtain ⟨b1, b2⟩ := rb_bits hr (by decide)
  obtain ⟨b3, b4⟩ := rb_bits hs (by decide)
  show endR (exs _ fdSub.body ⟨[some (qD r, false), some (qD s, false)], w⟩) = _
  generalize callF T (n + 2) = F at c ⊢
  simp [fdSub, exs, ex, ev, evs, evc, bnd, tr, Opd.d, opD, ix0, ix1, outR, oneR, consume, endR, callR, mulI b1 b4, mulI b3 b2, mulI b2 b4, subD, i2, c]
theorem mul_run (h24 : T.fn 24 = some fdMul) {r s : Rat} (hr : rb 3000 r) (hs : rb 3000 s) : callF T (n + 3) 24 [qD r, qD s] w = .ok (qD (r * s)) w := by
  have c := ratio_run (n := n) (w := w) h15 h17 (den_mul_ne r s) (a := r.num * s.num) (rb8 (k := 0) (m := 0) hr hs).1
  rw [mul_divInt] at c
  rw [callF_eq (by decide) h24 (by rfl)]
  obtain ⟨b1, b2⟩ := rb_bits hr (by decide)
  obtain ⟨b3, b4⟩ := rb_bits hs (by decide)
  show endR (exs _ fdMul.body ⟨[some (qD r, false), some (qD s, false)], w⟩) = _
  generalize callF T (n + 2) = F at c ⊢
  simp [fdMul, exs, ex, ev, evs, evc, bnd, tr, Opd.d, opD, ix0, ix1, outR, oneR, consume, endR, callR, mulI b1 b3, mulI b2 b4, c]
theorem div_run (h31 : T.fn 31 = some fdDiv) {r s : Rat} (hr : rb 3000 r) (hs : rb 3000 s) (h0 : s ≠ 0) : callF T (n + 3) 31 [qD r, qD s] w = .ok (qD (r / s)) w := by
  have n0 : (r.den : Int) * s.num ≠ 0 := Int.mul_ne_zero (den_ne r) fun e => h0 (Rat.num_eq_zero.mp e)
  have c := ratio_run (n := n) (w := w) h15 h17 n0 (a := r.num * s.den) (rb8 (k := 0) (m := 0) hr hs).2
  rw [div_divInt] at c
  rw [callF_eq (by decide) h31 (by rfl)]
  obtain ⟨b1, b2⟩ := rb_bits hr (by decide)
  obtain ⟨b3, b4⟩ := rb_bits hs (by decide)
  show endR (exs _ fdDiv.body ⟨[some (qD r, false), some (qD s, false)], w⟩) = _
  generalize callF T (n + 2) = F at c ⊢
  simp [fdDiv, exs, ex, ev, evs, evc, bnd, tr, Opd.d, opD, ix0, ix1, outR, oneR, consume, endR, callR, mulI b1 b4, mulI b2 b3, c]
end
theorem less_run (h21 : T.fn 21 = some fdLess) {r s : Rat} (hr : rb 3000 r) (hs : rb 3000 s) : callF T (n + 1) 21 [qD r, qD s] w = .ok (.bl (decide (r < s))) w := by
  rw [callF_eq (by decide) h21 (by rfl)]
  obtain ⟨b1, b2⟩ := rb_bits hr (by decide)
  obtain ⟨b3, b4⟩ := rb_bits hs (by decide)
  have e : decide (r.num * (s.den : Int) < s.num * (r.den : Int)) = decide (r < s) := by
    rw [decide_eq_decide, Rat.lt_iff]
  show endR (exs _ fdLess.body ⟨[some (qD r, false), some (qD s, false)], w⟩) = _
  simp only [fdLess, exs, ex, ev, evs, bnd, tr, Opd.d, opD, ix0, ix1, outR, oneR, consume, endR, mulI b1 b4, mulI b3 b2, cmpI, i2, e, List.getElem?_cons_zero, List.getElem?_cons_succ, Bool.false_eq_true, if_false]
theorem whole_run (h57 : T.fn 57 = some fdWhole) {i : Int} : callF T (n + 1) 57 [.int i] w = .ok (qD (i : Rat)) w := by
  rw [callF_eq (by decide) h57 (by rfl)]
  show endR (exs _ fdWhole.body ⟨[some (.int i, false)], w⟩) = _
  simp [fdWhole, exs, ex, ev, evc, bnd, tr, oneR, consume, endR, qD, LN]
section
variable (h13 : T.fn 13 = some fdLawGcd) (h14 : T.fn 14 = some fdLawOf)
include h13 h14
theorem law_add_run (h22 : T.fn 22 = some fdLawAdd) {r s : Rat} (hr : rb 3000 r) (hs : rb 3000 s) : callF T (n + 3) 22 [qD r, qD s] w = .ok (qD (r + s)) w := by
  have c := law_of_run (n := n) (w := w) h13 h14 (den_mul_ne r s) (a := r.num * s.den + s.num * r.den) (rb8 (k := 0) (m := 0) hr hs).1
  rw [add_divInt] at c
  rw [callF_eq (by decide) h22 (by rfl)]
  obtain ⟨b1, b2⟩ := rb_bits hr (by decide)
  obtain ⟨b3, b4⟩ := rb_bits hs (by decide)
  show endR (exs _ fdLawAdd.body ⟨[some (qD r, false), some (qD s, false)], w⟩) = _
  generalize callF T (n + 2) = F at c ⊢
  simp [fdLawAdd, exs, ex, ev, evs, evc, bnd, tr, Opd.d, opD, ix0, ix1, outR, oneR, consume, endR, callR, mulI b1 b4, mulI b3 b2, mulI b2 b4, addD, c]
theorem law_mul_run (h26 : T.fn 26 = some fdLawMul) {r s : Rat} (hr : rb 3000 r) (hs : rb 3000 s) : callF T (n + 3) 26 [qD r, qD s] w = .ok (qD (r * s)) w := by
  have c := law_of_run (n := n) (w := w) h13 h14 (den_mul_ne r s) (a := r.num * s.num) (rb8 (k := 0) (m := 0) hr hs).1
  rw [mul_divInt] at c
  rw [callF_eq (by decide) h26 (by rfl)]
  obtain ⟨b1, b2⟩ := rb_bits hr (by decide)
  obtain ⟨b3, b4⟩ := rb_bits hs (by decide)
  show endR (exs _ fdLawMul.body ⟨[some (qD r, false), some (qD s, false)], w⟩) = _
  generalize callF T (n + 2) = F at c ⊢
  simp [fdLawMul, exs, ex, ev, evs, evc, bnd, tr, Opd.d, opD, ix0, ix1, outR, oneR, consume, endR, callR, mulI b1 b3, mulI b2 b4, c]
end
theorem law_less_run (hT : T.fn 43 = some fdLawLess) {r s : Rat} (hr : rb 3000 r) (hs : rb 3000 s) : callF T (n + 1) 43 [qD r, qD s] w = .ok (.bl (decide (r < s))) w := by
  rw [callF_eq (by decide) hT (by rfl)]
  obtain ⟨b1, b2⟩ := rb_bits hr (by decide)
  obtain ⟨b3, b4⟩ := rb_bits hs (by decide)
  have e : decide (r.num * (s.den : Int) < s.num * (r.den : Int)) = decide (r < s) := by
    rw [decide_eq_decide, Rat.lt_iff]
  show endR (exs _ fdLawLess.body ⟨[some (qD r, false), some (qD s, false)], w⟩) = _
  simp only [fdLawLess, exs, ex, ev, evs, bnd, tr, Opd.d, opD, ix0, ix1, outR, oneR, consume, endR, mulI b1 b4, mulI b3 b2, cmpI, i2, e, List.getElem?_cons_zero, List.getElem?_cons_succ, Bool.false_eq_true, if_false]
end
end MP
set_option Elab.async false
set_option linter.all false
set_option maxRecDepth 100000
/-! What a fraction is; plain data are what they equal. -/
namespace MP
open PySem L2

mutual
/-- no truth value within, and nothing but ints, texts and tuples -/
def pl : D → Bool
  | .int _ => true
  | .str _ => true
  | .tup xs => pls xs
  | .non => false
  | .bl _ => false
  | .lst _ => false
  | .dct _ => false
  | .st => false
  | .err _ => false
def pls : List D → Bool
  | [] => true
  | x :: xs => pl x && pls xs
end
mutual
theorem sameD_refl : ∀ d : D, pl d = true → sameD d d = true
  | .int i, _ => by simp [sameD]
  | .str s, _ => by simp [sameD]
  | .tup xs, h => by
    simp only [pl] at h
    simp only [sameD]
    exact sameDs_refl xs h
  | .non, h => by simp [pl] at h
  | .bl _, h => by simp [pl] at h
  | .lst _, h => by simp [pl] at h
  | .dct _, h => by simp [pl] at h
  | .st, h => by simp [pl] at h
  | .err _, h => by simp [pl] at h
theorem sameDs_refl : ∀ xs : List D, pls xs = true → sameDs xs xs = true
  | [], _ => rfl
  | x :: xs, h => by
    simp only [pls, Bool.and_eq_true] at h
    simp only [sameDs, Bool.and_eq_true]
    exact ⟨sameD_refl x h.1, sameDs_refl xs h.2⟩
end
mutual
theorem eqD_refl : ∀ d : D, pl d = true → eqD d d = true
  | .int i, _ => by simp [eqD]
  | .str s, _ => by simp [eqD]
  | .tup xs, h => by
    simp only [pl] at h
    simp only [eqD]
    exact eqDs_refl xs h
  | .non, h => by simp [pl] at h
  | .bl _, h => by simp [pl] at h
  | .lst _, h => by simp [pl] at h
  | .dct _, h => by simp [pl] at h
  | .st, h => by simp [pl] at h
  | .err _, h => by simp [pl] at h
theorem eqDs_refl : ∀ xs : List D, pls xs = true → eqDs xs xs = true
  | [], _ => rfl
  | x :: xs, h => by
    simp only [pls, Bool.and_eq_true] at h
    simp only [eqDs, Bool.and_eq_true]
    exact ⟨eqD_refl x h.1, eqDs_refl xs h.2⟩
end
mutual
theorem sameD_eq : ∀ (e a : D), pl e = true → sameD a e = true → a = e
  | .int i, a, _, h => by
    cases a <;> simp [sameD] at h
    rw [h]
  | .str s, a, _, h => by
    cases a <;> simp [sameD] at h
    rw [h]
  | .tup es, a, hp, h => by
    simp only [pl] at hp
    cases a <;> simp [sameD] at h
    rw [sameDs_eq es _ hp h]
  | .non, _, h, _ => by simp [pl] at h
  | .bl _, _, h, _ => by simp [pl] at h
  | .lst _, _, h, _ => by simp [pl] at h
  | .dct _, _, h, _ => by simp [pl] at h
  | .st, _, h, _ => by simp [pl] at h
  | .err _, _, h, _ => by simp [pl] at h
theorem sameDs_eq : ∀ (es as : List D), pls es = true → sameDs as es = true → as = es
  | [], as, _, h => by
    cases as with
    | nil => rfl
    | cons _ _ => simp [sameDs] at h
  | x :: xs, as, hp, h => by
    simp only [pls, Bool.and_eq_true] at hp
    cases as with
    | nil => simp [sameDs] at h
    | cons y ys =>
      simp only [sameDs, Bool.and_eq_true] at h
      rw [sameD_eq x y hp.1 h.1, sameDs_eq xs ys hp.2 h.2]
end
mutual
theorem eqD_eq : ∀ (e a : D), pl a = true → pl e = true → eqD a e = true → a = e
  | .int i, a, ha, _, h => by
    cases a <;> simp [pl] at ha <;> simp [eqD] at h
    rw [h]
  | .str s, a, ha, _, h => by
    cases a <;> simp [pl] at ha <;> simp [eqD] at h
    rw [h]
  | .tup es, a, ha, hp, h => by
    simp only [pl] at hp
    cases a <;> simp [pl] at ha <;> simp [eqD] at h
    rw [eqDs_eq es _ ha hp h]
  | .non, _, _, h, _ => by simp [pl] at h
  | .bl _, _, _, h, _ => by simp [pl] at h
  | .lst _, _, _, h, _ => by simp [pl] at h
  | .dct _, _, _, h, _ => by simp [pl] at h
  | .st, _, _, h, _ => by simp [pl] at h
  | .err _, _, _, h, _ => by simp [pl] at h
theorem eqDs_eq : ∀ (es as : List D), pls as = true → pls es = true → eqDs as es = true → as = es
  | [], as, _, _, h => by
    cases as with
    | nil => rfl
    | cons _ _ => simp [eqDs] at h
  | x :: xs, as, ha, hp, h => by
    simp only [pls, Bool.and_eq_true] at hp
    cases as with
    | nil => simp [eqDs] at h
    | cons y ys =>
      simp only [pls, Bool.and_eq_true] at ha
      simp only [eqDs, Bool.and_eq_true] at h
      rw [eqD_eq x y ha.1 hp.1 h.1, eqDs_eq xs ys ha.2 hp.2 h.2]
end
open Classical in
/-- what is the same as plain data is just these -/
theorem sameD_iff {a e : D} (h : pl e = true) : sameD a e = decide (a = e) := by
  by_cases q : a = e
  · subst q; simp [sameD_refl a h]
  · cases hs : sameD a e with
    | false => simp [q]
    | true => exact absurd (sameD_eq e a h hs) q
open Classical in
theorem eqD_iff {a e : D} (ha : pl a = true) (h : pl e = true) : eqD a e = decide (a = e) := by
  by_cases q : a = e
  · subst q; simp [eqD_refl a h]
  · cases hs : eqD a e with
    | false => simp [q]
    | true => exact absurd (eqD_eq e a ha h hs) q
theorem pls_of : ∀ {xs : List D}, (∀ x ∈ xs, pl x = true) → pls xs = true
  | [], _ => rfl
  | x :: xs, h => by
    simp only [pls, Bool.and_eq_true]
    exact ⟨h x (by simp), pls_of fun y hy => h y (by simp [hy])⟩
theorem pl_qD (r : Rat) : pl (qD r) = true := rfl
/-! ### what a fraction is -/
def fracB : D → Bool
  | .tup [.int a, .int b] => decide (0 < b) && (Int.gcd a b == 1)
  | _ => false
theorem fracB_qD (r : Rat) : fracB (qD r) = true := by
  have h := r.den_pos
  have c := r.reduced
  simp only [qD, fracB, Bool.and_eq_true, decide_eq_true_eq, beq_iff_eq]
  exact ⟨by omega, c⟩
theorem fracB_iff {d : D} : fracB d = true ↔ ∃ r, d = qD r := by
  constructor
  · intro h
    unfold fracB at h
    split at h
    · rename_i a b
      simp only [Bool.and_eq_true, decide_eq_true_eq, beq_iff_eq] at h
      obtain ⟨h1, h2⟩ := h
      refine ⟨⟨a, b.toNat, by omega, ?_⟩, ?_⟩
      · have : b.toNat = b.natAbs := by omega
        rw [this]
        exact h2
      · unfold qD
        congr
        show b = ((b.toNat : Nat) : Int)
        omega
    · cases h
  · rintro ⟨r, rfl⟩
    exact fracB_qD r
def fracsB (c : Int) : D → Bool
  | .tup xs => decide ((xs.length : Int) = c) && xs.all fracB
  | _ => false
theorem all_qD {xs : List D} (h : xs.all fracB = true) : ∃ rs : List Rat, xs = rs.map qD := by
  induction xs with
  | nil => exact ⟨[], rfl⟩
  | cons x xs ih =>
    simp only [List.all_cons, Bool.and_eq_true] at h
    obtain ⟨r, rfl⟩ := fracB_iff.mp h.1
    obtain ⟨rs, rfl⟩ := ih h.2
    exact ⟨r :: rs, rfl⟩
theorem all_fracB (rs : List Rat) : (rs.map qD).all fracB = true := by
  simp [List.all_eq_true, fracB_qD]
theorem fracsB_iff {c : Int} {d : D} : fracsB c d = true ↔ ∃ rs : List Rat, d = .tup (rs.map qD) ∧ (rs.length : Int) = c := by
  constructor
  · intro h
    unfold fracsB at h
    split at h
    · simp only [Bool.and_eq_true, decide_eq_true_eq] at h
      obtain ⟨rs, rfl⟩ := all_qD h.2
      exact ⟨rs, rfl, by simpa using h.1⟩
    · cases h
  · rintro ⟨rs, rfl, h⟩
    simp only [fracsB, all_fracB, Bool.and_true, decide_eq_true_eq, List.length_map]
    exact h
theorem pl_rats (rs : List Rat) : pl (.tup (rs.map qD)) = true := pls_of fun x hx => by
  obtain ⟨r, _, rfl⟩ := List.mem_map.mp hx
  rfl
theorem gd_ints {n : Nat} {xs : List D} (h : gd (n + 1) (.tup xs) = true) : gds n xs = true ∧ xs.length ≤ 8000000 := by
  simp only [gd, Bool.and_eq_true, decide_eq_true_eq] at h
  exact ⟨h.2, h.1⟩
theorem okG_int {i : Int} (h : okG (.int i)) : i.natAbs < 2 ^ 2000 := by
  rcases h with h | ⟨_, h⟩
  · simpa [gd] using h
  · cases h
theorem okG_mem {xs : List D} (h : okG (.tup xs)) : ∀ x ∈ xs, okG x := by
  rcases h with h | ⟨_, h⟩
  · intro x hx
    exact okG_le (gds_mem (gd_ints h).1 x hx) (by decide)
  · cases h
theorem okG_len {xs : List D} (h : okG (.tup xs)) : xs.length ≤ 8000000 := by
  rcases h with h | ⟨_, h⟩
  · exact (gd_ints h).2
  · cases h
theorem okG_rat {r : Rat} (h : okG (qD r)) : rb 2000 r := by
  refine ⟨okG_int (okG_mem h _ (by simp)), ?_⟩
  have := okG_int (okG_mem h (.int (r.den : Int)) (by simp))
  simpa using this
section
variable {T : Tab} {n : Nat} {w : MP.W}
theorem is_fraction_run (h15 : T.fn 15 = some fdDivisor) (h25 : T.fn 25 = some fdIsWhole) (h29 : T.fn 29 = some fdIsFraction) {d : D} (hd : okG d) : callF T (n + 2) 29 [d] w = .ok (.bl (fracB d)) w := by
  rw [callF_eq (by decide) h29 (by rfl)]
  have wh : ∀ x, okA x → callF T (n + 1) 25 [x] w = .ok (.bl (wholeB x)) w := fun x hx => is_whole_run h25 hx
  have dv : ∀ a b : Int, b.natAbs < 2 ^ 9000 → callF T (n + 1) 15 [.int a, .int b] w = .ok (.int (Int.gcd a b : Int)) w := fun a b h => divisor_run h15 h
  show endR (exs _ fdIsFraction.body ⟨[some (d, false)], w⟩) = _
  generalize callF T (n + 1) = F at wh dv ⊢
  by_cases ht : ∃ xs, d = .tup xs
  · obtain ⟨xs, rfl⟩ := ht
    by_cases hl : ∃ x y, xs = [x, y]
    · obtain ⟨x, y, rfl⟩ := hl
      have ox := okG_mem hd x (by simp)
      have oy := okG_mem hd y (by simp)
      have wx := wh x ox.okA
      have wy := wh y oy.okA
      have a0 : atI [x, y] 0 = some x := by simp [atI, ixN]
      have a1 : atI [x, y] 1 = some y := by simp [atI, ixN]
      by_cases hx : ∃ a, x = .int a
      · obtain ⟨a, rfl⟩ := hx
        by_cases hy : ∃ b, y = .int b
        · obtain ⟨b, rfl⟩ := hy
          have g := dv a b (pow_up (okG_int oy) (by decide))
          have e3 : ((Int.gcd a b : Int) == 1) = (Int.gcd a b == 1) := by
            by_cases h : Int.gcd a b = 1
            · simp [h]
            · rw [beq_false_of_ne h, beq_false_of_ne (by omega)]
          by_cases hb : 0 < b
          · simp [e3, fdIsFraction, exs, ex, ev, evs, evc, evOr, evAnd, isBl, bnd, tr, Opd.d, opD, isTys, isTy, truthD, eqB, lenD, shp, eqD, outR, oneR, consume, endR, callR, ixD, a0, a1, wx, wy, wholeB, cmpI, i2, hb, g, fracB]
          · simp [fdIsFraction, exs, ex, ev, evs, evc, evOr, evAnd, isBl, bnd, tr, Opd.d, opD, isTys, isTy, truthD, eqB, lenD, shp, eqD, outR, oneR, consume, endR, callR, ixD, a0, a1, wx, wy, wholeB, cmpI, i2, hb, g, fracB]
        · have e1 : wholeB y = false := by cases y <;> first | rfl | (exact absurd ⟨_, rfl⟩ hy)
          have e2 : fracB (.tup [.int a, y]) = false := by cases y <;> first | rfl | (exact absurd ⟨_, rfl⟩ hy)
          rw [e1] at wy
          simp [fdIsFraction, exs, ex, ev, evs, evc, evOr, evAnd, isBl, bnd, tr, Opd.d, opD, isTys, isTy, truthD, eqB, lenD, shp, eqD, outR, oneR, consume, endR, callR, ixD, a0, a1, wx, wy, wholeB, e2]
      · have e1 : wholeB x = false := by cases x <;> first | rfl | (exact absurd ⟨_, rfl⟩ hx)
        have e2 : fracB (.tup [x, y]) = false := by cases x <;> first | rfl | (exact absurd ⟨_, rfl⟩ hx)
        rw [e1] at wx
        simp [fdIsFraction, exs, ex, ev, evs, evc, evOr, evAnd, isBl, bnd, tr, Opd.d, opD, isTys, isTy, truthD, eqB, lenD, shp, eqD, outR, oneR, consume, endR, callR, ixD, a0, a1, wx, wy, e2]
    · have e1 : ((xs.length : Int) == 2) = false := by
        cases h : ((xs.length : Int) == 2) with
        | false => rfl
        | true =>
          have : xs.length = 2 := by have := eq_of_beq h; omega
          match xs, this with
          | [x, y], _ => exact absurd ⟨x, y, rfl⟩ hl
      have e2 : fracB (.tup xs) = false := by
        match xs, hl with
        | [], _ => rfl
        | [_], _ => cases ‹D› <;> rfl
        | [x, y], hl => exact absurd ⟨x, y, rfl⟩ hl
        | x :: y :: z :: r, _ => unfold fracB; split <;> simp_all
      simp [fdIsFraction, exs, ex, ev, evs, evc, evOr, evAnd, isBl, bnd, tr, Opd.d, opD, isTys, isTy, truthD, eqB, lenD, shp, eqD, outR, oneR, consume, endR, e1, e2]
  · have e2 : fracB d = false := by cases d <;> first | rfl | (exact absurd ⟨_, rfl⟩ ht)
    have e1 : isTys d [.tuple] = some false := by
      have hA := hd.okA
      cases d <;> first
        | (exact absurd ⟨_, rfl⟩ ht)
        | (simp [isTys, isTy]; done)
        | (rcases hA with h | ⟨_, h⟩ <;> simp [shp] at h; done)
        | (rcases hA with h | ⟨_, h⟩ <;> cases h; done)
    simp [fdIsFraction, exs, ex, ev, evs, evc, evOr, evAnd, isBl, bnd, tr, Opd.d, e1, e2, truthD, oneR, consume, endR]
theorem not_mem_falseP (p : D → Bool) (ys : List D) : ((ys.map fun y => D.bl (p y)).any fun z => eqD z (.bl false)) = !ys.all p := by
  induction ys with
  | nil => rfl
  | cons y ys ih =>
    simp only [List.map_cons, List.any_cons, List.all_cons, ih]
    cases h : p y <;> simp [eqD]
theorem are_fractions_run (h15 : T.fn 15 = some fdDivisor) (h25 : T.fn 25 = some fdIsWhole) (h29 : T.fn 29 = some fdIsFraction) (h28 : T.fn 28 = some fdAreFractions) {d : D} {c : Int} (hd : okG d) : callF T (n + 3) 28 [d, .int c] w = .ok (.bl (fracsB c d)) w := by
  rw [callF_eq (by decide) h28 (by rfl)]
  have fr : ∀ x, okG x → callF T (n + 2) 29 [x] w = .ok (.bl (fracB x)) w := fun x hx => is_fraction_run h15 h25 h29 hx
  show endR (exs _ fdAreFractions.body ⟨[some (d, false), some (.int c, false), none], w⟩) = _
  generalize callF T (n + 2) = F at fr ⊢
  by_cases ht : ∃ xs, d = .tup xs
  · obtain ⟨xs, rfl⟩ := ht
    have comp : ev ⟨F, T.gl⟩ false (.comp [2] (.call 29 [.var 2]) (.nm 2) (.seq (.var 0)) none) ⟨[some (.tup xs, false), some (.int c, false), none], w⟩ = .ok (.fresh (.lst (xs.map fun y => .bl (fracB y)))) ⟨[some (.tup xs, false), some (.int c, false), none], w⟩ := by
      rw [ev_comp1 (fun _ => true) (fun d => .bl (fracB d)) (ds := xs) (s := ⟨[some (.tup xs, false), some (.int c, false), none], w⟩)]
      · rw [List.filter_eq_self.mpr (by simp)]
        rfl
      · simp [evI, ev, bnd, tr, Opd.d, itemsD]
      · show 2 < 3
        omega
      · rfl
      · have := okG_len hd
        exact Nat.le_trans this (by decide)
      · intro x hx
        refine ⟨rfl, fun _ => ?_⟩
        simp [ev, evc, bnd, oneR, consume, tr, callR, fr x (okG_mem hd x hx)]
    have hbs : shps 63 (xs.map fun y => D.bl (fracB y)) = true := shps_of fun x hx => by
      obtain ⟨y, _, rfl⟩ := List.mem_map.mp hx
      simp [shp]
    have nm := not_mem_falseP fracB xs
    unfold fdAreFractions
    revert comp
    generalize (ME.comp [2] (.call 29 [.var 2]) (.nm 2) (.seq (.var 0)) none) = q
    intro comp
    by_cases hc : (xs.length : Int) = c
    · simp [exs, ex, ev, evs, evc, evAnd, bnd, tr, Opd.d, comp, opD, isTys, isTy, truthD, eqB, lenD, shp, eqD, outR, oneR, consume, endR, hc, memB, hbs, nm, fracsB]
    · have hc2 : ((xs.length : Int) == c) = false := by simpa using hc
      simp [exs, ex, ev, evs, evc, evAnd, bnd, tr, Opd.d, opD, isTys, isTy, truthD, eqB, lenD, shp, eqD, outR, oneR, consume, endR, hc2, fracsB, hc]
  · have e2 : fracsB c d = false := by cases d <;> first | rfl | (exact absurd ⟨_, rfl⟩ ht)
    have e1 : isTys d [.tuple] = some false := by
      have hA := hd.okA
      cases d <;> first
        | (exact absurd ⟨_, rfl⟩ ht)
        | (simp [isTys, isTy]; done)
        | (rcases hA with h | ⟨_, h⟩ <;> simp [shp] at h; done)
        | (rcases hA with h | ⟨_, h⟩ <;> cases h; done)
    simp [fdAreFractions, exs, ex, ev, evs, evc, evOr, evAnd, isBl, bnd, tr, Opd.d, e1, e2, truthD, oneR, consume, endR]
end
end MP
set_option Elab.async false
set_option linter.all false
set_option maxRecDepth 100000
/-! Loops by number, calls of the frame, nearby ints. -/
namespace MP
open PySem L2

theorem asg_nm {i : Nat} {d : D} {env : Env} (h : i < env.length) : asgT (.nm i) d env = some (env.set i (some (d, false))) := by simp [asgT, h]
theorem forN {tg : MT} {b : S → R Fl} (I : Nat → S → Prop) {n : Nat} (step : ∀ (m : Nat) (s : S), m < n → I m s → ∃ env1 s', asgT tg (.int (m : Int)) s.env = some env1 ∧ b ⟨env1, s.w⟩ = .ok .next s' ∧ I (m + 1) s') {s : S} (h : I 0 s) :
    ∃ s', forR tg b (rangeD 0 (n : Int)) s = .ok .next s' ∧ I n s' := by
  have e : (rangeD 0 (n : Int)).length = n := by rw [rangeD0]; simp
  obtain ⟨s', h1, h2⟩ := forR_inv (t := tg) (b := b) (all := rangeD 0 (n : Int)) (fun done s => I done.length s) (fun done d rest s hd hI => by
    have hlen : done.length < n := by
      have := congrArg List.length hd
      rw [e] at this
      simp at this
      omega
    have hdd : d = .int (done.length : Int) := by
      have q : (rangeD 0 (n : Int))[done.length]? = some d := by rw [hd]; simp
      rw [rangeD0, List.getElem?_map, List.getElem?_range hlen] at q
      simpa using q.symm
    subst hdd
    obtain ⟨env1, s', a1, a2, a3⟩ := step done.length s hlen hI
    exact ⟨env1, s', a1, .inl a2, by rw [List.length_append]; exact a3⟩) (rangeD 0 (n : Int)) [] s rfl h
  exact ⟨s', h1, by rw [e] at h2; exact h2⟩
theorem ex_rng {cx : Cxt} {tg : MT} {e : ME} {b : List MS} {s s1 : S} {n : Nat} (h : ev cx false e s = .ok (.val (.int (n : Int))) s1) (hn : n ≤ 1000000) : ex cx (.forS tg (.rng1 e) b) s = forR tg (fun s => exs cx b s) (rangeD 0 (n : Int)) s1 := by
  simp only [ex, evIc, evI, h, bnd, Opd.d]
  rw [if_pos (by omega)]
theorem ex_seq {cx : Cxt} {tg : MT} {e : ME} {b : List MS} {s s1 : S} {d : D} {ds : List D} (h : ev cx false e s = .ok (.val d) s1) (hd : itemsD d = some ds) : ex cx (.forS tg (.seq e) b) s = forR tg (fun s => exs cx b s) ds s1 := by
  simp only [ex, evIc, h, bnd, oneR, consume, hd]
theorem rng_ev {cx : Cxt} {s s1 : S} {e : ME} {c : Nat} (hc : c ≤ 1000000) (h : ev cx false e s = .ok (.val (.int (c : Int))) s1) : evI cx (.rng1 e) s = .ok (rangeD 0 (c : Int)) s1 := by
  simp only [evI, h, bnd, Opd.d]
  rw [if_pos (by omega)]
/-- goal first: a loop by number, then the rest -/
theorem end_forN {cx : Cxt} {tg : MT} {e : ME} {b rest : List MS} {s : S} {r : CR} (I : Nat → S → Prop) (n : Nat) {s1 : S} (he : ev cx false e s = .ok (.val (.int (n : Int))) s1) (hn : n ≤ 1000000) (h0 : I 0 s1)
    (step : ∀ (m : Nat) (s : S), m < n → I m s → ∃ env1 s', asgT tg (.int (m : Int)) s.env = some env1 ∧ exs cx b ⟨env1, s.w⟩ = .ok .next s' ∧ I (m + 1) s') (k : ∀ s', I n s' → endR (exs cx rest s') = r) : endR (exs cx (.forS tg (.rng1 e) b :: rest) s) = r := by
  obtain ⟨s', h1, h2⟩ := forN (tg := tg) (b := fun s => exs cx b s) I step h0
  rw [exs_next ((ex_rng he hn).trans h1)]
  exact k s' h2
theorem nx_forN {cx : Cxt} {tg : MT} {e : ME} {b rest : List MS} {s : S} {r : R Fl} (I : Nat → S → Prop) (n : Nat) {s1 : S} (he : ev cx false e s = .ok (.val (.int (n : Int))) s1) (hn : n ≤ 1000000) (h0 : I 0 s1)
    (step : ∀ (m : Nat) (s : S), m < n → I m s → ∃ env1 s', asgT tg (.int (m : Int)) s.env = some env1 ∧ exs cx b ⟨env1, s.w⟩ = .ok .next s' ∧ I (m + 1) s') (k : ∀ s', I n s' → exs cx rest s' = r) : exs cx (.forS tg (.rng1 e) b :: rest) s = r := by
  obtain ⟨s', h1, h2⟩ := forN (tg := tg) (b := fun s => exs cx b s) I step h0
  rw [exs_next ((ex_rng he hn).trans h1)]
  exact k s' h2
/-- a loop over data: what was walked, and the state -/
theorem forD {tg : MT} {b : S → R Fl} {ds : List D} (I : Nat → S → Prop) (step : ∀ (m : Nat) (d : D) (s : S), ds[m]? = some d → I m s → ∃ env1 s', asgT tg d s.env = some env1 ∧ b ⟨env1, s.w⟩ = .ok .next s' ∧ I (m + 1) s') {s : S} (h : I 0 s) :
    ∃ s', forR tg b ds s = .ok .next s' ∧ I ds.length s' := by
  obtain ⟨s', h1, h2⟩ := forR_inv (t := tg) (b := b) (all := ds) (fun done s => I done.length s) (fun done d rest s hd hI => by
    have q : ds[done.length]? = some d := by rw [hd]; simp
    obtain ⟨env1, s', a1, a2, a3⟩ := step done.length d s q hI
    exact ⟨env1, s', a1, .inl a2, by rw [List.length_append]; exact a3⟩) ds [] s rfl h
  exact ⟨s', h1, h2⟩
theorem end_forD {cx : Cxt} {tg : MT} {e : ME} {b rest : List MS} {s : S} {r : CR} (I : Nat → S → Prop) {s1 : S} {d : D} {ds : List D} (he : ev cx false e s = .ok (.val d) s1) (hd : itemsD d = some ds) (h0 : I 0 s1)
    (step : ∀ (m : Nat) (d : D) (s : S), ds[m]? = some d → I m s → ∃ env1 s', asgT tg d s.env = some env1 ∧ exs cx b ⟨env1, s.w⟩ = .ok .next s' ∧ I (m + 1) s') (k : ∀ s', I ds.length s' → endR (exs cx rest s') = r) : endR (exs cx (.forS tg (.seq e) b :: rest) s) = r := by
  obtain ⟨s', h1, h2⟩ := forD (tg := tg) (b := fun s => exs cx b s) I step h0
  rw [exs_next ((ex_seq he hd).trans h1)]
  exact k s' h2
theorem nx_forD {cx : Cxt} {tg : MT} {e : ME} {b rest : List MS} {s : S} {r : R Fl} (I : Nat → S → Prop) {s1 : S} {d : D} {ds : List D} (he : ev cx false e s = .ok (.val d) s1) (hd : itemsD d = some ds) (h0 : I 0 s1)
    (step : ∀ (m : Nat) (d : D) (s : S), ds[m]? = some d → I m s → ∃ env1 s', asgT tg d s.env = some env1 ∧ exs cx b ⟨env1, s.w⟩ = .ok .next s' ∧ I (m + 1) s') (k : ∀ s', I ds.length s' → exs cx rest s' = r) : exs cx (.forS tg (.seq e) b :: rest) s = r := by
  obtain ⟨s', h1, h2⟩ := forD (tg := tg) (b := fun s => exs cx b s) I step h0
  rw [exs_next ((ex_seq he hd).trans h1)]
  exact k s' h2
/-- goal first: one statement, then the rest -/
theorem end_next {cx : Cxt} {st : MS} {rest : List MS} {s : S} {r : CR} (s' : S) (h : ex cx st s = .ok .next s') (k : endR (exs cx rest s') = r) : endR (exs cx (st :: rest) s) = r := by
  rw [exs_next h]; exact k
theorem nx_next {cx : Cxt} {st : MS} {rest : List MS} {s : S} {r : R Fl} (s' : S) (h : ex cx st s = .ok .next s') (k : exs cx rest s' = r) : exs cx (st :: rest) s = r := by
  rw [exs_next h]; exact k
/-- an int's neighbour -/
theorem neigh_int {T : Tab} (h6 : T.fn 6 = some fdLawNeighbour) {n : Nat} {i : Int} (w : MP.W) : ∃ j w', callF T (n + 2) 6 [.st, .int i] w = .ok (.int j) w' ∧ (j = i + 1 ∨ j = i - 1) := by
  rw [callF_eq (by decide) h6 (by rfl)]
  have nx := next_call (T := T) (n := n) (w := w) (lim := 2) (by decide) (by decide)
  obtain ⟨z, h1, h2⟩ := draw_at' (xs := [.int 1, .int (-1)]) w (lim := 2) (by simp) (by simp)
  simp only [List.mem_cons, List.not_mem_nil, or_false] at h1
  rcases h1 with rfl | rfl
  · refine ⟨i + 1, (nextW w 2).2, ?_, .inl rfl⟩
    simp [fdLawNeighbour, LN, startE, exs, ex, ev, evs, evc, isBl, bnd, isTys, isTy, Opd.d, truthD, tr, opD, outR, endR, oneR, consume, callR, negD, nx, ixD, h2, bindNm, addD]
  · refine ⟨i - 1, (nextW w 2).2, ?_, .inr rfl⟩
    have e : i + -1 = i - 1 := by omega
    simp [fdLawNeighbour, LN, startE, exs, ex, ev, evs, evc, isBl, bnd, isTys, isTy, Opd.d, truthD, tr, opD, outR, endR, oneR, consume, callR, negD, nx, ixD, h2, bindNm, addD, e]
/-- the same, of truth values -/
theorem same_bl {T : Tab} (h8 : T.fn 8 = some fdLawSame) {n : Nat} (w : MP.W) (b : Bool) : callF T (n + 1) 8 [.bl b, .bl b] w = .ok (.bl true) w := by
  have q := same_scal (T := T) h8 (a := .bl b) (e := .bl b) (n := n) (w := w) (.inl (by simp [shp])) rfl (by simp [shp])
  rw [q]
  simp [sameD]
theorem next_at {T : Tab} {n : Nat} {w : MP.W} {lim : Int} (h : 0 < lim) (h2 : lim < 1000000) : ∃ (k : Nat) (w' : MP.W), (k : Int) < lim ∧ callF T (n + 1) 0 [.st, .int lim] w = .ok (.int (k : Int)) w' := by
  have nx := next_call (T := T) (n := n) (w := w) (lim := lim) h h2
  have b0 := draw_bnd w (lim := lim) h
  refine ⟨(nextW w lim).1.toNat, (nextW w lim).2, by omega, ?_⟩
  rw [nx]
  congr 2
  omega
end MP
set_option Elab.async false
set_option linter.all false
set_option maxRecDepth 100000
/-! What is told: its bounds at once; the frame's call of the judge with nothing. -/
namespace MP
open PySem L2

structure TO (k : Nat) (d : D) : Prop where
  sh : shp k d = true
  pb : plB d = true
  ib : intB 1000 d = true
theorem TO.le {k m : Nat} {d : D} (h : TO k d) (hm : k ≤ m) : TO m d := ⟨shp_le h.sh hm, h.pb, h.ib⟩
theorem TO.str {k : Nat} (x : String) : TO k (.str (PySem.Str.ofString x)) := ⟨by simp only [shp, sOk_of], rfl, rfl⟩
theorem TO.int {k : Nat} {i : Int} (h : i.natAbs < 2 ^ 1000) : TO k (.int i) := ⟨by simp only [shp], rfl, by simp only [intB, decide_eq_true_eq]; exact h⟩
theorem TO.bl {k : Nat} {b : Bool} : TO k (.bl b) := ⟨by simp only [shp], rfl, rfl⟩
theorem intBs_of {b : Nat} : ∀ {xs : List D}, (∀ x ∈ xs, intB b x = true) → intBs b xs = true
  | [], _ => rfl
  | x :: r, h => by
    simp only [intBs, Bool.and_eq_true]
    exact ⟨h x List.mem_cons_self, intBs_of fun y hy => h y (List.mem_cons_of_mem _ hy)⟩
theorem plBs_of : ∀ {xs : List D}, (∀ x ∈ xs, plB x = true) → plBs xs = true
  | [], _ => rfl
  | x :: r, h => by
    simp only [plBs, Bool.and_eq_true]
    exact ⟨h x List.mem_cons_self, plBs_of fun y hy => h y (List.mem_cons_of_mem _ hy)⟩
theorem TO.tup {k : Nat} {xs : List D} (h : ∀ x ∈ xs, TO k x) : TO (k + 1) (.tup xs) :=
  ⟨by simp only [shp]; exact shps_of fun x hx => (h x hx).sh, by simp only [plB]; exact plBs_of fun x hx => (h x hx).pb, by simp only [intB]; exact intBs_of fun x hx => (h x hx).ib⟩
theorem TO.rat {k : Nat} {r : Rat} (h : rb 1000 r) (hk : 1 ≤ k) : TO k (qD r) := by
  refine TO.le (TO.tup (k := 0) fun x hx => ?_) hk
  simp only [List.mem_cons, List.not_mem_nil, or_false] at hx
  rcases hx with rfl | rfl
  · exact .int h.1
  · exact .int (by rw [Int.natAbs_natCast]; exact h.2)
theorem TO.rats {rs : List Rat} (h : ∀ r ∈ rs, rb 1000 r) : TO 2 (.tup (rs.map qD)) := TO.tup fun x hx => by
  obtain ⟨r, hr, rfl⟩ := List.mem_map.mp hx
  exact .rat (h r hr) (by decide)
theorem TO.okG {k : Nat} {d : D} (h : TO k d) (hk : k ≤ 64) (hz : szD d ≤ 900000) : okG d := okG_le (gd_by h.sh h.ib hz) hk
theorem TO.odd {T : Tab} (O : OddT T) {k n : Nat} {xs : List D} (h : TO (k + 1) (.tup xs)) (hk : k ≤ 50) (hx : xs ≠ []) (hz : szD (.tup xs) ≤ 800000) (w : MP.W) : ∃ d w', callF T (k + 5 + n) 7 [.st, .tup xs] w = .ok d w' ∧ MP.okG d := by
  refine odd_run O hk hx (by simpa only [shp] using h.sh) (by simpa only [plB] using h.pb) ?_ (by simpa only [intB] using h.ib)
  simp only [szD] at hz
  omega
theorem sz_qD (r : Rat) : szD (qD r) ≤ 9 := by simp [qD, szD, szDs]
theorem sz_rats (rs : List Rat) : szDs (rs.map qD) ≤ 10 * rs.length + 10 := by
  induction rs with
  | nil => simp [szDs]
  | cons r rs ih =>
    have := sz_qD r
    simp only [List.map_cons, szDs, List.length_cons]
    omega
theorem okG_pl {d : D} (h : okG d) (c : d = .non ∨ True) : okA d := h.okA
theorem okG_non : okG .non := okG_le (k := 0) (by simp [gd]) (by decide)
/-- what is told with its word, in so many parts -/
theorem told2 {wd : Str} {d : D} (h : toldB wd 2 d = true) : ∃ y, d = .tup [.str wd, y] := by
  unfold toldB at h
  split at h
  · rename_i s r
    simp only [Bool.and_eq_true, beq_iff_eq] at h
    obtain ⟨h1, rfl⟩ := h
    match r, h1 with
    | [y], _ => exact ⟨y, rfl⟩
  · cases h
theorem told3 {wd : Str} {d : D} (h : toldB wd 3 d = true) : ∃ y z, d = .tup [.str wd, y, z] := by
  unfold toldB at h
  split at h
  · rename_i s r
    simp only [Bool.and_eq_true, beq_iff_eq] at h
    obtain ⟨h1, rfl⟩ := h
    match r, h1 with
    | [y, z], _ => exact ⟨y, z, rfl⟩
  · cases h
theorem told4 {wd : Str} {d : D} (h : toldB wd 4 d = true) : ∃ y z u, d = .tup [.str wd, y, z, u] := by
  unfold toldB at h
  split at h
  · rename_i s r
    simp only [Bool.and_eq_true, beq_iff_eq] at h
    obtain ⟨h1, rfl⟩ := h
    match r, h1 with
    | [y, z, u], _ => exact ⟨y, z, u, rfl⟩
  · cases h
theorem toldB2 (wd : Str) (y : D) : toldB wd 2 (.tup [.str wd, y]) = true := by simp [toldB]
theorem toldB3 (wd : Str) (y z : D) : toldB wd 3 (.tup [.str wd, y, z]) = true := by simp [toldB]
theorem toldB4 (wd : Str) (y z u : D) : toldB wd 4 (.tup [.str wd, y, z, u]) = true := by simp [toldB]
theorem sameD_ne {a e : D} (h : pl e = true) (q : a ≠ e) : sameD a e = false := by
  cases hs : sameD a e with
  | false => rfl
  | true => exact absurd (sameD_eq e a h hs) q
theorem eqD_same {a e : D} (ha : pl a = true) (h : pl e = true) : eqD a e = sameD a e := by
  rw [eqD_iff ha h, sameD_iff h]
theorem eqB_ok {a b : D} {neg : Bool} (h1 : shp 64 a = true) (h2 : shp 64 b = true) : eqB neg [a, b] = some (.v (.bl (if neg then !eqD a b else eqD a b))) := by
  simp [eqB, h1, h2]
theorem okG_shp {d : D} (h : okG d) (hd : ∀ kvs, d ≠ .dct kvs) : shp 64 d = true := by
  rcases h with h | ⟨k, h⟩
  · exact gd_shp h
  · exact absurd h (hd k)
section
variable {F : Nat → List D → MP.W → CR} {G : Nat → Option D}
theorem draw_ev {m : Bool} {E : Env} {w w1 : MP.W} {lim k : Int} (h : At E 1 .st) (c : F 0 [.st, .int lim] w = .ok (.int k) w1) : ev ⟨F, G⟩ m (.call 0 [.var 1, .cI lim]) ⟨E, w⟩ = tr m (.val (.int k)) ⟨E, w1⟩ := by
  unfold At at h
  simp [ev, evc, h, bnd, tr, oneR, consume, callR, c]
theorem ex_draw {E : Env} {w w1 : MP.W} {lim k : Int} {t : Nat} (h : At E 1 .st) (c : F 0 [.st, .int lim] w = .ok (.int k) w1) (ht : t < E.length) : ex ⟨F, G⟩ (.asg (.nm t) (.call 0 [.var 1, .cI lim])) ⟨E, w⟩ = .ok .next ⟨E.set t (some (.int k, false)), w1⟩ := by
  have q := draw_ev (G := G) (m := false) h c
  generalize (ME.call 0 [.var 1, .cI lim]) = e at q ⊢
  simp [ex, q, bnd, tr, ht, bindNm]
end
end MP
set_option Elab.async false
set_option linter.all false
set_option maxRecDepth 100000
/-! Sums of rows, drawn parts, rows nearby. -/
namespace MP
open PySem L2

def rsum : List Rat → Rat
  | [] => 0
  | x :: r => x + rsum r
theorem rsum_app : ∀ (a b : List Rat), rsum (a ++ b) = rsum a + rsum b
  | [], b => (Rat.zero_add _).symm
  | x :: a, b => by
    show x + rsum (a ++ b) = x + rsum a + rsum b
    rw [rsum_app a b, Rat.add_assoc]
theorem rsum_take {rs : List Rat} {m : Nat} {r : Rat} (h : rs[m]? = some r) : rsum (rs.take (m + 1)) = rsum (rs.take m) + r := by
  rw [List.take_add_one, h, rsum_app]
  show rsum (rs.take m) + (r + 0) = _
  rw [Rat.add_zero]
theorem rb_zero : rb 1 (0 : Rat) := ⟨by decide, by decide⟩
theorem rb_one : rb 1 (1 : Rat) := ⟨by decide, by decide⟩
theorem rb_nat {i : Nat} {k : Nat} (h : i < 2 ^ k) (h1 : 1 ≤ k) : rb k (((i : Nat) : Int) : Rat) := by
  refine ⟨?_, ?_⟩
  · rw [Rat.num_intCast]; simpa using h
  · rw [Rat.den_intCast]; exact Nat.one_lt_two_pow (by omega)
theorem rb_rsum {b : Nat} : ∀ {rs : List Rat}, (∀ r ∈ rs, rb b r) → rb (1 + rs.length * (b + 1)) (rsum rs)
  | [], _ => by simpa [rsum] using rb_zero
  | r :: rs, h => by
    have h1 := h r List.mem_cons_self
    have h2 := rb_rsum (rs := rs) fun x hx => h x (List.mem_cons_of_mem _ hx)
    refine rb_le (rb_add h1 h2) ?_
    simp only [List.length_cons, Nat.add_mul, Nat.one_mul]
    omega
theorem rb_take {b : Nat} {rs : List Rat} (h : ∀ r ∈ rs, rb b r) (m : Nat) : rb (1 + rs.length * (b + 1)) (rsum (rs.take m)) := by
  refine rb_le (rb_rsum (b := b) fun r hr => h r (List.mem_of_mem_take hr)) ?_
  have : (rs.take m).length ≤ rs.length := by rw [List.length_take]; omega
  have := Nat.mul_le_mul_right (b + 1) this
  omega
theorem map_get {rs : List Rat} {m : Nat} {d : D} (h : (rs.map qD)[m]? = some d) : ∃ r, rs[m]? = some r ∧ d = qD r := by
  rw [List.getElem?_map, Option.map_eq_some_iff] at h
  obtain ⟨r, h1, h2⟩ := h
  exact ⟨r, h1, h2.symm⟩
theorem mem_get {rs : List Rat} {m : Nat} {r : Rat} (h : rs[m]? = some r) : r ∈ rs := List.mem_of_getElem? h
section
variable {T : Tab} {n : Nat} {w : MP.W}
theorem total_run (h15 : T.fn 15 = some fdDivisor) (h17 : T.fn 17 = some fdRatio) (h20 : T.fn 20 = some fdPlus) (h23 : T.fn 23 = some fdTotal) (g18 : T.gl 18 = some (qD 0)) {rs : List Rat} {b : Nat} {d : D} (hd : itemsD d = some (rs.map qD)) (hr : ∀ r ∈ rs, rb b r) (hb : 1 + rs.length * (b + 1) ≤ 3000) (hb2 : b ≤ 3000) :
    callF T (n + 4) 23 [d] w = .ok (qD (rsum rs)) w := by
  rw [callF_eq (by decide) h23 (by rfl)]
  have c20 : ∀ (m : Nat) (r : Rat), rs[m]? = some r → callF T (n + 3) 20 [qD (rsum (rs.take m)), qD r] w = .ok (qD (rsum (rs.take (m + 1)))) w := fun m r h => by
    rw [rsum_take h]
    exact plus_run h15 h17 h20 (rb_le (rb_take hr m) hb) (rb_le (hr r (mem_get h)) hb2)
  show endR (exs _ fdTotal.body ⟨[some (d, false), none, none], w⟩) = _
  generalize callF T (n + 3) = F at c20 ⊢
  generalize T.gl = G at g18 ⊢
  unfold fdTotal
  dsimp only
  refine end_next ⟨[some (d, false), some (qD 0, false), none], w⟩ (by simp [exs, ex, ev, evs, evc, evOr, evAnd, isBl, bnd, tr, Opd.d, opD, outR, oneR, consume, endR, callR, truthD, bindNm, isObjD, isL, LN, g18]) ?_
  refine end_forD (fun m s => ∃ x, s = ⟨[some (d, false), some (qD (rsum (rs.take m)), false), x], w⟩) (s1 := ⟨[some (d, false), some (qD 0, false), none], w⟩) (by simp [ev, tr]) hd ⟨none, rfl⟩ ?_ ?_
  · rintro m x s hx ⟨y, rfl⟩
    obtain ⟨r, h1, rfl⟩ := map_get hx
    refine ⟨_, ⟨[some (d, false), some (qD (rsum (rs.take (m + 1))), false), some (qD r, false)], w⟩, asg_nm (by simp), ?_, _, rfl⟩
    have c := c20 m r h1
    generalize qD (rsum (rs.take (m + 1))) = z at c ⊢
    generalize qD (rsum (rs.take m)) = z2 at c ⊢
    simp [exs, ex, ev, evs, evc, evOr, evAnd, isBl, bnd, tr, Opd.d, opD, outR, oneR, consume, endR, callR, truthD, bindNm, isObjD, isL, LN, c]
  · rintro s ⟨x, rfl⟩
    rw [List.length_map, List.take_length]
    simp [exs, ex, ev, evs, evc, evOr, evAnd, isBl, bnd, tr, Opd.d, opD, outR, oneR, consume, endR, callR, truthD, bindNm, isObjD, isL, LN]
theorem law_total_run (h13 : T.fn 13 = some fdLawGcd) (h14 : T.fn 14 = some fdLawOf) (h22 : T.fn 22 = some fdLawAdd) {nm x1 x2 x3 : Str} (h30 : T.fn 30 = some ⟨nm, 1, [x1, x2, x3], [.asg (.nm 1) (.tup [.cI 0, .cI 1]), .forS (.nm 2) (.seq (.var 0)) [.asg (.nm 1) (.call 22 [.var 1, .var 2])], .ret (.var 1)]⟩) {rs : List Rat} {b : Nat} {d : D} (hd : itemsD d = some (rs.map qD)) (hr : ∀ r ∈ rs, rb b r) (hb : 1 + rs.length * (b + 1) ≤ 3000) (hb2 : b ≤ 3000) :
    callF T (n + 4) 30 [d] w = .ok (qD (rsum rs)) w := by
  rw [callF_eq (by decide) h30 (by rfl)]
  have c22 : ∀ (m : Nat) (r : Rat), rs[m]? = some r → callF T (n + 3) 22 [qD (rsum (rs.take m)), qD r] w = .ok (qD (rsum (rs.take (m + 1)))) w := fun m r h => by
    rw [rsum_take h]
    exact law_add_run h13 h14 h22 (rb_le (rb_take hr m) hb) (rb_le (hr r (mem_get h)) hb2)
  have e0 : D.tup [.int 0, .int 1] = qD 0 := rfl
  show endR (exs _ [.asg (.nm 1) (.tup [.cI 0, .cI 1]), .forS (.nm 2) (.seq (.var 0)) [.asg (.nm 1) (.call 22 [.var 1, .var 2])], .ret (.var 1)] ⟨[some (d, false), none, none], w⟩) = _
  generalize callF T (n + 3) = F at c22 ⊢
  generalize T.gl = G
  refine end_next ⟨[some (d, false), some (qD 0, false), none], w⟩ (by simp [exs, ex, ev, evs, evc, evOr, evAnd, isBl, bnd, tr, Opd.d, opD, outR, oneR, consume, endR, callR, truthD, bindNm, isObjD, isL, LN, e0]) ?_
  refine end_forD (fun m s => ∃ x, s = ⟨[some (d, false), some (qD (rsum (rs.take m)), false), x], w⟩) (s1 := ⟨[some (d, false), some (qD 0, false), none], w⟩) (by simp [ev, tr]) hd ⟨none, rfl⟩ ?_ ?_
  · rintro m x s hx ⟨y, rfl⟩
    obtain ⟨r, h1, rfl⟩ := map_get hx
    refine ⟨_, ⟨[some (d, false), some (qD (rsum (rs.take (m + 1))), false), some (qD r, false)], w⟩, asg_nm (by simp), ?_, _, rfl⟩
    have c := c22 m r h1
    generalize qD (rsum (rs.take (m + 1))) = z at c ⊢
    generalize qD (rsum (rs.take m)) = z2 at c ⊢
    simp [exs, ex, ev, evs, evc, evOr, evAnd, isBl, bnd, tr, Opd.d, opD, outR, oneR, consume, endR, callR, truthD, bindNm, isObjD, isL, LN, c]
  · rintro s ⟨x, rfl⟩
    rw [List.length_map, List.take_length]
    simp [exs, ex, ev, evs, evc, evOr, evAnd, isBl, bnd, tr, Opd.d, opD, outR, oneR, consume, endR, callR, truthD, bindNm, isObjD, isL, LN]
/-! ### a row nearby -/
theorem near_frac {r : Rat} {st : Int} (hs : st = 1 ∨ st = -1) : ∃ r', D.tup [.int (r.num + st * r.den), .int (r.den : Int)] = qD r' ∧ ∀ b, rb b r → rb (b + 1) r' := by
  have f : fracB (D.tup [.int (r.num + st * r.den), .int (r.den : Int)]) = true := by
    have hp := r.den_pos
    have c := r.reduced
    simp only [fracB, Bool.and_eq_true, decide_eq_true_eq, beq_iff_eq]
    refine ⟨by omega, ?_⟩
    have e : Int.gcd (r.num + st * (r.den : Int)) (r.den : Int) = Int.gcd r.num (r.den : Int) := Int.gcd_add_mul_right_left ..
    rw [e]
    exact c
  obtain ⟨r', e⟩ := fracB_iff.mp f
  refine ⟨r', e, fun b h => ?_⟩
  unfold qD at e
  simp only [D.tup.injEq, List.cons.injEq, D.int.injEq, and_true] at e
  obtain ⟨e1, e2⟩ := e
  have e2 : r.den = r'.den := by omega
  refine ⟨?_, ?_⟩
  · rw [← e1, Nat.pow_succ]
    have := h.1
    have := h.2
    rcases hs with rfl | rfl <;> omega
  · rw [← e2]
    exact pow_up h.2 (by omega)
theorem neigh_rats (h6 : T.fn 6 = some fdLawNeighbour) (rs : List Rat) (hl : rs.length ≤ 100000) (hb29 : ∀ r ∈ rs, rb 2900 r) (w : MP.W) : ∃ (rs' : List Rat) (w' : MP.W), callF T (n + 2) 6 [.st, .tup (rs.map qD)] w = .ok (.tup (rs'.map qD)) w' ∧ rs'.length ≤ rs.length ∧ ∀ b, b ≤ 2900 → (∀ r ∈ rs, rb b r) → ∀ r ∈ rs', rb (b + 1) r := by
  rw [callF_eq (by decide) h6 (by rfl)]
  have nx : ∀ (w : MP.W) (lim : Int), 0 < lim → lim < 1000000 → callF T (n + 1) 0 [.st, .int lim] w = .ok (.int (nextW w lim).1) (nextW w lim).2 := fun w lim h1 h2 => next_call h1 h2
  show ∃ (rs' : List Rat) (w' : MP.W), endR (exs ⟨callF T (n + 1), T.gl⟩ fdLawNeighbour.body ⟨[some (.st, false), some (.tup (rs.map qD), false), none, none, none, none], w⟩) = .ok (.tup (rs'.map qD)) w' ∧ _
  have bump : ∀ b, (∀ r ∈ rs, rb b r) → ∀ r ∈ rs, rb (b + 1) r := fun b h r hr => rb_le (h r hr) (by omega)
  have dr : ∀ (w : MP.W) (lim : Nat), 0 < lim → lim < 1000000 → ∃ (k : Nat) (w' : MP.W), k < lim ∧ callF T (n + 1) 0 [.st, .int (lim : Int)] w = .ok (.int (k : Int)) w' := fun w lim h1 h2 => by
    obtain ⟨k, w', h3, h4⟩ := next_at (T := T) (n := n) (w := w) (lim := (lim : Int)) (by omega) (by omega)
    exact ⟨k, w', by omega, h4⟩
  generalize callF T (n + 1) = F at nx dr
  generalize T.gl = G
  unfold fdLawNeighbour
  obtain ⟨ks, w1, hks, n1⟩ := dr w 2 (by decide) (by decide)
  have n1 : F 0 [.st, .int 2] w = .ok (.int (ks : Int)) w1 := n1
  obtain ⟨st, hst, ast⟩ : ∃ st : Int, (st = 1 ∨ st = -1) ∧ atI [D.int 1, D.int (-1)] (ks : Int) = some (.int st) := by
    have : ks = 0 ∨ ks = 1 := by omega
    rcases this with rfl | rfl
    · exact ⟨1, .inl rfl, by simp [atI, ixN]⟩
    · exact ⟨-1, .inr rfl, by simp [atI, ixN]⟩
  have s1 : exs ⟨F, G⟩ [.ife (.isi (.var 1) [.bool, .str]) [.ret (.var 1)] [], .asg (.nm 2) (.op .ix [.lst [.cI 1, .op .neg [.cI 1]], .call 0 [.var 0, .cI 2]]), .ife (.isi (.var 1) [.int]) [.ret (.op .add [.var 1, .var 2])] []] ⟨[some (.st, false), some (.tup (rs.map qD), false), none, none, none, none], w⟩ = .ok .next ⟨[some (.st, false), some (.tup (rs.map qD), false), some (.int st, false), none, none, none], w1⟩ := by
    simp [exs, ex, ev, evs, evc, evOr, evAnd, isBl, bnd, tr, Opd.d, opD, outR, oneR, consume, endR, callR, truthD, bindNm, isObjD, isL, LN, isTys, isTy, negD, n1, ixD, ast]
  simp only [exs, bnd] at s1
  have s1' : ∀ rest, exs ⟨F, G⟩ (.ife (.isi (.var 1) [.bool, .str]) [.ret (.var 1)] [] :: .asg (.nm 2) (.op .ix [.lst [.cI 1, .op .neg [.cI 1]], .call 0 [.var 0, .cI 2]]) :: .ife (.isi (.var 1) [.int]) [.ret (.op .add [.var 1, .var 2])] [] :: rest) ⟨[some (.st, false), some (.tup (rs.map qD), false), none, none, none, none], w⟩ = exs ⟨F, G⟩ rest ⟨[some (.st, false), some (.tup (rs.map qD), false), some (.int st, false), none, none, none], w1⟩ := by
    intro rest
    rw [exs_next (s' := ⟨[some (.st, false), some (.tup (rs.map qD), false), none, none, none, none], w⟩) (by simp [exs, ex, ev, evs, evc, evOr, evAnd, isBl, bnd, tr, Opd.d, opD, outR, oneR, consume, endR, callR, truthD, bindNm, isObjD, isL, LN, isTys, isTy]),
      exs_next (s' := ⟨[some (.st, false), some (.tup (rs.map qD), false), some (.int st, false), none, none, none], w1⟩) (by simp [exs, ex, ev, evs, evc, evOr, evAnd, isBl, bnd, tr, Opd.d, opD, outR, oneR, consume, endR, callR, truthD, bindNm, isObjD, isL, LN, negD, n1, ixD, ast]),
      exs_next (s' := ⟨[some (.st, false), some (.tup (rs.map qD), false), some (.int st, false), none, none, none], w1⟩) (by simp [exs, ex, ev, evs, evc, evOr, evAnd, isBl, bnd, tr, Opd.d, opD, outR, oneR, consume, endR, callR, truthD, bindNm, isObjD, isL, LN, isTys, isTy])]
  rw [s1']
  clear s1 s1'
  have hsh : shp 64 (.tup (rs.map qD)) = true := by
    simp only [shp]
    refine shps_of fun x hx => ?_
    obtain ⟨r, _, rfl⟩ := List.mem_map.mp hx
    simp [qD, shp, shps]
  have en : eqB false [.tup (rs.map qD), .tup []] = some (.v (.bl (rs.map qD).isEmpty)) := by
    rw [eqB_ok hsh (by simp [shp, shps]), eq_nil]
    rfl
  by_cases h0 : rs = []
  · subst h0
    refine ⟨[], w1, ?_, by simp, fun b _ h => bump b h⟩
    simp [exs, ex, ev, evs, evc, evOr, evAnd, isBl, bnd, tr, Opd.d, opD, outR, oneR, consume, endR, callR, truthD, bindNm, isObjD, isL, LN, isTys, isTy, show eqB false [.tup [], .tup []] = some (.v (.bl true)) from en]
  · have hpos : 0 < rs.length := List.length_pos_iff.mpr h0
    have hem : (rs.map qD).isEmpty = false := by
      cases rs with
      | nil => exact absurd rfl h0
      | cons _ _ => rfl
    obtain ⟨k, w2, hk, n2⟩ := dr w1 rs.length hpos (by omega)
    have hlen : (rs.map qD).length = rs.length := List.length_map ..
    obtain ⟨r, hr⟩ : ∃ r, rs[k]? = some r := ⟨rs[k], List.getElem?_eq_getElem hk⟩
    have ak : atI (rs.map qD) (k : Int) = some (qD r) := by
      rw [atI_nat (by rw [hlen]; exact hk)]
      rw [List.getElem?_eq_getElem hk] at hr
      cases hr
      simp
    rw [exs_next (s' := ⟨[some (.st, false), some (.tup (rs.map qD), false), some (.int st, false), none, none, none], w1⟩) (by simp [exs, ex, ev, evs, evc, evOr, evAnd, isBl, bnd, tr, Opd.d, opD, outR, oneR, consume, endR, callR, truthD, bindNm, isObjD, isL, LN, isTys, isTy, en, hem]),
      exs_next (s' := ⟨[some (.st, false), some (.tup (rs.map qD), false), some (.int st, false), some (.int (k : Int), false), none, none], w2⟩) (by simp only [exs, ex, ev, evs, evc, evOr, evAnd, isBl, bnd, tr, Opd.d, opD, outR, oneR, consume, endR, callR, truthD, bindNm, isObjD, isL, LN, lenD, hlen, n2, List.getElem?_cons_zero, List.getElem?_cons_succ, Bool.false_eq_true, if_false, List.length_cons, List.length_nil, Nat.reduceAdd, Nat.reduceLT, if_true, List.set]),
      exs_next (s' := ⟨[some (.st, false), some (.tup (rs.map qD), false), some (.int st, false), some (.int (k : Int), false), some (qD r, false), none], w2⟩) (by simp [exs, ex, ev, evs, evc, evOr, evAnd, isBl, bnd, tr, Opd.d, opD, outR, oneR, consume, endR, callR, truthD, bindNm, isObjD, isL, LN, ixD, ak]),
      exs_next (s' := ⟨[some (.st, false), some (.tup (rs.map qD), false), some (.int st, false), some (.int (k : Int), false), some (qD r, false), none], w2⟩) (by simp [exs, ex, ev, evs, evc, evOr, evAnd, isBl, bnd, tr, Opd.d, opD, outR, oneR, consume, endR, callR, truthD, bindNm, isObjD, isL, LN, isTys, isTy, qD])]
    obtain ⟨j, w3, hj, n3⟩ := dr w2 3 (by decide) (by decide)
    have n3 : F 0 [.st, .int 3] w2 = .ok (.int (j : Int)) w3 := n3
    have ad1 : addD [.int (k : Int), .int 1] = some (.v (.int ((k : Int) + 1))) := rfl
    have c1 : cutD (.tup (rs.map qD)) none (some (k : Int)) = some (.v (.tup ((rs.take k).map qD))) := by
      show some (Rs.v (.tup (cutL (rs.map qD) none (some (k : Int))))) = _
      simp only [cutL, HT.sIx_nat, HT.sIx_none, List.drop_zero, Nat.sub_zero, hlen]
      rw [Nat.min_eq_left (by omega), List.map_take]
    have c2 : cutD (.tup (rs.map qD)) (some ((k : Int) + 1)) none = some (.v (.tup ((rs.drop (k + 1)).map qD))) := by
      show some (Rs.v (.tup (cutL (rs.map qD) (some ((k + 1 : Nat) : Int)) none))) = _
      simp only [cutL, HT.sIx_nat, HT.sIx_none, hlen]
      rw [Nat.min_eq_left (by omega), List.map_drop]
      rw [List.take_of_length_le (by rw [List.length_drop, hlen]; omega)]
    have a0 : ixD [qD r, .int 1] = some (.v (.int (r.den : Int))) := ix1 r
    have a1 : ixD [qD r, .int 0] = some (.v (.int r.num)) := ix0 r
    have comp : ev ⟨F, G⟩ false (.comp [5] (.var 5) (.nm 5) (.seq (.var 4)) (some (.not (.isi (.var 5) [.int])))) ⟨[some (.st, false), some (.tup (rs.map qD), false), some (.int st, false), some (.int (k : Int), false), some (qD r, false), none], w2⟩ = .ok (.fresh (.lst [])) ⟨[some (.st, false), some (.tup (rs.map qD), false), some (.int st, false), some (.int (k : Int), false), some (qD r, false), none], w2⟩ := by
      rw [ev_comp1 (fun _ => false) id (ds := [.int r.num, .int (r.den : Int)]) (s := ⟨[some (.st, false), some (.tup (rs.map qD), false), some (.int st, false), some (.int (k : Int), false), some (qD r, false), none], w2⟩)]
      · rfl
      · simp [evI, ev, bnd, tr, Opd.d, itemsD, qD]
      · show 5 < 6
        omega
      · rfl
      · show 2 ≤ LN
        decide
      · intro d hd
        refine ⟨?_, fun h => by cases h⟩
        simp only [List.mem_cons, List.not_mem_nil, or_false] at hd
        rcases hd with rfl | rfl <;> simp [evO, exs, ex, ev, evs, evc, evOr, evAnd, isBl, bnd, tr, Opd.d, opD, outR, oneR, consume, endR, callR, truthD, bindNm, isObjD, isL, LN, isTys, isTy]
    revert comp
    generalize (ME.comp [5] (.var 5) (.nm 5) (.seq (.var 4)) (some (.not (.isi (.var 5) [.int])))) = q
    intro comp
    have lq : lenD [qD r] = some (.v (.int 2)) := rfl
    have tq : isTys (qD r) [.tuple] = some true := rfl
    have hd : (0 : Int) < (r.den : Int) := by have := r.den_pos; omega
    have el : eqB false [.lst [], .lst []] = some (.v (.bl true)) := by simp [eqB, shp, shps, eqD, eqDs]
    have e2 : eqB false [.int 2, .int 2] = some (.v (.bl true)) := by simp [eqB, shp, eqD]
    have lt : ((rs.take k).map qD).length ≤ rs.length := by simp; omega
    have ld : ((rs.drop (k + 1)).map qD).length ≤ rs.length := by simp
    have cnd : ev ⟨F, G⟩ true (.andL [.isi (.var 4) [.tuple], .op .eq [.op .len [.var 4], .cI 2], .op .eq [q, .lst []], .op .gt [.op .ix [.var 4, .cI 1], .cI 0], .op .gt [.call 0 [.var 0, .cI 3], .cI 0]]) ⟨[some (.st, false), some (.tup (rs.map qD), false), some (.int st, false), some (.int (k : Int), false), some (qD r, false), none], w2⟩ = .ok (.val (.bl (decide ((0 : Int) < (j : Int))))) ⟨[some (.st, false), some (.tup (rs.map qD), false), some (.int st, false), some (.int (k : Int), false), some (qD r, false), none], w3⟩ := by
      simp [exs, ex, ev, evs, evc, evOr, evAnd, isBl, bnd, tr, Opd.d, opD, outR, oneR, consume, endR, callR, truthD, bindNm, isObjD, isL, LN, tq, lq, e2, comp, el, a0, cmpI, MP.i2, hd, n3, r.den_pos]
    by_cases hj0 : (0 : Int) < (j : Int)
    · rw [decide_eq_true hj0] at cnd
      obtain ⟨r', e', hb'⟩ := near_frac (r := r) hst
      have rbr := hb29 r (mem_get hr)
      obtain ⟨_, b2⟩ := rb_bits rbr (by decide)
      have b3 : bits st ≤ 10 := by rcases hst with rfl | rfl <;> decide
      have mu := mulI (i := st) (j := (r.den : Int)) (by omega) (by omega)
      have ad2 : addD [.int r.num, .int (st * (r.den : Int))] = some (.v (.int (r.num + st * (r.den : Int)))) := rfl
      have al1 := addT (x := (rs.take k).map qD) (y := [qD r']) (by simp; omega)
      have al2 := addT (x := (rs.take k).map qD ++ [qD r']) (y := (rs.drop (k + 1)).map qD) (by simp only [List.length_append, List.length_cons, List.length_nil]; omega)
      have fin : (rs.take k).map qD ++ [qD r'] ++ (rs.drop (k + 1)).map qD = (rs.take k ++ [r'] ++ rs.drop (k + 1)).map qD := by simp
      rw [fin] at al2
      refine ⟨rs.take k ++ [r'] ++ rs.drop (k + 1), w3, ?_, by simp; omega, fun b _ h x hx => ?_⟩
      · generalize (rs.take k ++ [r'] ++ rs.drop (k + 1)).map qD = zz at al2 ⊢
        have st4 : ex ⟨F, G⟩ (.ife (.andL [.isi (.var 4) [.tuple], .op .eq [.op .len [.var 4], .cI 2], .op .eq [q, .lst []], .op .gt [.op .ix [.var 4, .cI 1], .cI 0], .op .gt [.call 0 [.var 0, .cI 3], .cI 0]]) [.ret (.op .add [.op .add [.op (.slice false true) [.var 1, .var 3], .tup [.tup [.op .add [.op .ix [.var 4, .cI 0], .op .mul [.var 2, .op .ix [.var 4, .cI 1]]], .op .ix [.var 4, .cI 1]]]], .op (.slice true false) [.var 1, .op .add [.var 3, .cI 1]]])] []) ⟨[some (.st, false), some (.tup (rs.map qD), false), some (.int st, false), some (.int (k : Int), false), some (qD r, false), none], w2⟩ = .ok (.ret (.tup zz)) ⟨[some (.st, false), some (.tup (rs.map qD), false), some (.int st, false), some (.int (k : Int), false), some (qD r, false), none], w3⟩ := by
          rw [ex_t cnd rfl]
          generalize qD r = qr at *
          simp only [exs, ex, ev, evs, evc, evOr, evAnd, isBl, bnd, tr, Opd.d, opD, outR, oneR, consume, endR, callR, truthD, bindNm, isObjD, isL, LN, sliceD, c1, c2, ad1, a0, a1, mu, ad2, e', al1, al2, List.getElem?_cons_zero, List.getElem?_cons_succ, Bool.false_eq_true, if_false, if_true, List.length_cons, List.length_nil, Nat.reduceAdd, Nat.reduceLeDiff]
        rw [exs_ret st4]
        rfl
      · rcases List.mem_append.mp hx with hx | hx
        · rcases List.mem_append.mp hx with hx | hx
          · exact bump b h x (List.mem_of_mem_take hx)
          · simp only [List.mem_cons, List.not_mem_nil, or_false] at hx
            subst hx
            exact hb' b (h r (mem_get hr))
        · exact bump b h x (List.mem_of_mem_drop hx)
    · rw [decide_eq_false hj0] at cnd
      refine ⟨rs.take k ++ rs.drop (k + 1), w3, ?_, by simp; omega, fun b _ h x hr => ?_⟩
      · have al := addT (x := (rs.take k).map qD) (y := (rs.drop (k + 1)).map qD) (by omega)
        rw [← List.map_append] at al
        rw [exs_next (s' := ⟨[some (.st, false), some (.tup (rs.map qD), false), some (.int st, false), some (.int (k : Int), false), some (qD r, false), none], w3⟩) (by rw [ex_f cnd rfl]; rfl)]
        generalize (rs.take k ++ rs.drop (k + 1)).map qD = zz at al ⊢
        generalize (rs.take k).map qD = z1 at al c1
        generalize (rs.drop (k + 1)).map qD = z2 at al c2
        simp [exs, ex, ev, evs, evc, evOr, evAnd, isBl, bnd, tr, Opd.d, opD, outR, oneR, consume, endR, callR, truthD, bindNm, isObjD, isL, LN, sliceD, c1, c2, ad1, al]
      · refine bump b h x ?_
        rcases List.mem_append.mp hr with hr | hr
        · exact List.mem_of_mem_take hr
        · exact List.mem_of_mem_drop hr
end
end MP
set_option Elab.async false
set_option linter.all false
set_option maxRecDepth 100000
/-! Drawn parts; chances that are looked at. -/
namespace MP
open PySem L2

theorem truthD_bl (b : Bool) : truthD (.bl b) = some b := rfl
def unq : D → Rat
  | .tup [.int a, .int b] => Rat.divInt a b
  | _ => 0
theorem unq_qD (r : Rat) : unq (qD r) = r := Rat.num_divInt_den r
theorem unqs (rs : List Rat) : (rs.map qD).map unq = rs := by
  rw [List.map_map]
  conv => rhs; rw [← List.map_id rs]
  exact List.map_congr_left fun r _ => unq_qD r
/-- a comprehension over fractions -/
theorem ev_compQ {cx : Cxt} {m : Bool} {i : Nat} {elt : ME} {src : MI} {cond : Option ME} {s s0 : S} {rs : List Rat} (p : Rat → Bool) (g : Rat → D) (hs : evI cx src s0 = .ok (rs.map qD) s) (hi : i < s.env.length) (ho : noOwn s.env [i] = true) (hl : rs.length ≤ 1000000)
    (h : ∀ r ∈ rs, evO cx cond ⟨s.env.set i (some (qD r, false)), s.w⟩ = .ok (p r) ⟨s.env.set i (some (qD r, false)), s.w⟩ ∧ (p r = true → oneR (ev cx false elt ⟨s.env.set i (some (qD r, false)), s.w⟩) = .ok (g r) ⟨s.env.set i (some (qD r, false)), s.w⟩)) :
    ev cx m (.comp [i] elt (.nm i) src cond) s0 = tr m (.fresh (.lst ((rs.filter p).map g))) s := by
  rw [ev_comp1 (fun d => p (unq d)) (fun d => g (unq d)) hs hi ho (by rw [List.length_map]; exact Nat.le_trans hl (by decide)) (fun d hd => by
    obtain ⟨r, hr, rfl⟩ := List.mem_map.mp hd
    rw [unq_qD]
    exact h r hr)]
  congr 3
  rw [List.filter_map, List.map_map]
  have e1 : ((fun d => p (unq d)) ∘ qD) = p := funext fun r => by simp [unq_qD]
  have e2 : ((fun d => g (unq d)) ∘ qD) = g := funext fun r => by simp [unq_qD]
  rw [e1, e2]
/-- a comprehension over numbers -/
theorem ev_compN {cx : Cxt} {m : Bool} {i : Nat} {elt : ME} {src : MI} {cond : Option ME} {s s0 : S} {n : Nat} (p : Nat → Bool) (g : Nat → D) (hs : evI cx src s0 = .ok (rangeD 0 (n : Int)) s) (hi : i < s.env.length) (ho : noOwn s.env [i] = true) (hl : n ≤ 1000000)
    (h : ∀ k, k < n → evO cx cond ⟨s.env.set i (some (.int (k : Int), false)), s.w⟩ = .ok (p k) ⟨s.env.set i (some (.int (k : Int), false)), s.w⟩ ∧ (p k = true → oneR (ev cx false elt ⟨s.env.set i (some (.int (k : Int), false)), s.w⟩) = .ok (g k) ⟨s.env.set i (some (.int (k : Int), false)), s.w⟩)) :
    ev cx m (.comp [i] elt (.nm i) src cond) s0 = tr m (.fresh (.lst (((List.range n).filter p).map g))) s := by
  let un : D → Nat := fun d => match d with | .int k => k.toNat | _ => 0
  rw [ev_comp1 (fun d => p (un d)) (fun d => g (un d)) hs hi ho (by rw [rangeD0, List.length_map, List.length_range]; exact Nat.le_trans hl (by decide)) (fun d hd => by
    rw [rangeD0] at hd
    obtain ⟨k, hk, rfl⟩ := List.mem_map.mp hd
    exact h k (List.mem_range.mp hk))]
  congr 3
  rw [rangeD0, List.filter_map, List.map_map]
  rfl
theorem isum_app : ∀ (a b : List Int), (a ++ b).sum = a.sum + b.sum
  | [], b => by simp
  | x :: a, b => by simp [isum_app a b]; omega
theorem isum_nonneg : ∀ {ns : List Int}, (∀ i ∈ ns, 0 ≤ i) → 0 ≤ ns.sum
  | [], _ => by simp
  | x :: r, h => by
    have h1 := h x List.mem_cons_self
    have h2 := isum_nonneg (ns := r) fun i hi => h i (List.mem_cons_of_mem _ hi)
    simp only [List.sum_cons]
    omega
theorem isum_le {m : Int} (hm : 0 ≤ m) : ∀ {ns : List Int}, (∀ i ∈ ns, i ≤ m) → ns.sum ≤ ns.length * m
  | [], _ => by simp
  | x :: r, h => by
    have h1 := h x List.mem_cons_self
    have h2 := isum_le hm (ns := r) fun i hi => h i (List.mem_cons_of_mem _ hi)
    simp only [List.sum_cons, List.length_cons]
    have : ((r.length + 1 : Nat) : Int) * m = r.length * m + m := by
      rw [Int.natCast_add, Int.add_mul]
      simp
    omega
theorem intsOf_map : ∀ ns : List Int, intsOf (ns.map D.int) = some ns
  | [] => rfl
  | n :: r => by simp [intsOf, intsOf_map r]
theorem parts_sum {s : Int} (hs : s ≠ 0) : ∀ ns : List Int, rsum (ns.map fun i => Rat.divInt i s) = Rat.divInt ns.sum s
  | [] => by simp [rsum]
  | i :: r => by
    show Rat.divInt i s + rsum (r.map fun i => Rat.divInt i s) = Rat.divInt (i + r.sum) s
    rw [parts_sum hs r, Rat.divInt_add_divInt _ _ hs hs, ← Int.add_mul, Rat.divInt_mul_right hs]
section
variable {T : Tab} {n : Nat}
theorem parts_run (h13 : T.fn 13 = some fdLawGcd) (h14 : T.fn 14 = some fdLawOf) (h27 : T.fn 27 = some fdLawParts) {c : Nat} {low : Int} (hc : 0 < c) (hc2 : c ≤ 100) (hl : 0 ≤ low) (hl2 : low ≤ 20) (w : MP.W) :
    ∃ (rs : List Rat) (w' : MP.W), callF T (n + 3) 27 [.st, .int (c : Int), .int low] w = .ok (.tup (rs.map qD)) w' ∧ rs.length = c ∧ (∀ r ∈ rs, 0 ≤ r ∧ rb 12 r) ∧ rsum rs = 1 := by
  rw [callF_eq (by decide) h27 (by rfl)]
  have dr : ∀ (w : MP.W) (lim : Int), 0 < lim → lim < 1000000 → ∃ (k : Nat) (w' : MP.W), (k : Int) < lim ∧ callF T (n + 2) 0 [.st, .int lim] w = .ok (.int (k : Int)) w' := fun w lim h1 h2 => next_at h1 h2
  have c14 : ∀ (w : MP.W) (a b : Int), b ≠ 0 → b.natAbs < 2 ^ 8000 → callF T (n + 2) 14 [.int a, .int b] w = .ok (qD (Rat.divInt a b)) w := fun w a b h1 h2 => law_of_run h13 h14 h1 h2
  show ∃ (rs : List Rat) (w' : MP.W), endR (exs ⟨callF T (n + 2), T.gl⟩ fdLawParts.body ⟨[some (.st, false), some (.int (c : Int), false), some (.int low, false), none, none, none], w⟩) = .ok (.tup (rs.map qD)) w' ∧ _
  generalize callF T (n + 2) = F at dr c14 ⊢
  generalize T.gl = G
  unfold fdLawParts
  obtain ⟨xs, w1, e1, p1, l1⟩ := ev_compW (cx := ⟨F, G⟩) (i := 4) (elt := .op .add [.var 2, .call 0 [.var 0, .cI 4]]) (src := .rng1 (.var 1)) (s0 := ⟨[some (.st, false), some (.int (c : Int), false), some (.int low, false), none, none, none], w⟩)
    (env := [some (.st, false), some (.int (c : Int), false), some (.int low, false), none, none, none]) (w := w) (ds := rangeD 0 (c : Int)) (fun x => ∃ i : Int, x = .int i ∧ 0 ≤ i ∧ i ≤ 30) (rng_ev (by omega) (by simp [ev, tr])) (by show 4 < 6; omega) (by rfl)
    (by rw [rangeD0]; simp [LN]; omega) (fun d hd w => by
      obtain ⟨k, w', hk, nk⟩ := dr w 4 (by decide) (by decide)
      exact ⟨.int (low + k), w', by simp [exs, ex, ev, evs, evc, evOr, evAnd, isBl, bnd, tr, Opd.d, opD, outR, oneR, consume, endR, callR, truthD, bindNm, isObjD, isL, LN, nk, addD], low + k, rfl, by omega, by omega⟩)
  have lr : (rangeD 0 (c : Int)).length = c := by rw [rangeD0]; simp
  rw [lr] at l1
  obtain ⟨ns, rfl, hns⟩ : ∃ ns : List Int, xs = ns.map D.int ∧ ∀ i ∈ ns, 0 ≤ i ∧ i ≤ 30 := by
    clear e1 l1
    induction xs with
    | nil => exact ⟨[], rfl, by simp⟩
    | cons x xs ih =>
      obtain ⟨i, rfl, h1, h2⟩ := p1 x List.mem_cons_self
      obtain ⟨ns, rfl, h3⟩ := ih fun y hy => p1 y (List.mem_cons_of_mem _ hy)
      exact ⟨i :: ns, rfl, fun j hj => by
        rcases List.mem_cons.mp hj with rfl | hj
        · exact ⟨h1, h2⟩
        · exact h3 j hj⟩
  rw [List.length_map] at l1
  have a1 : ex ⟨F, G⟩ (.asg (.nm 3) (.comp [4] (.op .add [.var 2, .call 0 [.var 0, .cI 4]]) (.nm 4) (.rng1 (.var 1)) none)) ⟨[some (.st, false), some (.int (c : Int), false), some (.int low, false), none, none, none], w⟩ = .ok .next ⟨[some (.st, false), some (.int (c : Int), false), some (.int low, false), some (.lst (ns.map D.int), true), none, none], w1⟩ := by
    rw [ex, e1]
    rfl
  have sm : ∀ ms : List Int, sumD [.lst (ms.map D.int)] = some (.v (.int ms.sum)) := fun ms => by simp [sumD, foldL, intsOf_map]
  -- behind the mending
  obtain ⟨ms, w2, a2, lm, hm, hs0⟩ : ∃ (ms : List Int) (w2 : MP.W), ex ⟨F, G⟩ (.ife (.op .eq [.op .sum [.var 3], .cI 0]) [.stV 3 (.call 0 [.var 0, .var 1]) (.cI 1)] []) ⟨[some (.st, false), some (.int (c : Int), false), some (.int low, false), some (.lst (ns.map D.int), true), none, none], w1⟩ = .ok .next ⟨[some (.st, false), some (.int (c : Int), false), some (.int low, false), some (.lst (ms.map D.int), true), none, none], w2⟩ ∧ ms.length = c ∧ (∀ i ∈ ms, 0 ≤ i ∧ i ≤ 30) ∧ 0 < ms.sum := by
    have sn := sm ns
    have n0 := isum_nonneg fun i hi => (hns i hi).1
    have eqe : ∀ i : Int, eqB false [.int i, .int 0] = some (.v (.bl (i == 0))) := fun i => by simp [eqB, shp, eqD]
    by_cases hz : ns.sum = 0
    · obtain ⟨k, w2, hk, nk⟩ := dr w1 c (by omega) (by omega)
      refine ⟨ns.set k 1, w2, ?_, by simp [l1], fun i hi => ?_, ?_⟩
      · have ix : ixN c (k : Int) = some k := by
          unfold ixN
          rw [if_pos (by omega), if_pos (by omega)]
          simp
        have e3 : (ns.map D.int).set k (.int 1) = (ns.set k 1).map D.int := by rw [List.map_set]
        have st : setAt (.lst (ns.map D.int)) (.int (k : Int)) (.int 1) = some (.lst ((ns.set k 1).map D.int)) := by
          simp only [setAt, List.length_map, l1, ix, Option.map_some, e3]
        have eq0 := eqe ns.sum
        rw [hz] at sn eq0
        generalize (ns.set k 1).map D.int = z at st ⊢
        generalize ns.map D.int = y at st sn ⊢
        simp [exs, ex, ev, evs, evc, evOr, evAnd, isBl, bnd, tr, Opd.d, opD, outR, oneR, consume, endR, callR, truthD, bindNm, isObjD, isL, LN, sn, eq0, nk, st]
      · rcases List.mem_or_eq_of_mem_set hi with h | rfl
        · exact hns i h
        · omega
      · have : ∀ (ns : List Int) (k : Nat), (∀ i ∈ ns, 0 ≤ i) → k < ns.length → 0 < (ns.set k 1).sum := by
          intro ns
          induction ns with
          | nil => intro k _ h; simp at h
          | cons x r ih =>
            intro k h hk
            have h2 := isum_nonneg (ns := r) fun i hi => h i (List.mem_cons_of_mem _ hi)
            have h1 := h x List.mem_cons_self
            cases k with
            | zero => simp only [List.set_cons_zero, List.sum_cons]; omega
            | succ k =>
              have := ih k (fun i hi => h i (List.mem_cons_of_mem _ hi)) (by simpa using hk)
              simp only [List.set_cons_succ, List.sum_cons]
              omega
        exact this ns k (fun i hi => (hns i hi).1) (by omega)
    · refine ⟨ns, w1, ?_, l1, hns, by omega⟩
      have eq0 := eqe ns.sum
      have : (ns.sum == 0) = false := by simpa using hz
      rw [this] at eq0
      generalize ns.map D.int = y at sn ⊢
      generalize ns.sum = q at sn eq0
      simp [exs, ex, ev, evs, evc, evOr, evAnd, isBl, bnd, tr, Opd.d, opD, outR, oneR, consume, endR, callR, truthD, bindNm, isObjD, isL, LN, sn, eq0]
  have sle := isum_le (m := 30) (by decide) fun i hi => (hm i hi).2
  rw [lm] at sle
  refine ⟨ms.map fun i => Rat.divInt i ms.sum, w2, ?_, by simp [lm], fun r hr => ?_, ?_⟩
  · rw [exs_next a1, exs_next a2]
    have c3 : ev ⟨F, G⟩ false (.comp [5] (.call 14 [.var 5, .op .sum [.var 3]]) (.nm 5) (.seq (.var 3)) none) ⟨[some (.st, false), some (.int (c : Int), false), some (.int low, false), some (.lst (ms.map D.int), true), none, none], w2⟩ = .ok (.fresh (.lst ((ms.map fun i => Rat.divInt i ms.sum).map qD))) ⟨[some (.st, false), some (.int (c : Int), false), some (.int low, false), some (.lst (ms.map D.int), true), none, none], w2⟩ := by
      rw [ev_comp1 (fun _ => true) (fun d => match d with | .int i => qD (Rat.divInt i ms.sum) | _ => .non) (ds := ms.map D.int) (s := ⟨[some (.st, false), some (.int (c : Int), false), some (.int low, false), some (.lst (ms.map D.int), true), none, none], w2⟩)]
      · rw [List.filter_eq_self.mpr (by simp)]
        simp only [tr, Bool.false_eq_true, if_false]
        congr 3
        rw [List.map_map, List.map_map]
        rfl
      · simp [evI, ev, bnd, tr, Opd.d, itemsD]
      · show 5 < 6
        omega
      · rfl
      · rw [List.length_map]
        show ms.length ≤ 16777216
        omega
      · intro d hd
        obtain ⟨i, hi, rfl⟩ := List.mem_map.mp hd
        refine ⟨rfl, fun _ => ?_⟩
        have s1 := sm ms
        have cc := c14 w2 i ms.sum (by omega) (pow_up (k := 20) (by omega) (by decide))
        generalize ms.map D.int = y at s1 ⊢
        generalize ms.sum = q at s1 cc ⊢
        simp [exs, ex, ev, evs, evc, evOr, evAnd, isBl, bnd, tr, Opd.d, opD, outR, oneR, consume, endR, callR, truthD, bindNm, isObjD, isL, LN, s1, cc]
    revert c3
    generalize (ME.comp [5] (.call 14 [.var 5, .op .sum [.var 3]]) (.nm 5) (.seq (.var 3)) none) = q
    intro c3
    generalize (ms.map fun i => Rat.divInt i ms.sum).map qD = z at c3 ⊢
    simp [exs, ex, ev, evs, evc, evOr, evAnd, isBl, bnd, tr, Opd.d, opD, outR, oneR, consume, endR, callR, truthD, bindNm, isObjD, isL, LN, c3, tupD]
  · obtain ⟨i, hi, rfl⟩ := List.mem_map.mp hr
    obtain ⟨h1, h2⟩ := hm i hi
    refine ⟨?_, rb_divInt (by omega) (by omega) (by decide)⟩
    exact Rat.divInt_nonneg h1 (by omega)
  · rw [parts_sum (by omega)]
    exact Rat.divInt_self' (by omega)
/-! ### chances -/
def chOk (rs : List Rat) : Bool := !rs.isEmpty && rs.all (fun r => !decide (r < 0)) && decide (rsum rs = 1)
theorem not_mem_trueP (p : D → Bool) (ys : List D) : ((ys.map fun y => D.bl (p y)).any fun z => eqD z (.bl true)) = ys.any p := by
  induction ys with
  | nil => rfl
  | cons y ys ih =>
    simp only [List.map_cons, List.any_cons, ih]
    cases h : p y <;> simp [eqD]
theorem qD_inj {r s : Rat} : eqD (qD r) (qD s) = decide (r = s) := by
  have e : eqD (qD r) (qD s) = ((r.num == s.num) && ((r.den : Int) == (s.den : Int))) := by simp [qD, eqD, eqDs]
  rw [e]
  by_cases h : r = s
  · subst h; simp
  · rw [decide_eq_false h]
    cases h1 : (r.num == s.num) with
    | false => rfl
    | true =>
      cases h2 : ((r.den : Int) == (s.den : Int)) with
      | false => rfl
      | true =>
        refine absurd (Rat.ext (eq_of_beq h1) ?_) h
        have := eq_of_beq h2
        omega
theorem eqB_qD {r s : Rat} {neg : Bool} : eqB neg [qD r, qD s] = some (.v (.bl (if neg then !decide (r = s) else decide (r = s)))) := by
  rw [eqB_ok (by simp [qD, shp, shps]) (by simp [qD, shp, shps]), qD_inj]
/-- looked at: chances from 0 on that come to 1, at most so many -/
theorem check_run' {w : MP.W} {f : Nat} (h0 : f ≠ 0) (h15 : T.fn 15 = some fdDivisor) (h17 : T.fn 17 = some fdRatio) (h20 : T.fn 20 = some fdPlus) (h21 : T.fn 21 = some fdLess) (h23 : T.fn 23 = some fdTotal) (g18 : T.gl 18 = some (qD 0)) (g16 : T.gl 16 = some (qD 1)) {nm x1 x2 : Str} {mx : Int}
    (hT : T.fn f = some ⟨nm, 1, [x1, x2], [.ife (.orL [.not (.var 0), .op .mem [.cB true, .comp [1] (.call 21 [.var 1, .glob 18]) (.nm 1) (.seq (.var 0)) none], .op .ne [.call 23 [.var 0], .glob 16]]) [.raise 1] [], .ife (.op .gt [.op .len [.var 0], .cI mx]) [.raise 2] []]⟩)
    {rs : List Rat} {b : Nat} (hr : ∀ r ∈ rs, rb b r) (hb : 1 + rs.length * (b + 1) ≤ 3000) (hb2 : b ≤ 3000) (hm : chOk rs = true → (rs.length : Int) ≤ mx) :
    callF T (n + 5) f [.tup (rs.map qD)] w = if chOk rs then .ok .non w else .exc 1 w := by
  rw [callF_eq h0 hT (by rfl)]
  have c23 := total_run (n := n) (w := w) h15 h17 h20 h23 g18 (d := .tup (rs.map qD)) rfl hr hb hb2
  have c21 : ∀ r ∈ rs, callF T (n + 4) 21 [qD r, qD 0] w = .ok (.bl (decide (r < 0))) w := fun r h => less_run h21 (rb_le (hr r h) hb2) (rb_le rb_zero (by decide))
  have hlen : (rs.map qD).length = rs.length := List.length_map ..
  show endR (exs ⟨callF T (n + 4), T.gl⟩ _ ⟨[some (.tup (rs.map qD), false), none], w⟩) = _
  generalize callF T (n + 4) = F at c23 c21 ⊢
  generalize T.gl = G at g18 g16 ⊢
  have comp : ev ⟨F, G⟩ false (.comp [1] (.call 21 [.var 1, .glob 18]) (.nm 1) (.seq (.var 0)) none) ⟨[some (.tup (rs.map qD), false), none], w⟩ = .ok (.fresh (.lst (rs.map fun r => .bl (decide (r < 0))))) ⟨[some (.tup (rs.map qD), false), none], w⟩ := by
    rw [ev_compQ (fun _ => true) (fun r => .bl (decide (r < 0))) (rs := rs) (s := ⟨[some (.tup (rs.map qD), false), none], w⟩)]
    · rw [List.filter_eq_self.mpr (by simp)]
      rfl
    · simp [evI, ev, bnd, tr, Opd.d, itemsD]
    · show 1 < 2
      omega
    · rfl
    · have := Nat.le_mul_of_pos_right rs.length (show 0 < b + 1 by omega)
      omega
    · intro r hr'
      refine ⟨rfl, fun _ => ?_⟩
      have c := c21 r hr'
      generalize decide (r < 0) = q at c ⊢
      generalize qD r = z at c ⊢
      simp [exs, ex, ev, evs, evc, evOr, evAnd, isBl, bnd, tr, Opd.d, opD, outR, oneR, consume, endR, callR, truthD, bindNm, isObjD, isL, LN, g18, c]
  have hbs : shps 63 (rs.map fun r => D.bl (decide (r < 0))) = true := shps_of fun x hx => by
    obtain ⟨y, _, rfl⟩ := List.mem_map.mp hx
    simp [shp]
  have me : memB false [.bl true, .lst (rs.map fun r => D.bl (decide (r < 0)))] = some (.v (.bl (rs.any fun r => decide (r < 0)))) := by
    have nm : ∀ rs : List Rat, ((rs.map fun r => D.bl (decide (r < 0))).any fun z => eqD z (.bl true)) = rs.any fun r => decide (r < 0) := by
      intro rs
      induction rs with
      | nil => rfl
      | cons y ys ih =>
        simp only [List.map_cons, List.any_cons, ih]
        cases h : decide (y < 0) <;> simp [eqD]
    simp only [memB, hbs, nm, shp, Bool.and_self, if_true, Bool.false_eq_true, if_false]
  have ee := eqB_qD (r := rsum rs) (s := 1) (neg := true)
  have tl : truthD (.tup (rs.map qD)) = some (!rs.isEmpty) := by simp [truthD]
  revert comp
  generalize (ME.comp [1] (.call 21 [.var 1, .glob 18]) (.nm 1) (.seq (.var 0)) none) = q
  generalize (rs.map fun r => D.bl (decide (r < 0))) = bs at me ⊢
  intro comp
  have any : (rs.all fun r => !decide (r < 0)) = !rs.any fun r => decide (r < 0) := by
    rw [List.not_any_eq_all_not]
  have hgt : chOk rs = true → ¬ mx < (rs.length : Int) := fun h => by have := hm h; omega
  clear hm
  unfold chOk at hgt ⊢
  rw [any] at hgt ⊢
  have ln : lenD [.tup (rs.map qD)] = some (.v (.int (rs.length : Int))) := by simp [lenD]
  generalize D.tup (rs.map qD) = dd at *
  generalize rs.any (fun r => decide (r < 0)) = bb at *
  generalize decide (rsum rs = 1) = b1 at *
  generalize rs.isEmpty = b0 at *
  generalize qD (rsum rs) = zz at *
  cases b0
  · cases bb
    · cases b1
      · simp [exs, ex, ev, evs, evc, evOr, isBl, bnd, tr, Opd.d, opD, outR, oneR, consume, endR, callR, tl, comp, me, c23, g16, ee, truthD_bl]
      · have hgt := hgt rfl
        simp [exs, ex, ev, evs, evc, evOr, isBl, bnd, tr, Opd.d, opD, outR, oneR, consume, endR, callR, tl, comp, me, c23, g16, ee, truthD_bl, ln, cmpI, MP.i2, hgt]
    · simp [exs, ex, ev, evs, evc, evOr, isBl, bnd, tr, Opd.d, opD, outR, oneR, consume, endR, callR, tl, comp, me, truthD_bl]
  · simp [exs, ex, ev, evs, evc, evOr, isBl, bnd, tr, Opd.d, opD, outR, oneR, consume, endR, callR, tl, truthD_bl]
theorem check_run {w : MP.W} {f : Nat} (h0 : f ≠ 0) (h15 : T.fn 15 = some fdDivisor) (h17 : T.fn 17 = some fdRatio) (h20 : T.fn 20 = some fdPlus) (h21 : T.fn 21 = some fdLess) (h23 : T.fn 23 = some fdTotal) (g18 : T.gl 18 = some (qD 0)) (g16 : T.gl 16 = some (qD 1)) {nm x1 x2 : Str} {mx : Int}
    (hT : T.fn f = some ⟨nm, 1, [x1, x2], [.ife (.orL [.not (.var 0), .op .mem [.cB true, .comp [1] (.call 21 [.var 1, .glob 18]) (.nm 1) (.seq (.var 0)) none], .op .ne [.call 23 [.var 0], .glob 16]]) [.raise 1] [], .ife (.op .gt [.op .len [.var 0], .cI mx]) [.raise 2] []]⟩)
    {rs : List Rat} {b : Nat} (hr : ∀ r ∈ rs, rb b r) (hb : 1 + rs.length * (b + 1) ≤ 3000) (hb2 : b ≤ 3000) (hm : (rs.length : Int) ≤ mx) :
    callF T (n + 5) f [.tup (rs.map qD)] w = if chOk rs then .ok .non w else .exc 1 w :=
  check_run' h0 h15 h17 h20 h21 h23 g18 g16 hT hr hb hb2 fun _ => hm
end
end MP
set_option Elab.async false
set_option linter.all false
set_option maxRecDepth 100000
/-! Tables of fractions, loops with numbers, judges of rows, things nearby, what is refused. -/
namespace MP
open PySem L2

def tab (N : Nat) (f : Nat → Rat) : List Rat := (List.range N).map f
theorem tab_len (N : Nat) (f : Nat → Rat) : (tab N f).length = N := by simp [tab]
theorem tab_get {N : Nat} {f : Nat → Rat} {i : Nat} (h : i < N) : (tab N f)[i]? = some (f i) := by simp [tab, h]
theorem at_rat {rs : List Rat} {i : Nat} {r : Rat} (h : rs[i]? = some r) : atI (rs.map qD) (i : Int) = some (qD r) := by
  have hi := (List.getElem?_eq_some_iff.mp h).1
  rw [atI_nat (by simpa using hi)]
  obtain ⟨_, e⟩ := List.getElem?_eq_some_iff.mp h
  simp [e]
theorem tab_set {N : Nat} {f : Nat → Rat} {i : Nat} {v : Rat} : (tab N f).set i v = tab N (fun j => if j = i then v else f j) := by
  apply List.ext_getElem?
  intro j
  rw [List.getElem?_set]
  by_cases hj : j < N
  · by_cases h : i = j
    · subst h
      rw [if_pos rfl, if_pos (by rw [tab_len]; exact hj), tab_get hj, if_pos rfl]
    · rw [if_neg h, tab_get hj, tab_get hj, if_neg (Ne.symm h)]
  · have e1 : (tab N f)[j]? = none := List.getElem?_eq_none (by rw [tab_len]; omega)
    have e2 : (tab N (fun j => if j = i then v else f j))[j]? = none := List.getElem?_eq_none (by rw [tab_len]; omega)
    rw [e2]
    split
    · split
      · rename_i h1 h2
        rw [tab_len] at h2
        omega
      · rfl
    · exact e1
theorem set_at {rs : List Rat} {i : Nat} {v : Rat} (h : i < rs.length) : setAt (.lst (rs.map qD)) (.int (i : Int)) (qD v) = some (.lst ((rs.set i v).map qD)) := by
  have ix : ixN (rs.map qD).length (i : Int) = some i := by
    rw [List.length_map]
    unfold ixN
    rw [if_pos (by omega), if_pos (by omega)]
    simp
  simp only [setAt, ix, Option.map_some, List.map_set]
theorem get_at {rs : List Rat} {i : Nat} {r : Rat} (h : rs[i]? = some r) : ixD [.lst (rs.map qD), .int (i : Int)] = some (.v (qD r)) := by
  simp [ixD, at_rat h]
theorem get_atT {rs : List Rat} {i : Nat} {r : Rat} (h : rs[i]? = some r) : ixD [.tup (rs.map qD), .int (i : Int)] = some (.v (qD r)) := by
  simp [ixD, at_rat h]
theorem enum_rats {rs : List Rat} {m : Nat} {d : D} (h : (enumD 0 (rs.map qD))[m]? = some d) : ∃ r, rs[m]? = some r ∧ d = .tup [.int (m : Int), qD r] := by
  obtain ⟨x, h1, rfl⟩ := enumD_get h
  obtain ⟨r, h2, rfl⟩ := map_get h1
  exact ⟨r, h2, by rw [Nat.zero_add]⟩
theorem evIc_enum {cx : Cxt} {e : ME} {s s1 : S} {d : D} {ds : List D} (h : ev cx false e s = .ok (.val d) s1) (hd : itemsD d = some ds) : evIc cx (.enum e) s = .ok (enumD 0 ds) s1 := by
  cases d <;> simp [itemsD] at hd
  all_goals
    subst hd
    simp [evIc, oneR, h, bnd, consume]
theorem forE {tg : MT} {b : S → R Fl} {rs : List Rat} (I : Nat → S → Prop) (step : ∀ (m : Nat) (r : Rat) (s : S), rs[m]? = some r → I m s → ∃ env1 s', asgT tg (.tup [.int (m : Int), qD r]) s.env = some env1 ∧ b ⟨env1, s.w⟩ = .ok .next s' ∧ I (m + 1) s') {s : S} (h : I 0 s) :
    ∃ s', forR tg b (enumD 0 (rs.map qD)) s = .ok .next s' ∧ I rs.length s' := by
  obtain ⟨s', h1, h2⟩ := forD (tg := tg) (b := b) (ds := enumD 0 (rs.map qD)) I (fun m d s hd hI => by
    obtain ⟨r, h1, rfl⟩ := enum_rats hd
    exact step m r s h1 hI) h
  exact ⟨s', h1, by rw [enumD_len, List.length_map] at h2; exact h2⟩
theorem end_forE {cx : Cxt} {tg : MT} {e : ME} {b rest : List MS} {s : S} {r : CR} (I : Nat → S → Prop) {s1 : S} {d : D} {rs : List Rat} (he : ev cx false e s = .ok (.val d) s1) (hd : itemsD d = some (rs.map qD)) (h0 : I 0 s1)
    (step : ∀ (m : Nat) (r : Rat) (s : S), rs[m]? = some r → I m s → ∃ env1 s', asgT tg (.tup [.int (m : Int), qD r]) s.env = some env1 ∧ exs cx b ⟨env1, s.w⟩ = .ok .next s' ∧ I (m + 1) s') (k : ∀ s', I rs.length s' → endR (exs cx rest s') = r) : endR (exs cx (.forS tg (.enum e) b :: rest) s) = r := by
  obtain ⟨s', h1, h2⟩ := forE (tg := tg) (b := fun s => exs cx b s) I step h0
  rw [exs_next (s' := s') (by rw [ex, evIc_enum he hd]; exact h1)]
  exact k s' h2
theorem nx_forE {cx : Cxt} {tg : MT} {e : ME} {b rest : List MS} {s : S} {r : R Fl} (I : Nat → S → Prop) {s1 : S} {d : D} {rs : List Rat} (he : ev cx false e s = .ok (.val d) s1) (hd : itemsD d = some (rs.map qD)) (h0 : I 0 s1)
    (step : ∀ (m : Nat) (r : Rat) (s : S), rs[m]? = some r → I m s → ∃ env1 s', asgT tg (.tup [.int (m : Int), qD r]) s.env = some env1 ∧ exs cx b ⟨env1, s.w⟩ = .ok .next s' ∧ I (m + 1) s') (k : ∀ s', I rs.length s' → exs cx rest s' = r) : exs cx (.forS tg (.enum e) b :: rest) s = r := by
  obtain ⟨s', h1, h2⟩ := forE (tg := tg) (b := fun s => exs cx b s) I step h0
  rw [exs_next (s' := s') (by rw [ex, evIc_enum he hd]; exact h1)]
  exact k s' h2
theorem asg_tp2 {i j : Nat} {x y : D} {env : Env} (hi : i < env.length) (hj : j < env.length) : asgT (.tp [.nm i, .nm j]) (.tup [x, y]) env = some ((env.set i (some (x, false))).set j (some (y, false))) := by
  simp [asgT, asgTs, hi, hj]
/-! ### the frame's parts -/
section
variable {F : Nat → List D → MP.W → CR} {G : Nat → Option D}
/-- a judge that asks for the word, for fractions, and for what is due -/
theorem judge_row {E : Env} {w : MP.W} {wd : String} {t dv : Nat} {told : D} {rs : List Rat} {ce : ME} {c : Int} (hg : okG told) (hs : TO 2 (.tup (rs.map qD))) (ht : At E t told) (hdv : At E dv (.tup [.str wd, .tup (rs.map qD)])) (hce : ev ⟨F, G⟩ false ce ⟨E, w⟩ = .ok (.val (.int c)) ⟨E, w⟩) (hc : (rs.length : Int) = c)
    (h11 : F 11 [told, .str wd, .int 2] w = .ok (.bl (toldB wd 2 told)) w) (h28 : ∀ (x : D) (k : Int), okG x → F 28 [x, .int k] w = .ok (.bl (fracsB k x)) w) :
    endR (exs ⟨F, G⟩ [.ret (.andL [.call 11 [.var t, .cS wd, .cI 2], .call 28 [.op .ix [.var t, .cI 1], ce], .op .eq [.var t, .var dv]])] ⟨E, w⟩) = .ok (.bl (sameD told (.tup [.str wd, .tup (rs.map qD)]))) w := by
  unfold At at ht hdv
  have hp : pl (.tup [.str wd, .tup (rs.map qD)]) = true := by
    have q := pl_rats rs
    simp only [pl] at q
    simp only [pl, pls, q, Bool.and_self]
  have hsh : shp 64 (.tup [.str wd, .tup (rs.map qD)]) = true := by
    refine shp_le (n := 3) ?_ (by decide)
    simp only [shp, shps, sOk_of, Bool.true_and, Bool.and_true]
    simpa only [shp] using hs.sh
  generalize hdue : D.tup [.str wd, .tup (rs.map qD)] = dd at *
  cases hb : toldB wd 2 told with
  | false =>
    rw [hb] at h11
    have := sameD_ne hp (a := told) (by
      rintro rfl
      rw [← hdue, toldB2] at hb
      cases hb)
    simp [exs, ex, ev, evc, evAnd, bnd, tr, oneR, consume, callR, ht, h11, truthD_bl, this, endR, Opd.d]
  | true =>
    rw [hb] at h11
    obtain ⟨y, rfl⟩ := told2 hb
    have g2 := h28 y c (okG_mem hg y (by simp))
    have i1 : ixD [.tup [.str wd, y], .int 1] = some (.v y) := by simp [ixD, atI, ixN]
    cases hz : fracsB c y with
    | false =>
      rw [hz] at g2
      have := sameD_ne hp (a := D.tup [.str wd, y]) (by
        intro e
        rw [← hdue] at e
        simp only [D.tup.injEq, List.cons.injEq, and_true] at e
        have q : fracsB c y = true := fracsB_iff.mpr ⟨rs, e.2, hc⟩
        rw [q] at hz
        cases hz)
      generalize D.tup [.str wd, y] = tt at *
      simp [exs, ex, ev, evs, evc, evAnd, bnd, tr, oneR, consume, callR, ht, h11, i1, hce, g2, truthD_bl, this, endR, Opd.d, opD, outR]
    | true =>
      rw [hz] at g2
      obtain ⟨rs2, rfl, _⟩ := fracsB_iff.mp hz
      have px : pl (.tup [.str wd, .tup (rs2.map qD)]) = true := by
        have q := pl_rats rs2
        simp only [pl] at q
        simp only [pl, pls, q, Bool.and_self]
      have eq := eqB_ok (neg := false) (okG_shp hg (by simp)) hsh
      rw [eqD_same px hp] at eq
      generalize sameD (D.tup [.str wd, .tup (rs2.map qD)]) dd = q at *
      generalize D.tup [.str wd, .tup (rs2.map qD)] = tt at *
      simp [exs, ex, ev, evs, evc, evAnd, bnd, tr, oneR, consume, callR, ht, hdv, h11, i1, hce, g2, truthD_bl, eq, endR, Opd.d, opD, outR]
def Out (F : Nat → List D → MP.W → CR) (pid : Nat) (ds : List D) : Prop := ∀ w, (∃ x, F pid ds w = .ok x w ∧ okG x) ∨ F pid ds w = .exc 1 w ∨ F pid ds w = .exc 2 w
theorem okG_empty : okG (.tup []) := .inl (gd_tup rfl (by simp))
end
section
variable {T : Tab} {n : Nat}
theorem near1 {nm x0 x1 x2 x3 x4 : Str} {pid : Nat} (h9 : T.fn 9 = some ⟨nm, 2, [x0, x1, x2, x3, x4], [.asg (.nm 2) (.lst [.var 1]), .asg (.nm 3) (.call 0 [.var 0, .cI 1]), .stV 2 (.var 3) (.call 6 [.var 0, .op .ix [.var 2, .var 3]]), .tryS [.ret (.call pid [.op .ix [.var 2, .cI 0]])] [(1, 4, .retE), (2, 4, .retE)]]⟩)
    {a : D} (n1 : ∀ w, ∃ a' w', callF T (n + 1) 6 [.st, a] w = .ok a' w' ∧ Out (callF T (n + 1)) pid [a']) (w : MP.W) : ∃ x w', callF T (n + 2) 9 [.st, a] w = .ok x w' ∧ okG x := by
  rw [callF_eq (by decide) h9 (by rfl)]
  obtain ⟨k, w1, hk, nx⟩ := next_at (T := T) (n := n) (w := w) (lim := 1) (by decide) (by decide)
  have hk0 : k = 0 := by omega
  subst hk0
  have nx : callF T (n + 1) 0 [.st, .int 1] w = .ok (.int 0) w1 := nx
  obtain ⟨a', w2, f1, o1⟩ := n1 w1
  have a0 : ∀ x : D, atI [x] 0 = some x := fun x => by simp [atI, ixN]
  have n0 : ixN 1 0 = some 0 := by decide
  show ∃ x w', endR (exs ⟨callF T (n + 1), T.gl⟩ _ ⟨[some (.st, false), some (a, false), none, none, none], w⟩) = .ok x w' ∧ okG x
  generalize callF T (n + 1) = F at *
  rcases o1 w2 with ⟨x, f, hx⟩ | f | f
  · exact ⟨x, w2, by simp [exs, ex, ev, evs, evc, evOr, evAnd, isBl, bnd, tr, Opd.d, opD, outR, oneR, consume, endR, callR, truthD, bindNm, isObjD, isL, LN, nx, ixD, a0, n0, f1, setAt, tryR, f], hx⟩
  · exact ⟨.tup [], w2, by simp [exs, ex, ev, evs, evc, evOr, evAnd, isBl, bnd, tr, Opd.d, opD, outR, oneR, consume, endR, callR, truthD, bindNm, isObjD, isL, LN, nx, ixD, a0, n0, f1, setAt, tryR, f, exOk, catchR], okG_empty⟩
  · exact ⟨.tup [], w2, by simp [exs, ex, ev, evs, evc, evOr, evAnd, isBl, bnd, tr, Opd.d, opD, outR, oneR, consume, endR, callR, truthD, bindNm, isObjD, isL, LN, nx, ixD, a0, n0, f1, setAt, tryR, f, exOk, catchR], okG_empty⟩
theorem near2 {nm x0 x1 x2 x3 x4 x5 : Str} {pid : Nat} (h9 : T.fn 9 = some ⟨nm, 3, [x0, x1, x2, x3, x4, x5], [.asg (.nm 3) (.lst [.var 1, .var 2]), .asg (.nm 4) (.call 0 [.var 0, .cI 2]), .stV 3 (.var 4) (.call 6 [.var 0, .op .ix [.var 3, .var 4]]), .tryS [.ret (.call pid [.op .ix [.var 3, .cI 0], .op .ix [.var 3, .cI 1]])] [(1, 5, .retE), (2, 5, .retE)]]⟩)
    {a b : D} (n1 : ∀ w, ∃ a' w', callF T (n + 1) 6 [.st, a] w = .ok a' w' ∧ Out (callF T (n + 1)) pid [a', b]) (n2 : ∀ w, ∃ b' w', callF T (n + 1) 6 [.st, b] w = .ok b' w' ∧ Out (callF T (n + 1)) pid [a, b']) (w : MP.W) : ∃ x w', callF T (n + 2) 9 [.st, a, b] w = .ok x w' ∧ okG x := by
  rw [callF_eq (by decide) h9 (by rfl)]
  obtain ⟨k, w1, hk, nx⟩ := next_at (T := T) (n := n) (w := w) (lim := 2) (by decide) (by decide)
  obtain ⟨a', w2, f1, o1⟩ := n1 w1
  obtain ⟨b', w3, f2, o2⟩ := n2 w1
  have a0 : ∀ x y : D, atI [x, y] 0 = some x := fun x y => by simp [atI, ixN]
  have a1 : ∀ x y : D, atI [x, y] 1 = some y := fun x y => by simp [atI, ixN]
  have n0 : ixN 2 0 = some 0 := by decide
  have m1 : ixN 2 1 = some 1 := by decide
  show ∃ x w', endR (exs ⟨callF T (n + 1), T.gl⟩ _ ⟨[some (.st, false), some (a, false), some (b, false), none, none, none], w⟩) = .ok x w' ∧ okG x
  generalize callF T (n + 1) = F at *
  rcases (show k = 0 ∨ k = 1 by omega) with rfl | rfl
  · have nx : F 0 [.st, .int 2] w = .ok (.int 0) w1 := nx
    rcases o1 w2 with ⟨x, f, hx⟩ | f | f
    · exact ⟨x, w2, by simp [exs, ex, ev, evs, evc, evOr, evAnd, isBl, bnd, tr, Opd.d, opD, outR, oneR, consume, endR, callR, truthD, bindNm, isObjD, isL, LN, nx, ixD, a0, a1, n0, f1, setAt, tryR, f], hx⟩
    · exact ⟨.tup [], w2, by simp [exs, ex, ev, evs, evc, evOr, evAnd, isBl, bnd, tr, Opd.d, opD, outR, oneR, consume, endR, callR, truthD, bindNm, isObjD, isL, LN, nx, ixD, a0, a1, n0, f1, setAt, tryR, f, exOk, catchR], okG_empty⟩
    · exact ⟨.tup [], w2, by simp [exs, ex, ev, evs, evc, evOr, evAnd, isBl, bnd, tr, Opd.d, opD, outR, oneR, consume, endR, callR, truthD, bindNm, isObjD, isL, LN, nx, ixD, a0, a1, n0, f1, setAt, tryR, f, exOk, catchR], okG_empty⟩
  · have nx : F 0 [.st, .int 2] w = .ok (.int 1) w1 := nx
    rcases o2 w3 with ⟨x, f, hx⟩ | f | f
    · exact ⟨x, w3, by simp [exs, ex, ev, evs, evc, evOr, evAnd, isBl, bnd, tr, Opd.d, opD, outR, oneR, consume, endR, callR, truthD, bindNm, isObjD, isL, LN, nx, ixD, a0, a1, m1, f2, setAt, tryR, f], hx⟩
    · exact ⟨.tup [], w3, by simp [exs, ex, ev, evs, evc, evOr, evAnd, isBl, bnd, tr, Opd.d, opD, outR, oneR, consume, endR, callR, truthD, bindNm, isObjD, isL, LN, nx, ixD, a0, a1, m1, f2, setAt, tryR, f, exOk, catchR], okG_empty⟩
    · exact ⟨.tup [], w3, by simp [exs, ex, ev, evs, evc, evOr, evAnd, isBl, bnd, tr, Opd.d, opD, outR, oneR, consume, endR, callR, truthD, bindNm, isObjD, isL, LN, nx, ixD, a0, a1, m1, f2, setAt, tryR, f, exOk, catchR], okG_empty⟩
theorem unfit1 {w : MP.W} {nm x0 x1 x2 : Str} {pid jid : Nat} (hT : T.fn 19 = some ⟨nm, 1, [x0, x1, x2], [.forS (.nm 1) (.seq (.lst [.cB false, .cB true])) [.tryS [.ife (.var 1) [.expr (.call jid [.var 0, .cN])] [.expr (.call pid [.var 0])], .ret (.cB false)] [(1, 2, .go)]], .ret (.cB true)]⟩)
    {a : D} (f1 : callF T n pid [a] w = .exc 1 w) (f2 : callF T n jid [a, .non] w = .exc 1 w) : callF T (n + 1) 19 [a] w = .ok (.bl true) w := by
  rw [callF_eq (by decide) hT (by rfl)]
  show endR (exs _ _ ⟨[some (a, false), none, none], w⟩) = _
  generalize callF T n = F at f1 f2 ⊢
  simp [exs, ex, ev, evs, evc, evOr, evAnd, isBl, bnd, tr, Opd.d, opD, outR, oneR, consume, endR, callR, truthD, bindNm, isObjD, isL, LN, f1, f2, evIc, itemsD, forR, asgT, tryR, exOk, catchR]
theorem unfit2 {w : MP.W} {nm x0 x1 x2 x3 : Str} {pid jid : Nat} (hT : T.fn 19 = some ⟨nm, 2, [x0, x1, x2, x3], [.forS (.nm 2) (.seq (.lst [.cB false, .cB true])) [.tryS [.ife (.var 2) [.expr (.call jid [.var 0, .var 1, .cN])] [.expr (.call pid [.var 0, .var 1])], .ret (.cB false)] [(1, 3, .go)]], .ret (.cB true)]⟩)
    {a b : D} (f1 : callF T n pid [a, b] w = .exc 1 w) (f2 : callF T n jid [a, b, .non] w = .exc 1 w) : callF T (n + 1) 19 [a, b] w = .ok (.bl true) w := by
  rw [callF_eq (by decide) hT (by rfl)]
  show endR (exs _ _ ⟨[some (a, false), some (b, false), none, none], w⟩) = _
  generalize callF T n = F at f1 f2 ⊢
  simp [exs, ex, ev, evs, evc, evOr, evAnd, isBl, bnd, tr, Opd.d, opD, outR, oneR, consume, endR, callR, truthD, bindNm, isObjD, isL, LN, f1, f2, evIc, itemsD, forR, asgT, tryR, exOk, catchR]
/-- an error in a def's first statement leaves it -/
theorem end_exc {cx : Cxt} {st : MS} {rest : List MS} {s s' : S} {c : Nat} (h : ex cx st s = .exc c s') : endR (exs cx (st :: rest) s) = .exc c s'.w := by
  simp [exs, h, bnd, endR]
end
end MP
set_option Elab.async false
set_option linter.all false
set_option maxRecDepth 100000
/-! Rows that the law draws; rows that do not come to 1. -/
namespace MP
open PySem L2

structure Part (m : Nat) (rs : List Rat) : Prop where
  lo : 1 ≤ rs.length
  hi : rs.length ≤ m
  nn : ∀ r ∈ rs, 0 ≤ r
  rb : ∀ r ∈ rs, rb 12 r
  sum : rsum rs = 1
theorem Part.ch {m : Nat} {rs : List Rat} (h : Part m rs) : chOk rs = true := by
  have l := h.lo
  unfold chOk
  simp only [Bool.and_eq_true, List.all_eq_true, Bool.not_eq_true', decide_eq_true_eq, decide_eq_false_iff_not]
  refine ⟨⟨?_, fun r hr => Rat.not_lt.mpr (h.nn r hr)⟩, h.sum⟩
  cases rs with
  | nil => simp at l
  | cons _ _ => rfl
theorem Part.more {m : Nat} {rs : List Rat} (h : Part m rs) : chOk (rs ++ [1]) = false := by
  unfold chOk
  have e : rsum (rs ++ [1]) = 2 := by
    rw [rsum_app, h.sum]
    show (1 : Rat) + (1 + 0) = 2
    rw [Rat.add_zero]
    decide +kernel
  rw [e]
  have : decide ((2 : Rat) = 1) = false := by decide
  rw [this, Bool.and_false]
theorem more_map (rs : List Rat) : (rs ++ [1]).map qD = rs.map qD ++ [.tup [.int 1, .int 1]] := by
  rw [List.map_append]
  rfl
theorem ex_parts {T : Tab} {n : Nat} (h13 : T.fn 13 = some fdLawGcd) (h14 : T.fn 14 = some fdLawOf) (h27 : T.fn 27 = some fdLawParts) {E : Env} {t m : Nat} (h : At E 1 .st) (ht : t < E.length) (hm : 0 < m) (hm2 : m ≤ 50) (w : MP.W) :
    ∃ (rs : List Rat) (w' : MP.W), ex ⟨callF T (n + 3), T.gl⟩ (.asg (.nm t) (.call 27 [.var 1, .op .add [.cI 1, .call 0 [.var 1, .cI (m : Int)]], .cI 0])) ⟨E, w⟩ = .ok .next ⟨E.set t (some (.tup (rs.map qD), false)), w'⟩ ∧ Part m rs := by
  obtain ⟨k, w1, hk, nx⟩ := next_at (T := T) (n := n + 2) (w := w) (lim := (m : Int)) (by omega) (by omega)
  obtain ⟨rs, w2, f, l, p, s⟩ := parts_run (T := T) (n := n) h13 h14 h27 (c := 1 + k) (low := 0) (by omega) (by omega) (by omega) (by omega) w1
  refine ⟨rs, w2, ?_, ⟨by omega, by omega, fun r hr => (p r hr).1, fun r hr => (p r hr).2, s⟩⟩
  have q := draw_ev (F := callF T (n + 3)) (G := T.gl) (m := false) h nx
  generalize callF T (n + 3) = F at *
  generalize (ME.call 0 [.var 1, .cI (m : Int)]) = e at q ⊢
  have ad : addD [.int 1, .int (k : Int)] = some (.v (.int ((1 + k : Nat) : Int))) := by simp [addD]
  unfold At at h
  generalize ((1 + k : Nat) : Int) = z at *
  simp [ex, ev, evs, evc, h, bnd, tr, oneR, consume, callR, q, ad, Opd.d, opD, outR, f, ht, bindNm]
/-- what comes of a row nearby -/
theorem near_row {T : Tab} {n : Nat} (h6 : T.fn 6 = some fdLawNeighbour) {rs : List Rat} {m : Nat} (hm : m ≤ 100) (h : Part m rs) {P : D → Prop} (hP : ∀ rs' : List Rat, rs'.length ≤ m → (∀ r ∈ rs', rb 13 r) → P (.tup (rs'.map qD))) (w : MP.W) : ∃ a' w', callF T (n + 2) 6 [.st, .tup (rs.map qD)] w = .ok a' w' ∧ P a' := by
  have hh := h.hi
  obtain ⟨rs', w', e, hl, hb⟩ := neigh_rats (n := n) h6 rs (by omega) (fun r hr => rb_le (h.rb r hr) (by decide)) w
  exact ⟨_, w', e, hP rs' (by omega) (hb 12 (by decide) h.rb)⟩
end MP
set_option Elab.async false
set_option linter.all false
set_option maxRecDepth 100000
/-! Comprehensions with numbers, weighted sums. -/
namespace MP
open PySem L2

theorem set_back {env : Env} {i : Nat} {x : Option (D × Bool)} (hi : i < env.length) : (env.set i x).set i (env.getD i none) = env := by
  rw [set_wipe]
  apply List.ext_getElem?
  intro j
  by_cases hj : i = j
  · subst hj
    rw [List.getElem?_set_self hi, List.getD_eq_getElem?_getD, List.getElem?_eq_getElem hi]
    rfl
  · rw [List.getElem?_set_ne hj]
theorem wipe_two {env : Env} {i j : Nat} (hij : i ≠ j) (hi : i < env.length) (hj : j < env.length) : (((env.set j none).set i none).set j (env.getD j none)).set i (env.getD i none) = env := by
  apply List.ext_getElem?
  intro k
  simp only [List.getElem?_set, List.length_set, List.getD_eq_getElem?_getD]
  by_cases h1 : i = k
  · subst h1
    simp [hi]
  · by_cases h2 : j = k
    · subst h2
      simp [h1, hj]
    · simp [h1, h2]
theorem ev_compE {cx : Cxt} {m : Bool} {i j : Nat} {elt e : ME} {cond : Option ME} {s s0 : S} {d : D} {rs : List Rat} (hij : i ≠ j) (p : Nat → Rat → Bool) (g : Nat → Rat → D) (he : ev cx false e s0 = .ok (.val d) s) (hd : itemsD d = some (rs.map qD)) (hi : i < s.env.length) (hj : j < s.env.length) (ho : noOwn s.env [i, j] = true) (hl : rs.length ≤ 1000000)
    (h : ∀ (k : Nat) (r : Rat), rs[k]? = some r → evO cx cond ⟨(s.env.set i (some (.int (k : Int), false))).set j (some (qD r, false)), s.w⟩ = .ok (p k r) ⟨(s.env.set i (some (.int (k : Int), false))).set j (some (qD r, false)), s.w⟩ ∧
      (p k r = true → oneR (ev cx false elt ⟨(s.env.set i (some (.int (k : Int), false))).set j (some (qD r, false)), s.w⟩) = .ok (g k r) ⟨(s.env.set i (some (.int (k : Int), false))).set j (some (qD r, false)), s.w⟩)) :
    ev cx m (.comp [i, j] elt (.tp [.nm i, .nm j]) (.enum e) cond) s0 = tr m (.fresh (.lst (((List.range rs.length).filter fun k => p k (rs.getD k 0)).map fun k => g k (rs.getD k 0)))) s := by
  have hs : evI cx (.enum e) s0 = .ok (enumD 0 (rs.map qD)) s := by
    cases d <;> simp [itemsD] at hd
    all_goals
      subst hd
      simp [evI, he, bnd, Opd.d]
  simp only [ev, hs, bnd_ok, ho, if_true]
  let un : D → Nat := fun d => match d with | .tup [.int k, _] => k.toNat | _ => 0
  have ed : enumD 0 (rs.map qD) = (List.range rs.length).map fun k => .tup [.int (k : Int), qD (rs.getD k 0)] := by
    apply List.ext_getElem?
    intro k
    cases e1 : (enumD 0 (rs.map qD))[k]? with
    | none =>
      have : rs.length ≤ k := by
        have := List.getElem?_eq_none_iff.mp e1
        rw [enumD_len, List.length_map] at this
        exact this
      rw [List.getElem?_eq_none (by simp; exact this)]
    | some y =>
      obtain ⟨r, h1, rfl⟩ := enum_rats e1
      have hk := (List.getElem?_eq_some_iff.mp h1).1
      rw [List.getElem?_map, List.getElem?_range hk]
      simp [List.getD_eq_getElem?_getD, h1]
  rw [ed, compR_pure (p := fun d => p (un d) (rs.getD (un d) 0)) (f := fun d => g (un d) (rs.getD (un d) 0))]
  · simp only [bndx, List.nil_append, restE, wipeE, wipe_two hij hi hj, List.filter_map, List.map_map]
    rfl
  · intro d hd
    obtain ⟨k, hk, rfl⟩ := List.mem_map.mp hd
    have hk := List.mem_range.mp hk
    have h1 : rs[k]? = some (rs.getD k 0) := by simp [List.getD_eq_getElem?_getD, hk]
    obtain ⟨h2, h3⟩ := h k _ h1
    have ee : ((wipeE s.env [i, j]).set i (some (D.int (k : Int), false))).set j (some (qD (rs.getD k 0), false)) = (s.env.set i (some (.int (k : Int), false))).set j (some (qD (rs.getD k 0), false)) := by
      apply List.ext_getElem?
      intro q
      simp only [wipeE, List.getElem?_set, List.length_set]
      by_cases h1 : j = q
      · subst h1; simp [hj]
      · by_cases h2 : i = q
        · subst h2; simp [h1, hi]
        · simp [h1, h2]
    refine ⟨(s.env.set i (some (.int (k : Int), false))).set j (some (qD (rs.getD k 0), false)), ?_, h2, h3, ?_⟩
    · rw [← ee]
      exact asg_tp2 (by simp [wipeE, hi]) (by simp [wipeE, hj])
    · show wipeE ((s.env.set i _).set j _) [i, j] = wipeE s.env [i, j]
      apply List.ext_getElem?
      intro q
      simp only [wipeE, List.getElem?_set, List.length_set]
      by_cases h2 : i = q
      · subst h2; simp
      · by_cases h1 : j = q
        · subst h1; simp [h2]
        · simp [h1, h2]
  · simp only [List.length_nil, List.length_map, List.length_range, Nat.zero_add]
    exact Nat.le_trans hl (by decide)
theorem getD_get {xs : List Rat} {i : Nat} {r : Rat} (h : xs[i]? = some r) : xs.getD i 0 = r := by
  rw [List.getD_eq_getElem?_getD, h]
  rfl
theorem get_of {xs : List Rat} {i : Nat} (h : i < xs.length) : xs[i]? = some (xs.getD i 0) := by simp [List.getD_eq_getElem?_getD, h]
theorem rb_getD {b : Nat} {xs : List Rat} (h : ∀ r ∈ xs, rb b r) (h1 : 1 ≤ b) (i : Nat) : rb b (xs.getD i 0) := by
  rw [List.getD_eq_getElem?_getD]
  cases e : xs[i]? with
  | none => exact rb_le rb_zero h1
  | some r => exact h r (mem_get e)
theorem int_qD (k : Int) : D.tup [.int k, .int 1] = qD (k : Rat) := rfl
/-- the mean of a row by its places -/
def mean (xs : List Rat) : Rat := rsum ((List.range xs.length).map fun k => (((k : Nat) : Int) : Rat) * xs.getD k 0)
def sqrs (xs : List Rat) : Rat := rsum ((List.range xs.length).map fun k => (((k * k : Nat) : Int) : Rat) * xs.getD k 0)
theorem rb_list {b n : Nat} {f : Nat → Rat} (h : ∀ k, k < n → rb b (f k)) : ∀ r ∈ (List.range n).map f, rb b r := fun r hr => by
  obtain ⟨k, hk, rfl⟩ := List.mem_map.mp hr
  exact h k (List.mem_range.mp hk)
theorem rb_mean {xs : List Rat} {b : Nat} (h : ∀ r ∈ xs, rb b r) (h1 : 1 ≤ b) (hl : xs.length ≤ 100) : rb (1 + xs.length * (b + 9)) (mean xs) := by
  have := rb_rsum (rs := (List.range xs.length).map fun k => (((k : Nat) : Int) : Rat) * xs.getD k 0) (rb_list (b := b + 8) fun k hk => rb_le (rb_mul (rb_nat (k := 7) (i := k) (by omega) (by decide)) (rb_getD h h1 k)) (by omega))
  rw [List.length_map, List.length_range] at this
  exact this
section
variable {T : Tab} {n : Nat} {w : MP.W}
theorem mean_run (h15 : T.fn 15 = some fdDivisor) (h17 : T.fn 17 = some fdRatio) (h20 : T.fn 20 = some fdPlus) (h23 : T.fn 23 = some fdTotal) (h24 : T.fn 24 = some fdMul) (h57 : T.fn 57 = some fdWhole) (g18 : T.gl 18 = some (qD 0)) (h119 : T.fn 119 = some fdMeanOf)
    {xs : List Rat} {b : Nat} (hr : ∀ r ∈ xs, rb b r) (h1 : 1 ≤ b) (hl : xs.length ≤ 100) (hb : 1 + xs.length * (b + 9) ≤ 3000) (hb2 : b ≤ 2900) : callF T (n + 5) 119 [.tup (xs.map qD)] w = .ok (qD (mean xs)) w := by
  rw [callF_eq (by decide) h119 (by rfl)]
  have c57 : ∀ i : Int, callF T (n + 4) 57 [.int i] w = .ok (qD (i : Rat)) w := fun i => whole_run h57
  have c24 : ∀ (k : Nat) (r : Rat), xs[k]? = some r → callF T (n + 4) 24 [qD (((k : Nat) : Int) : Rat), qD r] w = .ok (qD ((((k : Nat) : Int) : Rat) * r)) w := fun k r h => by
    have := (List.getElem?_eq_some_iff.mp h).1
    exact mul_run (n := n + 1) h15 h17 h24 (rb_le (rb_nat (k := 7) (i := k) (by omega) (by decide)) (by decide)) (rb_le (hr r (mem_get h)) (by omega))
  have c23 := total_run (n := n) (w := w) h15 h17 h20 h23 g18 (d := .lst (((List.range xs.length).map fun k => (((k : Nat) : Int) : Rat) * xs.getD k 0).map qD)) rfl (rb_list (b := b + 8) fun k hk => rb_le (rb_mul (rb_nat (k := 7) (i := k) (by omega) (by decide)) (rb_getD hr h1 k)) (by omega)) (by rw [List.length_map, List.length_range]; exact hb) (by omega)
  show endR (exs ⟨callF T (n + 4), T.gl⟩ fdMeanOf.body ⟨[some (.tup (xs.map qD), false), none, none], w⟩) = _
  generalize callF T (n + 4) = F at c57 c24 c23 ⊢
  generalize T.gl = G
  have cmp : ev ⟨F, G⟩ false (.comp [1, 2] (.call 24 [.call 57 [.var 1], .var 2]) (.tp [.nm 1, .nm 2]) (.enum (.var 0)) none) ⟨[some (.tup (xs.map qD), false), none, none], w⟩ = .ok (.fresh (.lst (((List.range xs.length).map fun k => (((k : Nat) : Int) : Rat) * xs.getD k 0).map qD))) ⟨[some (.tup (xs.map qD), false), none, none], w⟩ := by
    rw [ev_compE (rs := xs) (by decide) (fun _ _ => true) (fun k r => qD ((((k : Nat) : Int) : Rat) * r)) (s := ⟨[some (.tup (xs.map qD), false), none, none], w⟩) (d := .tup (xs.map qD)) (by simp [ev, tr]) rfl (by show 1 < 3; omega) (by show 2 < 3; omega) (by rfl) (by omega) (fun k r h => ⟨rfl, fun _ => by
      have c := c24 k r h
      have c5 := c57 (k : Int)
      generalize qD ((((k : Nat) : Int) : Rat) * r) = z at *
      generalize qD (((k : Nat) : Int) : Rat) = z2 at *
      generalize D.tup (xs.map qD) = dx
      simp [ev, evc, bnd, oneR, consume, tr, callR, c5, c]⟩)]
    rw [List.filter_eq_self.mpr (by simp), List.map_map]
    rfl
  unfold fdMeanOf mean
  revert cmp
  generalize (ME.comp [1, 2] (.call 24 [.call 57 [.var 1], .var 2]) (.tp [.nm 1, .nm 2]) (.enum (.var 0)) none) = q
  intro cmp
  generalize ((List.range xs.length).map fun k => (((k : Nat) : Int) : Rat) * xs.getD k 0).map qD = z at *
  generalize D.tup (xs.map qD) = dx at *
  simp [exs, ex, ev, evc, bnd, oneR, consume, tr, callR, endR, cmp, c23]
theorem law_minus_run (h13 : T.fn 13 = some fdLawGcd) (h14 : T.fn 14 = some fdLawOf) (h22 : T.fn 22 = some fdLawAdd) (h35 : T.fn 35 = some fdLawMinus) {r s : Rat} (hr : rb 3000 r) (hs : rb 3000 s) : callF T (n + 4) 35 [qD r, qD s] w = .ok (qD (r - s)) w := by
  rw [callF_eq (by decide) h35 (by rfl)]
  have c := law_add_run (n := n) (w := w) h13 h14 h22 hr (s := -s) ⟨by rw [Rat.neg_num, Int.natAbs_neg]; exact hs.1, by rw [Rat.neg_den]; exact hs.2⟩
  rw [← Rat.sub_eq_add_neg] at c
  have e : qD (-s) = .tup [.int (0 - s.num), .int (s.den : Int)] := by
    unfold qD
    rw [Rat.neg_num, Rat.neg_den]
    congr 3
    omega
  rw [e] at c
  show endR (exs _ fdLawMinus.body ⟨[some (qD r, false), some (qD s, false)], w⟩) = _
  generalize callF T (n + 3) = F at c ⊢
  have sb : subD [.int 0, .int s.num] = some (.v (.int (0 - s.num))) := rfl
  generalize 0 - s.num = sn at *
  simp [fdLawMinus, exs, ex, ev, evs, evc, evOr, evAnd, isBl, bnd, tr, Opd.d, opD, outR, oneR, consume, endR, callR, truthD, bindNm, isObjD, isL, LN, ix0, ix1, sb, c]
theorem law_dot_run (h13 : T.fn 13 = some fdLawGcd) (h14 : T.fn 14 = some fdLawOf) (h22 : T.fn 22 = some fdLawAdd) (h26 : T.fn 26 = some fdLawMul) {nm x1 x2 x3 : Str} (h30 : T.fn 30 = some ⟨nm, 1, [x1, x2, x3], [.asg (.nm 1) (.tup [.cI 0, .cI 1]), .forS (.nm 2) (.seq (.var 0)) [.asg (.nm 1) (.call 22 [.var 1, .var 2])], .ret (.var 1)]⟩) (h54 : T.fn 54 = some fdLawDot)
    {xs ys : List Rat} {b c : Nat} (hx : ∀ r ∈ xs, rb b r) (hy : ∀ r ∈ ys, rb c r) (h1 : 1 ≤ b) (h2 : 1 ≤ c) (hl : xs.length ≤ ys.length) (hl2 : xs.length ≤ 1000) (hb : 1 + xs.length * (b + c + 2) ≤ 3000) (hb2 : b + c + 1 ≤ 3000) :
    callF T (n + 5) 54 [.lst (xs.map qD), .lst (ys.map qD)] w = .ok (qD (rsum ((List.range xs.length).map fun k => xs.getD k 0 * ys.getD k 0))) w := by
  rw [callF_eq (by decide) h54 (by rfl)]
  have c26 : ∀ k, k < xs.length → callF T (n + 4) 26 [qD (xs.getD k 0), qD (ys.getD k 0)] w = .ok (qD (xs.getD k 0 * ys.getD k 0)) w := fun k hk => law_mul_run (n := n + 1) h13 h14 h26 (rb_le (rb_getD hx h1 k) (by omega)) (rb_le (rb_getD hy h2 k) (by omega))
  have c30 := law_total_run (n := n) (w := w) h13 h14 h22 h30 (d := .lst (((List.range xs.length).map fun k => xs.getD k 0 * ys.getD k 0).map qD)) rfl (rb_list (b := b + c + 1) fun k hk => rb_mul (rb_getD hx h1 k) (rb_getD hy h2 k)) (by rw [List.length_map, List.length_range]; exact hb) hb2
  have gx : ∀ k, k < xs.length → ixD [.lst (xs.map qD), .int (k : Int)] = some (.v (qD (xs.getD k 0))) := fun k hk => get_at (get_of hk)
  have gy : ∀ k, k < xs.length → ixD [.lst (ys.map qD), .int (k : Int)] = some (.v (qD (ys.getD k 0))) := fun k hk => get_at (get_of (by omega))
  have l1 : lenD [.lst (xs.map qD)] = some (.v (.int (xs.length : Int))) := by simp [lenD]
  show endR (exs ⟨callF T (n + 4), T.gl⟩ fdLawDot.body ⟨[some (.lst (xs.map qD), false), some (.lst (ys.map qD), false), none], w⟩) = _
  generalize callF T (n + 4) = F at *
  generalize T.gl = G
  generalize D.lst (xs.map qD) = dx at *
  generalize D.lst (ys.map qD) = dy at *
  have cmp : ev ⟨F, G⟩ false (.comp [2] (.call 26 [.op .ix [.var 0, .var 2], .op .ix [.var 1, .var 2]]) (.nm 2) (.rng1 (.op .len [.var 0])) none) ⟨[some (dx, false), some (dy, false), none], w⟩ = .ok (.fresh (.lst (((List.range xs.length).map fun k => xs.getD k 0 * ys.getD k 0).map qD))) ⟨[some (dx, false), some (dy, false), none], w⟩ := by
    rw [ev_compN (fun _ => true) (fun k => qD (xs.getD k 0 * ys.getD k 0)) (n := xs.length) (s := ⟨[some (dx, false), some (dy, false), none], w⟩)]
    · rw [List.filter_eq_self.mpr (by simp), List.map_map]
      rfl
    · exact rng_ev (by omega) (by simp [ev, evs, bnd, tr, Opd.d, opD, outR, l1])
    · show 2 < 3
      omega
    · rfl
    · omega
    · intro k hk
      refine ⟨rfl, fun _ => ?_⟩
      have a1 := gx k hk
      have a2 := gy k hk
      have a3 := c26 k hk
      generalize qD (xs.getD k 0 * ys.getD k 0) = z at *
      generalize qD (xs.getD k 0) = u1 at *
      generalize qD (ys.getD k 0) = u2 at *
      simp [ev, evs, evc, bnd, oneR, consume, tr, callR, Opd.d, opD, outR, a1, a2, a3]
  unfold fdLawDot
  revert cmp
  generalize (ME.comp [2] (.call 26 [.op .ix [.var 0, .var 2], .op .ix [.var 1, .var 2]]) (.nm 2) (.rng1 (.op .len [.var 0])) none) = q
  intro cmp
  generalize ((List.range xs.length).map fun k => xs.getD k 0 * ys.getD k 0).map qD = z at *
  simp [exs, ex, ev, evc, bnd, oneR, consume, tr, callR, endR, cmp, c30]
/-! ### places -/
def placeB (m : Int) : D → Bool
  | .int i => decide (0 ≤ i) && decide (i < m)
  | _ => false
def placesB (m : Int) : D → Bool
  | .tup xs => xs.all (placeB m)
  | _ => false
theorem are_places_run (h25 : T.fn 25 = some fdIsWhole) (h60 : T.fn 60 = some fdArePlaces) {d : D} {m : Int} (hd : okG d) : callF T (n + 2) 60 [d, .int m] w = .ok (.bl (placesB m d)) w := by
  rw [callF_eq (by decide) h60 (by rfl)]
  have wh : ∀ x, okA x → callF T (n + 1) 25 [x] w = .ok (.bl (wholeB x)) w := fun x hx => is_whole_run h25 hx
  show endR (exs ⟨callF T (n + 1), T.gl⟩ fdArePlaces.body ⟨[some (d, false), some (.int m, false), none], w⟩) = _
  generalize callF T (n + 1) = F at wh ⊢
  generalize T.gl = G
  by_cases ht : ∃ xs, d = .tup xs
  · obtain ⟨xs, rfl⟩ := ht
    have comp : ev ⟨F, G⟩ false (.comp [2] (.andL [.call 25 [.var 2], .chain .le .lt (.cI 0) (.var 2) (.var 1)]) (.nm 2) (.seq (.var 0)) none) ⟨[some (.tup xs, false), some (.int m, false), none], w⟩ = .ok (.fresh (.lst (xs.map fun y => .bl (placeB m y)))) ⟨[some (.tup xs, false), some (.int m, false), none], w⟩ := by
      rw [ev_comp1 (fun _ => true) (fun d => .bl (placeB m d)) (ds := xs) (s := ⟨[some (.tup xs, false), some (.int m, false), none], w⟩)]
      · rw [List.filter_eq_self.mpr (by simp)]
        rfl
      · simp [evI, ev, bnd, tr, Opd.d, itemsD]
      · show 2 < 3
        omega
      · rfl
      · have := okG_len hd
        exact Nat.le_trans this (by decide)
      · intro x hx
        refine ⟨rfl, fun _ => ?_⟩
        have wx := wh x (okG_mem hd x hx).okA
        by_cases hi : ∃ i, x = .int i
        · obtain ⟨i, rfl⟩ := hi
          have wx : F 25 [.int i] w = .ok (.bl true) w := wx
          by_cases h0 : (0 : Int) ≤ i
          · simp [ev, evc, evAnd, bnd, oneR, consume, tr, callR, wx, truthD_bl, Opd.d, opD, outR, cmpI, MP.i2, h0, placeB]
          · simp [ev, evc, evAnd, bnd, oneR, consume, tr, callR, wx, truthD_bl, Opd.d, opD, outR, cmpI, MP.i2, h0, placeB]
        · have e1 : wholeB x = false := by cases x <;> first | rfl | (exact absurd ⟨_, rfl⟩ hi)
          have e2 : placeB m x = false := by cases x <;> first | rfl | (exact absurd ⟨_, rfl⟩ hi)
          rw [e1] at wx
          simp [ev, evc, evAnd, bnd, oneR, consume, tr, callR, wx, truthD_bl, Opd.d, e2]
    have hbs : shps 63 (xs.map fun y => D.bl (placeB m y)) = true := shps_of fun x hx => by
      obtain ⟨y, _, rfl⟩ := List.mem_map.mp hx
      simp [shp]
    have me : memB true [.bl false, .lst (xs.map fun y => D.bl (placeB m y))] = some (.v (.bl (xs.all (placeB m)))) := by
      simp only [memB, hbs, not_mem_falseP, shp, Bool.and_self, if_true, Bool.not_not]
    unfold fdArePlaces
    revert comp
    generalize (ME.comp [2] (.andL [.call 25 [.var 2], .chain .le .lt (.cI 0) (.var 2) (.var 1)]) (.nm 2) (.seq (.var 0)) none) = q
    intro comp
    have tt : isTys (.tup xs) [.tuple] = some true := rfl
    have pp : placesB m (.tup xs) = xs.all (placeB m) := rfl
    rw [pp]
    generalize (xs.map fun y => D.bl (placeB m y)) = bs at *
    generalize D.tup xs = dx at *
    simp [exs, ex, ev, evs, evc, evAnd, bnd, tr, Opd.d, comp, opD, tt, truthD_bl, outR, oneR, consume, endR, me]
  · have e2 : placesB m d = false := by cases d <;> first | rfl | (exact absurd ⟨_, rfl⟩ ht)
    have e1 : isTys d [.tuple] = some false := by
      have hA := hd.okA
      cases d <;> first
        | (exact absurd ⟨_, rfl⟩ ht)
        | (simp [isTys, isTy]; done)
        | (rcases hA with h | ⟨_, h⟩ <;> simp [shp] at h; done)
        | (rcases hA with h | ⟨_, h⟩ <;> cases h; done)
    simp [fdArePlaces, exs, ex, ev, evs, evc, evAnd, bnd, tr, Opd.d, e1, e2, truthD_bl, oneR, consume, endR]
end
end MP
set_option Elab.async false
set_option linter.all false
set_option maxRecDepth 100000
/-! The frame, where the turn's name is a comprehension's too. -/
namespace MP
open PySem L2
/-- what stands at i is not held by this name alone -/
def NOs (E : Env) (i : Nat) : Prop := ∀ d, E[i]? ≠ some (some (d, true))
theorem NOs.set {E : Env} {i j : Nat} {x : Option (D × Bool)} (h : NOs E i) (hj : j ≠ i) : NOs (E.set j x) i := fun d => by
  rw [List.getElem?_set_ne hj]
  exact h d
theorem NOs.of_at {E : Env} {i : Nat} {v : D} (h : At E i v) : NOs E i := fun d e => by
  unfold At at h
  rw [h] at e
  cases e
theorem NOs.one {E : Env} {i : Nat} (h : NOs E i) : noOwn E [i] = true := by
  simp only [noOwn, List.all_cons, List.all_nil, Bool.and_true]
  split
  · rename_i d hd
    exact absurd hd (h d)
  · rfl
section
variable {F : Nat → List D → MP.W → CR} {G : Nat → Option D}
/-- the law's loop over other things: its name for the turn is not held alone -/
theorem tail_okN {L : Nat} {E : Env} {S : List D} {w : MP.W} {ins news : List Nat} {vals nd : List D} {t k a jud M : Nat} {told : D} (A : D → Bool) (g : Good L E S) (hS : S.length ≤ 900) (hi : Ats E ins vals) (hn : Ats E news nd) (hnl : nd.length ≤ 3) (hok : ∀ d ∈ nd, okG d) (ht : At E t told)
    (hNO : NOs E k) (k3 : 3 ≤ k) (a3 : 3 ≤ a) (hk : k < L) (ha : a < L) (hka : k ≠ a) (hki : k ∉ ins) (hai : a ∉ ins) (h2i : 2 ∉ ins) (hkt : k ≠ t) (hat : a ≠ t) (h2t : t ≠ 2) (hM : M ≤ 100)
    (jd : ∀ (w : MP.W) (x : D), okG x → F jud (vals ++ [x]) w = .ok (.bl (A x)) w) (ac : ∀ (w : MP.W) (x : D), okG x → F 1 (vals ++ [x]) w = .ok (.bl (A x)) w)
    (od : ∀ (w : MP.W), ∃ d w', F 7 [.st, told] w = .ok d w' ∧ okG d) (sm : ∀ (w : MP.W) (b : Bool), F 8 [.bl b, .bl b] w = .ok (.bl true) w) :
    ∃ E' S' w', exs ⟨F, G⟩ (tailStd ins news t k a jud M) ⟨E, w⟩ = .ok .next ⟨E', w'⟩ ∧ Good L E' S' ∧ S'.length ≤ S.length + 3 ∧ NOs E' k := by
  have hcl := cutL_len S (some (-3)) none
  have hSS : ∀ d ∈ cutL S (some (-3)) none ++ nd, okG d := by
    intro d hd
    rcases List.mem_append.mp hd with h | h
    · exact g.ok d (cutL_mem h)
    · exact hok d h
  have al : addD [.lst (cutL S (some (-3)) none), .lst nd] = some (.f (.lst (cutL S (some (-3)) none ++ nd))) := addL (by omega)
  let SS := cutL S (some (-3)) none ++ nd
  have SSl : SS.length ≤ S.length + 3 := by show (_ ++ _ : List D).length ≤ _; rw [List.length_append]; omega
  let E1 := E.set 2 (some (.lst SS, true))
  have g2 : 2 < E.length := (List.getElem?_eq_some_iff.mp g.seen).1
  have gL : E.length = L := g.len
  have e1 : ex ⟨F, G⟩ (.asg (.nm 2) (.op .add [.op (.slice true false) [.var 2, .op .neg [.cI 3]], .lst (news.map .var)])) ⟨E, w⟩ = .ok .next ⟨E1, w⟩ := by
    have ev2 : evc ⟨F, G⟩ (news.map .var) ⟨E, w⟩ = .ok nd ⟨E, w⟩ := evc_at hn
    have hl2 : nd.length ≤ LN := Nat.le_trans hnl (by decide)
    generalize news.map ME.var = q at ev2 ⊢
    have gs := g.seen
    simp only [ex, ev, evs, ev2, hl2, gs, bnd, Opd.d, tr, opD, outR, oneR, consume, negD, sliceD, cutD, al, bindNm, isObjD, Bool.false_eq_true, if_false, if_true, g2]
    rfl
  have G1 : Good L E1 SS := ⟨by show (E.set 2 _).length = L; rw [List.length_set]; exact gL, g.st.set (by decide), List.getElem?_set_self g2, hSS⟩
  have hi1 : Ats E1 ins vals := hi.set h2i
  have ht1 : At E1 t told := ht.set (Ne.symm h2t)
  let body : List MS := [.asg (.nm a) (.ife (.op .lt [.var k, .cI M]) (.call 7 [.var 1, .var t]) (.op .ix [.var 2, .op .sub [.var k, .cI M]])),
     .ife (.not (.call 8 [.call jud ((ins ++ [a]).map .var), .call 1 ((ins ++ [a]).map .var)])) [.ret (.cB false)] []]
  have step : ∀ (done : List D) (d : D) (rest : List D) (s : MP.S), rangeD 0 ((M + SS.length : Nat) : Int) = done ++ d :: rest → (Good L s.env SS ∧ Ats s.env ins vals ∧ At s.env t told ∧ NOs s.env k) → ∃ (env1 : Env) (s' : MP.S), asgT (.nm k) d s.env = some env1 ∧
      (exs ⟨F, G⟩ body ⟨env1, s.w⟩ = .ok .next s' ∨ exs ⟨F, G⟩ body ⟨env1, s.w⟩ = .ok .cnt s') ∧ (Good L s'.env SS ∧ Ats s'.env ins vals ∧ At s'.env t told ∧ NOs s'.env k) := by
    rintro done d rest ⟨E2, w2⟩ hd ⟨G2, i2, t2, _⟩
    have hdm : d ∈ rangeD 0 ((M + SS.length : Nat) : Int) := by rw [hd]; simp
    rw [rangeD0] at hdm
    obtain ⟨j, hj, rfl⟩ := List.mem_map.mp hdm
    have hj := List.mem_range.mp hj
    have lk : k < E2.length := by rw [G2.len]; exact hk
    refine ⟨E2.set k (some (.int (j : Int), false)), ?_⟩
    have G3 : Good L (E2.set k (some (.int (j : Int), false))) SS := G2.set k3
    have i3 : Ats (E2.set k (some (.int (j : Int), false))) ins vals := i2.set hki
    have t3 : At (E2.set k (some (.int (j : Int), false))) t told := t2.set hkt
    have k3' : At (E2.set k (some (.int (j : Int), false))) k (.int (j : Int)) := At.new lk
    have asg : asgT (.nm k) (.int (j : Int)) E2 = some (E2.set k (some (.int (j : Int), false))) := by simp [asgT, lk]
    generalize hE3 : E2.set k (some (.int (j : Int), false)) = E3 at *
    have la : a < E3.length := by rw [G3.len]; exact ha
    have pick : ∃ x w3, okG x ∧ ex ⟨F, G⟩ (.asg (.nm a) (.ife (.op .lt [.var k, .cI M]) (.call 7 [.var 1, .var t]) (.op .ix [.var 2, .op .sub [.var k, .cI M]]))) ⟨E3, w2⟩ = .ok .next ⟨E3.set a (some (x, false)), w3⟩ := by
      have q1 := G3.st
      have q2 := G3.seen
      have k4 := k3'
      unfold At at q1 k4 t3
      by_cases h4 : (j : Int) < (M : Int)
      · obtain ⟨x, w3, o1, o2⟩ := od w2
        refine ⟨x, w3, o2, ?_⟩
        simp [ex, ev, evs, evc, bnd, Opd.d, tr, opD, outR, cmpI, MP.i2, h4, truthD, oneR, consume, callR, o1, bindNm, q1, k4, t3, la]
      · have hlt : j - M < SS.length := by omega
        have e : (j : Int) - (M : Int) = ((j - M : Nat) : Int) := by omega
        have ha2 := atI_nat hlt
        rw [← e] at ha2
        refine ⟨SS[j - M], w2, hSS _ (List.getElem_mem hlt), ?_⟩
        simp [ex, ev, evs, evc, bnd, Opd.d, tr, opD, outR, cmpI, MP.i2, h4, truthD, oneR, consume, subD, ixD, ha2, bindNm, q2, k4, la]
    obtain ⟨x, w3, ox, px⟩ := pick
    have i4 : Ats (E3.set a (some (x, false))) (ins ++ [a]) (vals ++ [x]) := (i3.set hai).app (At.new la)
    have ee := evc_at (F := F) (G := G) (w := w3) i4
    refine ⟨⟨E3.set a (some (x, false)), w3⟩, asg, .inl ?_, G3.set a3, i3.set hai, t3.set hat, NOs.of_at (k3'.set (Ne.symm hka))⟩
    show exs ⟨F, G⟩ [_, _] _ = _
    rw [exs_next px]
    have j1 := jd w3 x ox
    have j2 := ac w3 x ox
    have s1 := sm w3 (A x)
    have st : ex ⟨F, G⟩ (.ife (.not (.call 8 [.call jud ((ins ++ [a]).map .var), .call 1 ((ins ++ [a]).map .var)])) [.ret (.cB false)] []) ⟨E3.set a (some (x, false)), w3⟩ = .ok .next ⟨E3.set a (some (x, false)), w3⟩ := by
      refine ret_false (not_true (b := true) (ds := [.bl (A x), .bl (A x)]) ?_ s1)
      generalize (ins ++ [a]).map ME.var = q at ee ⊢
      simp [evc, ev, ee, bnd, oneR, callR, j1, j2, tr, consume]
    rw [exs_next st]
    rfl
  obtain ⟨s', e, Gx, ix, tx, nx⟩ := forR_inv _ step (rangeD 0 ((M + SS.length : Nat) : Int)) [] ⟨E1, w⟩ rfl ⟨G1, hi1, ht1, hNO.set (by omega)⟩
  refine ⟨s'.env, SS, s'.w, ?_, Gx, SSl, nx⟩
  show exs ⟨F, G⟩ [_, _] _ = _
  rw [exs_next e1]
  have e2 : ex ⟨F, G⟩ (.forS (.nm k) (.rng1 (.op .add [.cI M, .op .len [.var 2]])) body) ⟨E1, w⟩ = .ok .next s' := by
    have en : (M : Int) + (SS.length : Int) = ((M + SS.length : Nat) : Int) := by omega
    have q2 := G1.seen
    simp only [ex, evIc, evI, ev, evs, bnd, tr, Opd.d, opD, lenD, addD, outR, Bool.false_eq_true, if_false, if_true, q2, en]
    rw [if_pos (by omega)]
    exact e
  rw [exs_next e2]
  rfl
/-- the law's own loop, with a word of its own about the names -/
theorem law_frameI {L N : Nat} {turnB : List MS} (I : Env → Prop) (hL : 3 < L) (I0 : ∀ E : Env, E = (none :: some (D.st, false) :: List.replicate (L - 2) none : Env).set 2 (some (.lst [], true)) → I E) (I3 : ∀ (E : Env) (d : D), I E → I (E.set 3 (some (d, false)))) (hN : N ≤ 100) (w : MP.W) (turn : ∀ (E : Env) (S : List D) (w : MP.W), Good L E S → I E → S.length ≤ 300 → ∃ E' S' w', exs ⟨F, G⟩ turnB ⟨E, w⟩ = .ok .next ⟨E', w'⟩ ∧ Good L E' S' ∧ I E' ∧ S'.length ≤ S.length + 3) :
    ∃ s', exs ⟨F, G⟩ [.asg (.nm 2) (.lst []), .forS (.nm 3) (.rng1 (.cI N)) turnB, .ret (.cB true)] ⟨none :: some (.st, false) :: List.replicate (L - 2) none, w⟩ = .ok (.ret (.bl true)) s' := by
  have l0 : (none :: some (D.st, false) :: List.replicate (L - 2) none : Env).length = L := by simp; omega
  let E1 : Env := (none :: some (D.st, false) :: List.replicate (L - 2) none : Env).set 2 (some (.lst [], true))
  have e1 : ex ⟨F, G⟩ (.asg (.nm 2) (.lst [])) ⟨none :: some (.st, false) :: List.replicate (L - 2) none, w⟩ = .ok .next ⟨E1, w⟩ := by
    have : 2 < L - 2 + 1 + 1 := by omega
    simp [ex, ev, evc, bnd, tr, bindNm, isObjD, LN, E1, this]
  have G1 : Good L E1 [] := ⟨by show (List.set _ _ _).length = _; rw [List.length_set]; exact l0, At.set (j := 2) (by rfl) (by decide), List.getElem?_set_self (by rw [l0]; omega), by simp⟩
  have step : ∀ (done : List D) (d : D) (rest : List D) (s : MP.S), rangeD 0 (N : Int) = done ++ d :: rest → (∃ S, Good L s.env S ∧ I s.env ∧ S.length ≤ 3 * done.length) → ∃ (env1 : Env) (s' : MP.S), asgT (.nm 3) d s.env = some env1 ∧
      (exs ⟨F, G⟩ turnB ⟨env1, s.w⟩ = .ok .next s' ∨ exs ⟨F, G⟩ turnB ⟨env1, s.w⟩ = .ok .cnt s') ∧ (∃ S, Good L s'.env S ∧ I s'.env ∧ S.length ≤ 3 * (done ++ [d]).length) := by
    rintro done d rest ⟨E, w1⟩ hd ⟨S, g, hI, hS⟩
    have hlen : done.length ≤ 100 := by
      have := congrArg List.length hd
      rw [rangeD0] at this
      simp at this
      omega
    obtain ⟨E', S', w', e, g', hI', hS'⟩ := turn (E.set 3 (some (d, false))) S w1 (g.set (by decide)) (I3 E d hI) (by omega)
    have l3 : 3 < E.length := by rw [g.len]; exact hL
    exact ⟨E.set 3 (some (d, false)), ⟨E', w'⟩, by simp [asgT, l3], .inl e, S', g', hI', by simp; omega⟩
  obtain ⟨s', e, _⟩ := forR_inv _ step (rangeD 0 (N : Int)) [] ⟨E1, w⟩ rfl ⟨[], G1, I0 E1 rfl, by simp⟩
  refine ⟨s', ?_⟩
  rw [exs_next e1, exs_next (s' := s')]
  · exact exs_ret (by simp [ex, ev, bnd, tr, oneR, consume])
  · simp only [ex, evIc, evI, ev, bnd, tr, Opd.d, Bool.false_eq_true, if_false]
    rw [if_pos (by omega)]
    exact e
end
end MP
set_option Elab.async false
set_option linter.all false
set_option maxRecDepth 100000
/-! Fractions over one number; what a row nearby is made of. -/
namespace MP
open PySem L2

def fr (M A : Nat) (r : Rat) : Prop := ∃ a : Int, r = Rat.divInt a (M : Int) ∧ a.natAbs ≤ A
theorem fr_le {M A B : Nat} {r : Rat} (h : fr M A r) (hb : A ≤ B) : fr M B r := by
  obtain ⟨a, h1, h2⟩ := h
  exact ⟨a, h1, by omega⟩
theorem fr_rb {M A k : Nat} {r : Rat} (h : fr M A r) (hA : A < 2 ^ k) (hM : M < 2 ^ k) (hk : 1 ≤ k) : rb k r := by
  obtain ⟨a, rfl, h2⟩ := h
  exact rb_divInt (by omega) (by rw [Int.natAbs_natCast]; exact hM) hk
theorem fr_zero (M : Nat) : fr M 0 0 := ⟨0, (Rat.zero_divInt _).symm, by simp⟩
theorem fr_add {M A B : Nat} {r s : Rat} (hM : 0 < M) (hr : fr M A r) (hs : fr M B s) : fr M (A + B) (r + s) := by
  obtain ⟨a, rfl, h1⟩ := hr
  obtain ⟨b, rfl, h2⟩ := hs
  have m0 : (M : Int) ≠ 0 := by omega
  exact ⟨a + b, by rw [Rat.divInt_add_divInt _ _ m0 m0, ← Int.add_mul, Rat.divInt_mul_right m0], by have := Int.natAbs_add_le a b; omega⟩
theorem fr_rsum {M A : Nat} (hM : 0 < M) : ∀ {rs : List Rat}, (∀ r ∈ rs, fr M A r) → fr M (rs.length * A) (rsum rs)
  | [], _ => by simpa [rsum] using fr_zero M
  | r :: rs, h => by
    have h1 := fr_add hM (h r List.mem_cons_self) (fr_rsum hM (rs := rs) fun x hx => h x (List.mem_cons_of_mem _ hx))
    refine fr_le h1 ?_
    simp only [List.length_cons, Nat.add_mul, Nat.one_mul]
    omega
theorem fr_up {M A k : Nat} {r : Rat} (hk : 0 < k) (h : fr M A r) : fr (M * k) (A * k) r := by
  obtain ⟨a, rfl, h1⟩ := h
  refine ⟨a * k, ?_, ?_⟩
  · rw [Int.natCast_mul, Rat.divInt_mul_right (by omega)]
  · rw [Int.natAbs_mul, Int.natAbs_natCast]
    exact Nat.mul_le_mul_right _ h1
theorem fr_part {M A n : Nat} {r : Rat} (h : fr M A r) : fr (M * n) A (Rat.divInt 1 (n : Int) * r) := by
  obtain ⟨a, rfl, h1⟩ := h
  refine ⟨a, ?_, h1⟩
  rw [Rat.divInt_mul_divInt, Int.one_mul, ← Int.natCast_mul, Nat.mul_comm n M]
theorem fr_one {M : Nat} (hM : 0 < M) : fr M M 1 := ⟨(M : Int), (Rat.divInt_self' (by omega)).symm, by simp⟩
theorem fr_neg1 {M : Nat} (hM : 0 < M) : fr M M (-1) := ⟨-(M : Int), by
  rw [← Rat.neg_divInt, Rat.divInt_self' (by omega)], by simp⟩
section
variable {T : Tab} {n : Nat}
theorem near_frac2 {r : Rat} {st : Int} (hs : st = 1 ∨ st = -1) : ∃ r', D.tup [.int (r.num + st * r.den), .int (r.den : Int)] = qD r' ∧ r' = r + (st : Rat) := by
  have f : fracB (D.tup [.int (r.num + st * r.den), .int (r.den : Int)]) = true := by
    have hp := r.den_pos
    have c := r.reduced
    simp only [fracB, Bool.and_eq_true, decide_eq_true_eq, beq_iff_eq]
    refine ⟨by omega, ?_⟩
    have e : Int.gcd (r.num + st * (r.den : Int)) (r.den : Int) = Int.gcd r.num (r.den : Int) := Int.gcd_add_mul_right_left ..
    rw [e]
    exact c
  obtain ⟨r', e⟩ := fracB_iff.mp f
  refine ⟨r', e, ?_⟩
  unfold qD at e
  simp only [D.tup.injEq, List.cons.injEq, D.int.injEq, and_true] at e
  obtain ⟨e1, e2⟩ := e
  have d0 := den_ne r
  have h1 : r' = Rat.divInt (r.num + st * (r.den : Int)) (r.den : Int) := by
    rw [e1, e2, Rat.num_divInt_den]
  have h2 : (st : Rat) = Rat.divInt (st * (r.den : Int)) (1 * (r.den : Int)) := by
    rw [Rat.divInt_mul_right d0, Rat.divInt_eq_div]
    show (st : Rat) = (st : Rat) / 1
    grind
  rw [h1, h2, Int.one_mul]
  conv => rhs; lhs; rw [← Rat.num_divInt_den r]
  rw [Rat.divInt_add_divInt _ _ d0 d0, ← Int.add_mul, Rat.divInt_mul_right d0]
theorem neigh_rats2 (h6 : T.fn 6 = some fdLawNeighbour) (rs : List Rat) (hl : rs.length ≤ 100000) (hb29 : ∀ r ∈ rs, rb 2900 r) (w : MP.W) : ∃ (rs' : List Rat) (w' : MP.W), callF T (n + 2) 6 [.st, .tup (rs.map qD)] w = .ok (.tup (rs'.map qD)) w' ∧ rs'.length ≤ rs.length ∧ ∀ x ∈ rs', x ∈ rs ∨ ∃ r ∈ rs, x = r + 1 ∨ x = r - 1 := by
  rw [callF_eq (by decide) h6 (by rfl)]
  have nx : ∀ (w : MP.W) (lim : Int), 0 < lim → lim < 1000000 → callF T (n + 1) 0 [.st, .int lim] w = .ok (.int (nextW w lim).1) (nextW w lim).2 := fun w lim h1 h2 => next_call h1 h2
  show ∃ (rs' : List Rat) (w' : MP.W), endR (exs ⟨callF T (n + 1), T.gl⟩ fdLawNeighbour.body ⟨[some (.st, false), some (.tup (rs.map qD), false), none, none, none, none], w⟩) = .ok (.tup (rs'.map qD)) w' ∧ _
  have dr : ∀ (w : MP.W) (lim : Nat), 0 < lim → lim < 1000000 → ∃ (k : Nat) (w' : MP.W), k < lim ∧ callF T (n + 1) 0 [.st, .int (lim : Int)] w = .ok (.int (k : Int)) w' := fun w lim h1 h2 => by
    obtain ⟨k, w', h3, h4⟩ := next_at (T := T) (n := n) (w := w) (lim := (lim : Int)) (by omega) (by omega)
    exact ⟨k, w', by omega, h4⟩
  generalize callF T (n + 1) = F at nx dr
  generalize T.gl = G
  unfold fdLawNeighbour
  obtain ⟨ks, w1, hks, n1⟩ := dr w 2 (by decide) (by decide)
  have n1 : F 0 [.st, .int 2] w = .ok (.int (ks : Int)) w1 := n1
  obtain ⟨st, hst, ast⟩ : ∃ st : Int, (st = 1 ∨ st = -1) ∧ atI [D.int 1, D.int (-1)] (ks : Int) = some (.int st) := by
    have : ks = 0 ∨ ks = 1 := by omega
    rcases this with rfl | rfl
    · exact ⟨1, .inl rfl, by simp [atI, ixN]⟩
    · exact ⟨-1, .inr rfl, by simp [atI, ixN]⟩
  have s1 : exs ⟨F, G⟩ [.ife (.isi (.var 1) [.bool, .str]) [.ret (.var 1)] [], .asg (.nm 2) (.op .ix [.lst [.cI 1, .op .neg [.cI 1]], .call 0 [.var 0, .cI 2]]), .ife (.isi (.var 1) [.int]) [.ret (.op .add [.var 1, .var 2])] []] ⟨[some (.st, false), some (.tup (rs.map qD), false), none, none, none, none], w⟩ = .ok .next ⟨[some (.st, false), some (.tup (rs.map qD), false), some (.int st, false), none, none, none], w1⟩ := by
    simp [exs, ex, ev, evs, evc, evOr, evAnd, isBl, bnd, tr, Opd.d, opD, outR, oneR, consume, endR, callR, truthD, bindNm, isObjD, isL, LN, isTys, isTy, negD, n1, ixD, ast]
  simp only [exs, bnd] at s1
  have s1' : ∀ rest, exs ⟨F, G⟩ (.ife (.isi (.var 1) [.bool, .str]) [.ret (.var 1)] [] :: .asg (.nm 2) (.op .ix [.lst [.cI 1, .op .neg [.cI 1]], .call 0 [.var 0, .cI 2]]) :: .ife (.isi (.var 1) [.int]) [.ret (.op .add [.var 1, .var 2])] [] :: rest) ⟨[some (.st, false), some (.tup (rs.map qD), false), none, none, none, none], w⟩ = exs ⟨F, G⟩ rest ⟨[some (.st, false), some (.tup (rs.map qD), false), some (.int st, false), none, none, none], w1⟩ := by
    intro rest
    rw [exs_next (s' := ⟨[some (.st, false), some (.tup (rs.map qD), false), none, none, none, none], w⟩) (by simp [exs, ex, ev, evs, evc, evOr, evAnd, isBl, bnd, tr, Opd.d, opD, outR, oneR, consume, endR, callR, truthD, bindNm, isObjD, isL, LN, isTys, isTy]),
      exs_next (s' := ⟨[some (.st, false), some (.tup (rs.map qD), false), some (.int st, false), none, none, none], w1⟩) (by simp [exs, ex, ev, evs, evc, evOr, evAnd, isBl, bnd, tr, Opd.d, opD, outR, oneR, consume, endR, callR, truthD, bindNm, isObjD, isL, LN, negD, n1, ixD, ast]),
      exs_next (s' := ⟨[some (.st, false), some (.tup (rs.map qD), false), some (.int st, false), none, none, none], w1⟩) (by simp [exs, ex, ev, evs, evc, evOr, evAnd, isBl, bnd, tr, Opd.d, opD, outR, oneR, consume, endR, callR, truthD, bindNm, isObjD, isL, LN, isTys, isTy])]
  rw [s1']
  clear s1 s1'
  have hsh : shp 64 (.tup (rs.map qD)) = true := by
    simp only [shp]
    refine shps_of fun x hx => ?_
    obtain ⟨r, _, rfl⟩ := List.mem_map.mp hx
    simp [qD, shp, shps]
  have en : eqB false [.tup (rs.map qD), .tup []] = some (.v (.bl (rs.map qD).isEmpty)) := by
    rw [eqB_ok hsh (by simp [shp, shps]), eq_nil]
    rfl
  by_cases h0 : rs = []
  · subst h0
    refine ⟨[], w1, ?_, by simp, by simp⟩
    simp [exs, ex, ev, evs, evc, evOr, evAnd, isBl, bnd, tr, Opd.d, opD, outR, oneR, consume, endR, callR, truthD, bindNm, isObjD, isL, LN, isTys, isTy, show eqB false [.tup [], .tup []] = some (.v (.bl true)) from en]
  · have hpos : 0 < rs.length := List.length_pos_iff.mpr h0
    have hem : (rs.map qD).isEmpty = false := by
      cases rs with
      | nil => exact absurd rfl h0
      | cons _ _ => rfl
    obtain ⟨k, w2, hk, n2⟩ := dr w1 rs.length hpos (by omega)
    have hlen : (rs.map qD).length = rs.length := List.length_map ..
    obtain ⟨r, hr⟩ : ∃ r, rs[k]? = some r := ⟨rs[k], List.getElem?_eq_getElem hk⟩
    have ak : atI (rs.map qD) (k : Int) = some (qD r) := by
      rw [atI_nat (by rw [hlen]; exact hk)]
      rw [List.getElem?_eq_getElem hk] at hr
      cases hr
      simp
    rw [exs_next (s' := ⟨[some (.st, false), some (.tup (rs.map qD), false), some (.int st, false), none, none, none], w1⟩) (by simp [exs, ex, ev, evs, evc, evOr, evAnd, isBl, bnd, tr, Opd.d, opD, outR, oneR, consume, endR, callR, truthD, bindNm, isObjD, isL, LN, isTys, isTy, en, hem]),
      exs_next (s' := ⟨[some (.st, false), some (.tup (rs.map qD), false), some (.int st, false), some (.int (k : Int), false), none, none], w2⟩) (by simp only [exs, ex, ev, evs, evc, evOr, evAnd, isBl, bnd, tr, Opd.d, opD, outR, oneR, consume, endR, callR, truthD, bindNm, isObjD, isL, LN, lenD, hlen, n2, List.getElem?_cons_zero, List.getElem?_cons_succ, Bool.false_eq_true, if_false, List.length_cons, List.length_nil, Nat.reduceAdd, Nat.reduceLT, if_true, List.set]),
      exs_next (s' := ⟨[some (.st, false), some (.tup (rs.map qD), false), some (.int st, false), some (.int (k : Int), false), some (qD r, false), none], w2⟩) (by simp [exs, ex, ev, evs, evc, evOr, evAnd, isBl, bnd, tr, Opd.d, opD, outR, oneR, consume, endR, callR, truthD, bindNm, isObjD, isL, LN, ixD, ak]),
      exs_next (s' := ⟨[some (.st, false), some (.tup (rs.map qD), false), some (.int st, false), some (.int (k : Int), false), some (qD r, false), none], w2⟩) (by simp [exs, ex, ev, evs, evc, evOr, evAnd, isBl, bnd, tr, Opd.d, opD, outR, oneR, consume, endR, callR, truthD, bindNm, isObjD, isL, LN, isTys, isTy, qD])]
    obtain ⟨j, w3, hj, n3⟩ := dr w2 3 (by decide) (by decide)
    have n3 : F 0 [.st, .int 3] w2 = .ok (.int (j : Int)) w3 := n3
    have ad1 : addD [.int (k : Int), .int 1] = some (.v (.int ((k : Int) + 1))) := rfl
    have c1 : cutD (.tup (rs.map qD)) none (some (k : Int)) = some (.v (.tup ((rs.take k).map qD))) := by
      show some (Rs.v (.tup (cutL (rs.map qD) none (some (k : Int))))) = _
      simp only [cutL, HT.sIx_nat, HT.sIx_none, List.drop_zero, Nat.sub_zero, hlen]
      rw [Nat.min_eq_left (by omega), List.map_take]
    have c2 : cutD (.tup (rs.map qD)) (some ((k : Int) + 1)) none = some (.v (.tup ((rs.drop (k + 1)).map qD))) := by
      show some (Rs.v (.tup (cutL (rs.map qD) (some ((k + 1 : Nat) : Int)) none))) = _
      simp only [cutL, HT.sIx_nat, HT.sIx_none, hlen]
      rw [Nat.min_eq_left (by omega), List.map_drop]
      rw [List.take_of_length_le (by rw [List.length_drop, hlen]; omega)]
    have a0 : ixD [qD r, .int 1] = some (.v (.int (r.den : Int))) := ix1 r
    have a1 : ixD [qD r, .int 0] = some (.v (.int r.num)) := ix0 r
    have comp : ev ⟨F, G⟩ false (.comp [5] (.var 5) (.nm 5) (.seq (.var 4)) (some (.not (.isi (.var 5) [.int])))) ⟨[some (.st, false), some (.tup (rs.map qD), false), some (.int st, false), some (.int (k : Int), false), some (qD r, false), none], w2⟩ = .ok (.fresh (.lst [])) ⟨[some (.st, false), some (.tup (rs.map qD), false), some (.int st, false), some (.int (k : Int), false), some (qD r, false), none], w2⟩ := by
      rw [ev_comp1 (fun _ => false) id (ds := [.int r.num, .int (r.den : Int)]) (s := ⟨[some (.st, false), some (.tup (rs.map qD), false), some (.int st, false), some (.int (k : Int), false), some (qD r, false), none], w2⟩)]
      · rfl
      · simp [evI, ev, bnd, tr, Opd.d, itemsD, qD]
      · show 5 < 6
        omega
      · rfl
      · show 2 ≤ LN
        decide
      · intro d hd
        refine ⟨?_, fun h => by cases h⟩
        simp only [List.mem_cons, List.not_mem_nil, or_false] at hd
        rcases hd with rfl | rfl <;> simp [evO, exs, ex, ev, evs, evc, evOr, evAnd, isBl, bnd, tr, Opd.d, opD, outR, oneR, consume, endR, callR, truthD, bindNm, isObjD, isL, LN, isTys, isTy]
    revert comp
    generalize (ME.comp [5] (.var 5) (.nm 5) (.seq (.var 4)) (some (.not (.isi (.var 5) [.int])))) = q
    intro comp
    have lq : lenD [qD r] = some (.v (.int 2)) := rfl
    have tq : isTys (qD r) [.tuple] = some true := rfl
    have hd : (0 : Int) < (r.den : Int) := by have := r.den_pos; omega
    have el : eqB false [.lst [], .lst []] = some (.v (.bl true)) := by simp [eqB, shp, shps, eqD, eqDs]
    have e2 : eqB false [.int 2, .int 2] = some (.v (.bl true)) := by simp [eqB, shp, eqD]
    have lt : ((rs.take k).map qD).length ≤ rs.length := by simp; omega
    have ld : ((rs.drop (k + 1)).map qD).length ≤ rs.length := by simp
    have cnd : ev ⟨F, G⟩ true (.andL [.isi (.var 4) [.tuple], .op .eq [.op .len [.var 4], .cI 2], .op .eq [q, .lst []], .op .gt [.op .ix [.var 4, .cI 1], .cI 0], .op .gt [.call 0 [.var 0, .cI 3], .cI 0]]) ⟨[some (.st, false), some (.tup (rs.map qD), false), some (.int st, false), some (.int (k : Int), false), some (qD r, false), none], w2⟩ = .ok (.val (.bl (decide ((0 : Int) < (j : Int))))) ⟨[some (.st, false), some (.tup (rs.map qD), false), some (.int st, false), some (.int (k : Int), false), some (qD r, false), none], w3⟩ := by
      simp [exs, ex, ev, evs, evc, evOr, evAnd, isBl, bnd, tr, Opd.d, opD, outR, oneR, consume, endR, callR, truthD, bindNm, isObjD, isL, LN, tq, lq, e2, comp, el, a0, cmpI, MP.i2, hd, n3, r.den_pos]
    by_cases hj0 : (0 : Int) < (j : Int)
    · rw [decide_eq_true hj0] at cnd
      obtain ⟨r', e', hb'⟩ := near_frac2 (r := r) hst
      have rbr := hb29 r (mem_get hr)
      obtain ⟨_, b2⟩ := rb_bits rbr (by decide)
      have b3 : bits st ≤ 10 := by rcases hst with rfl | rfl <;> decide
      have mu := mulI (i := st) (j := (r.den : Int)) (by omega) (by omega)
      have ad2 : addD [.int r.num, .int (st * (r.den : Int))] = some (.v (.int (r.num + st * (r.den : Int)))) := rfl
      have al1 := addT (x := (rs.take k).map qD) (y := [qD r']) (by simp; omega)
      have al2 := addT (x := (rs.take k).map qD ++ [qD r']) (y := (rs.drop (k + 1)).map qD) (by simp only [List.length_append, List.length_cons, List.length_nil]; omega)
      have fin : (rs.take k).map qD ++ [qD r'] ++ (rs.drop (k + 1)).map qD = (rs.take k ++ [r'] ++ rs.drop (k + 1)).map qD := by simp
      rw [fin] at al2
      refine ⟨rs.take k ++ [r'] ++ rs.drop (k + 1), w3, ?_, by simp; omega, fun x hx => ?_⟩
      · generalize (rs.take k ++ [r'] ++ rs.drop (k + 1)).map qD = zz at al2 ⊢
        have st4 : ex ⟨F, G⟩ (.ife (.andL [.isi (.var 4) [.tuple], .op .eq [.op .len [.var 4], .cI 2], .op .eq [q, .lst []], .op .gt [.op .ix [.var 4, .cI 1], .cI 0], .op .gt [.call 0 [.var 0, .cI 3], .cI 0]]) [.ret (.op .add [.op .add [.op (.slice false true) [.var 1, .var 3], .tup [.tup [.op .add [.op .ix [.var 4, .cI 0], .op .mul [.var 2, .op .ix [.var 4, .cI 1]]], .op .ix [.var 4, .cI 1]]]], .op (.slice true false) [.var 1, .op .add [.var 3, .cI 1]]])] []) ⟨[some (.st, false), some (.tup (rs.map qD), false), some (.int st, false), some (.int (k : Int), false), some (qD r, false), none], w2⟩ = .ok (.ret (.tup zz)) ⟨[some (.st, false), some (.tup (rs.map qD), false), some (.int st, false), some (.int (k : Int), false), some (qD r, false), none], w3⟩ := by
          rw [ex_t cnd rfl]
          generalize qD r = qr at *
          simp only [exs, ex, ev, evs, evc, evOr, evAnd, isBl, bnd, tr, Opd.d, opD, outR, oneR, consume, endR, callR, truthD, bindNm, isObjD, isL, LN, sliceD, c1, c2, ad1, a0, a1, mu, ad2, e', al1, al2, List.getElem?_cons_zero, List.getElem?_cons_succ, Bool.false_eq_true, if_false, if_true, List.length_cons, List.length_nil, Nat.reduceAdd, Nat.reduceLeDiff]
        rw [exs_ret st4]
        rfl
      · rcases List.mem_append.mp hx with hx | hx
        · rcases List.mem_append.mp hx with hx | hx
          · exact .inl (List.mem_of_mem_take hx)
          · simp only [List.mem_cons, List.not_mem_nil, or_false] at hx
            subst hx
            refine .inr ⟨r, mem_get hr, ?_⟩
            rcases hst with rfl | rfl
            · exact .inl hb'
            · refine .inr (hb'.trans ?_)
              show r + ((-1 : Int) : Rat) = r - 1
              rw [Rat.sub_eq_add_neg]
              rfl
        · exact .inl (List.mem_of_mem_drop hx)
    · rw [decide_eq_false hj0] at cnd
      refine ⟨rs.take k ++ rs.drop (k + 1), w3, ?_, by simp; omega, fun x hr => ?_⟩
      · have al := addT (x := (rs.take k).map qD) (y := (rs.drop (k + 1)).map qD) (by omega)
        rw [← List.map_append] at al
        rw [exs_next (s' := ⟨[some (.st, false), some (.tup (rs.map qD), false), some (.int st, false), some (.int (k : Int), false), some (qD r, false), none], w3⟩) (by rw [ex_f cnd rfl]; rfl)]
        generalize (rs.take k ++ rs.drop (k + 1)).map qD = zz at al ⊢
        generalize (rs.take k).map qD = z1 at al c1
        generalize (rs.drop (k + 1)).map qD = z2 at al c2
        simp [exs, ex, ev, evs, evc, evOr, evAnd, isBl, bnd, tr, Opd.d, opD, outR, oneR, consume, endR, callR, truthD, bindNm, isObjD, isL, LN, sliceD, c1, c2, ad1, al]
      · rcases List.mem_append.mp hr with hr | hr
        · exact .inl (List.mem_of_mem_take hr)
        · exact .inl (List.mem_of_mem_drop hr)
end
end MP
set_option Elab.async false
set_option linter.all false
set_option maxRecDepth 100000
/-! Parts over one number; sums of rows, for any table. -/
namespace MP
open PySem L2
section
variable {T : Tab} {n : Nat}
theorem parts_run2 (h13 : T.fn 13 = some fdLawGcd) (h14 : T.fn 14 = some fdLawOf) (h27 : T.fn 27 = some fdLawParts) {c : Nat} {low : Int} (hc : 0 < c) (hc2 : c ≤ 100) (hl : 0 ≤ low) (hl2 : low ≤ 20) (w : MP.W) :
    ∃ (rs : List Rat) (w' : MP.W), callF T (n + 3) 27 [.st, .int (c : Int), .int low] w = .ok (.tup (rs.map qD)) w' ∧ rs.length = c ∧ (∀ r ∈ rs, 0 ≤ r ∧ rb 12 r) ∧ rsum rs = 1 ∧ ∃ S : Nat, 0 < S ∧ S ≤ 30 * c ∧ ∀ r ∈ rs, fr S 30 r := by
  rw [callF_eq (by decide) h27 (by rfl)]
  have dr : ∀ (w : MP.W) (lim : Int), 0 < lim → lim < 1000000 → ∃ (k : Nat) (w' : MP.W), (k : Int) < lim ∧ callF T (n + 2) 0 [.st, .int lim] w = .ok (.int (k : Int)) w' := fun w lim h1 h2 => next_at h1 h2
  have c14 : ∀ (w : MP.W) (a b : Int), b ≠ 0 → b.natAbs < 2 ^ 8000 → callF T (n + 2) 14 [.int a, .int b] w = .ok (qD (Rat.divInt a b)) w := fun w a b h1 h2 => law_of_run h13 h14 h1 h2
  show ∃ (rs : List Rat) (w' : MP.W), endR (exs ⟨callF T (n + 2), T.gl⟩ fdLawParts.body ⟨[some (.st, false), some (.int (c : Int), false), some (.int low, false), none, none, none], w⟩) = .ok (.tup (rs.map qD)) w' ∧ _
  generalize callF T (n + 2) = F at dr c14 ⊢
  generalize T.gl = G
  unfold fdLawParts
  obtain ⟨xs, w1, e1, p1, l1⟩ := ev_compW (cx := ⟨F, G⟩) (i := 4) (elt := .op .add [.var 2, .call 0 [.var 0, .cI 4]]) (src := .rng1 (.var 1)) (s0 := ⟨[some (.st, false), some (.int (c : Int), false), some (.int low, false), none, none, none], w⟩)
    (env := [some (.st, false), some (.int (c : Int), false), some (.int low, false), none, none, none]) (w := w) (ds := rangeD 0 (c : Int)) (fun x => ∃ i : Int, x = .int i ∧ 0 ≤ i ∧ i ≤ 30) (rng_ev (by omega) (by simp [ev, tr])) (by show 4 < 6; omega) (by rfl)
    (by rw [rangeD0]; simp [LN]; omega) (fun d hd w => by
      obtain ⟨k, w', hk, nk⟩ := dr w 4 (by decide) (by decide)
      exact ⟨.int (low + k), w', by simp [exs, ex, ev, evs, evc, evOr, evAnd, isBl, bnd, tr, Opd.d, opD, outR, oneR, consume, endR, callR, truthD, bindNm, isObjD, isL, LN, nk, addD], low + k, rfl, by omega, by omega⟩)
  have lr : (rangeD 0 (c : Int)).length = c := by rw [rangeD0]; simp
  rw [lr] at l1
  obtain ⟨ns, rfl, hns⟩ : ∃ ns : List Int, xs = ns.map D.int ∧ ∀ i ∈ ns, 0 ≤ i ∧ i ≤ 30 := by
    clear e1 l1
    induction xs with
    | nil => exact ⟨[], rfl, by simp⟩
    | cons x xs ih =>
      obtain ⟨i, rfl, h1, h2⟩ := p1 x List.mem_cons_self
      obtain ⟨ns, rfl, h3⟩ := ih fun y hy => p1 y (List.mem_cons_of_mem _ hy)
      exact ⟨i :: ns, rfl, fun j hj => by
        rcases List.mem_cons.mp hj with rfl | hj
        · exact ⟨h1, h2⟩
        · exact h3 j hj⟩
  rw [List.length_map] at l1
  have a1 : ex ⟨F, G⟩ (.asg (.nm 3) (.comp [4] (.op .add [.var 2, .call 0 [.var 0, .cI 4]]) (.nm 4) (.rng1 (.var 1)) none)) ⟨[some (.st, false), some (.int (c : Int), false), some (.int low, false), none, none, none], w⟩ = .ok .next ⟨[some (.st, false), some (.int (c : Int), false), some (.int low, false), some (.lst (ns.map D.int), true), none, none], w1⟩ := by
    rw [ex, e1]
    rfl
  have sm : ∀ ms : List Int, sumD [.lst (ms.map D.int)] = some (.v (.int ms.sum)) := fun ms => by simp [sumD, foldL, intsOf_map]
  -- behind the mending
  obtain ⟨ms, w2, a2, lm, hm, hs0⟩ : ∃ (ms : List Int) (w2 : MP.W), ex ⟨F, G⟩ (.ife (.op .eq [.op .sum [.var 3], .cI 0]) [.stV 3 (.call 0 [.var 0, .var 1]) (.cI 1)] []) ⟨[some (.st, false), some (.int (c : Int), false), some (.int low, false), some (.lst (ns.map D.int), true), none, none], w1⟩ = .ok .next ⟨[some (.st, false), some (.int (c : Int), false), some (.int low, false), some (.lst (ms.map D.int), true), none, none], w2⟩ ∧ ms.length = c ∧ (∀ i ∈ ms, 0 ≤ i ∧ i ≤ 30) ∧ 0 < ms.sum := by
    have sn := sm ns
    have n0 := isum_nonneg fun i hi => (hns i hi).1
    have eqe : ∀ i : Int, eqB false [.int i, .int 0] = some (.v (.bl (i == 0))) := fun i => by simp [eqB, shp, eqD]
    by_cases hz : ns.sum = 0
    · obtain ⟨k, w2, hk, nk⟩ := dr w1 c (by omega) (by omega)
      refine ⟨ns.set k 1, w2, ?_, by simp [l1], fun i hi => ?_, ?_⟩
      · have ix : ixN c (k : Int) = some k := by
          unfold ixN
          rw [if_pos (by omega), if_pos (by omega)]
          simp
        have e3 : (ns.map D.int).set k (.int 1) = (ns.set k 1).map D.int := by rw [List.map_set]
        have st : setAt (.lst (ns.map D.int)) (.int (k : Int)) (.int 1) = some (.lst ((ns.set k 1).map D.int)) := by
          simp only [setAt, List.length_map, l1, ix, Option.map_some, e3]
        have eq0 := eqe ns.sum
        rw [hz] at sn eq0
        generalize (ns.set k 1).map D.int = z at st ⊢
        generalize ns.map D.int = y at st sn ⊢
        simp [exs, ex, ev, evs, evc, evOr, evAnd, isBl, bnd, tr, Opd.d, opD, outR, oneR, consume, endR, callR, truthD, bindNm, isObjD, isL, LN, sn, eq0, nk, st]
      · rcases List.mem_or_eq_of_mem_set hi with h | rfl
        · exact hns i h
        · omega
      · have : ∀ (ns : List Int) (k : Nat), (∀ i ∈ ns, 0 ≤ i) → k < ns.length → 0 < (ns.set k 1).sum := by
          intro ns
          induction ns with
          | nil => intro k _ h; simp at h
          | cons x r ih =>
            intro k h hk
            have h2 := isum_nonneg (ns := r) fun i hi => h i (List.mem_cons_of_mem _ hi)
            have h1 := h x List.mem_cons_self
            cases k with
            | zero => simp only [List.set_cons_zero, List.sum_cons]; omega
            | succ k =>
              have := ih k (fun i hi => h i (List.mem_cons_of_mem _ hi)) (by simpa using hk)
              simp only [List.set_cons_succ, List.sum_cons]
              omega
        exact this ns k (fun i hi => (hns i hi).1) (by omega)
    · refine ⟨ns, w1, ?_, l1, hns, by omega⟩
      have eq0 := eqe ns.sum
      have : (ns.sum == 0) = false := by simpa using hz
      rw [this] at eq0
      generalize ns.map D.int = y at sn ⊢
      generalize ns.sum = q at sn eq0
      simp [exs, ex, ev, evs, evc, evOr, evAnd, isBl, bnd, tr, Opd.d, opD, outR, oneR, consume, endR, callR, truthD, bindNm, isObjD, isL, LN, sn, eq0]
  have sle := isum_le (m := 30) (by decide) fun i hi => (hm i hi).2
  rw [lm] at sle
  refine ⟨ms.map fun i => Rat.divInt i ms.sum, w2, ?_, by simp [lm], fun r hr => ?_, ?_, ms.sum.toNat, by omega, by omega, fun r hr => ?_⟩
  · rw [exs_next a1, exs_next a2]
    have c3 : ev ⟨F, G⟩ false (.comp [5] (.call 14 [.var 5, .op .sum [.var 3]]) (.nm 5) (.seq (.var 3)) none) ⟨[some (.st, false), some (.int (c : Int), false), some (.int low, false), some (.lst (ms.map D.int), true), none, none], w2⟩ = .ok (.fresh (.lst ((ms.map fun i => Rat.divInt i ms.sum).map qD))) ⟨[some (.st, false), some (.int (c : Int), false), some (.int low, false), some (.lst (ms.map D.int), true), none, none], w2⟩ := by
      rw [ev_comp1 (fun _ => true) (fun d => match d with | .int i => qD (Rat.divInt i ms.sum) | _ => .non) (ds := ms.map D.int) (s := ⟨[some (.st, false), some (.int (c : Int), false), some (.int low, false), some (.lst (ms.map D.int), true), none, none], w2⟩)]
      · rw [List.filter_eq_self.mpr (by simp)]
        simp only [tr, Bool.false_eq_true, if_false]
        congr 3
        rw [List.map_map, List.map_map]
        rfl
      · simp [evI, ev, bnd, tr, Opd.d, itemsD]
      · show 5 < 6
        omega
      · rfl
      · rw [List.length_map]
        show ms.length ≤ 16777216
        omega
      · intro d hd
        obtain ⟨i, hi, rfl⟩ := List.mem_map.mp hd
        refine ⟨rfl, fun _ => ?_⟩
        have s1 := sm ms
        have cc := c14 w2 i ms.sum (by omega) (pow_up (k := 20) (by omega) (by decide))
        generalize ms.map D.int = y at s1 ⊢
        generalize ms.sum = q at s1 cc ⊢
        simp [exs, ex, ev, evs, evc, evOr, evAnd, isBl, bnd, tr, Opd.d, opD, outR, oneR, consume, endR, callR, truthD, bindNm, isObjD, isL, LN, s1, cc]
    revert c3
    generalize (ME.comp [5] (.call 14 [.var 5, .op .sum [.var 3]]) (.nm 5) (.seq (.var 3)) none) = q
    intro c3
    generalize (ms.map fun i => Rat.divInt i ms.sum).map qD = z at c3 ⊢
    simp [exs, ex, ev, evs, evc, evOr, evAnd, isBl, bnd, tr, Opd.d, opD, outR, oneR, consume, endR, callR, truthD, bindNm, isObjD, isL, LN, c3, tupD]
  · obtain ⟨i, hi, rfl⟩ := List.mem_map.mp hr
    obtain ⟨h1, h2⟩ := hm i hi
    refine ⟨?_, rb_divInt (by omega) (by omega) (by decide)⟩
    exact Rat.divInt_nonneg h1 (by omega)
  · rw [parts_sum (by omega)]
    exact Rat.divInt_self' (by omega)
  · obtain ⟨i, hi, rfl⟩ := List.mem_map.mp hr
    obtain ⟨h1, h2⟩ := hm i hi
    exact ⟨i, by rw [Int.toNat_of_nonneg (by omega)], by omega⟩
end
def term (xs ys : List Rat) (a b : Nat) : Rat := xs.getD a 0 * ys.getD b 0
def cv (xs ys : List Rat) : Nat → Nat → Rat
  | 0, _ => 0
  | m + 1, j => cv xs ys m j + (if m ≤ j ∧ j < m + ys.length then term xs ys m (j - m) else 0)
def cvp (xs ys : List Rat) (m b j : Nat) : Rat := cv xs ys m j + (if m ≤ j ∧ j < m + b then term xs ys m (j - m) else 0)
theorem cvp_zero (xs ys : List Rat) (m : Nat) : cvp xs ys m 0 = cv xs ys m := by
  funext j
  unfold cvp
  rw [if_neg (by omega), Rat.add_zero]
theorem cvp_full (xs ys : List Rat) (m : Nat) : cvp xs ys m ys.length = cv xs ys (m + 1) := by
  funext j
  rfl
theorem cvp_next (xs ys : List Rat) (m b : Nat) : (fun j => if j = m + b then cvp xs ys m b (m + b) + term xs ys m b else cvp xs ys m b j) = cvp xs ys m (b + 1) := by
  funext j
  by_cases h : j = m + b
  · subst h
    rw [if_pos rfl]
    unfold cvp
    rw [if_neg (by omega), if_pos (by omega), Rat.add_zero]
    congr 2
    omega
  · rw [if_neg h]
    unfold cvp
    congr 1
    by_cases h2 : m ≤ j ∧ j < m + b
    · rw [if_pos h2, if_pos (by omega)]
    · rw [if_neg h2, if_neg (by omega)]
section
variable {xs ys : List Rat} {b c : Nat} (hx : ∀ r ∈ xs, rb b r) (hy : ∀ r ∈ ys, rb c r) (hb : 1 ≤ b) (hc : 1 ≤ c)
include hx hy hb hc
theorem rb_term (i j : Nat) : rb (b + c + 1) (term xs ys i j) := rb_mul (rb_getD hx hb i) (rb_getD hy hc j)
theorem rb_cv : ∀ (m j : Nat), rb (1 + m * (b + c + 2)) (cv xs ys m j)
  | 0, _ => rb_le rb_zero (by omega)
  | m + 1, j => by
    have h1 := rb_cv m j
    show rb _ (_ + _)
    split
    · refine rb_le (rb_add h1 (rb_term hx hy hb hc m (j - m))) ?_
      rw [Nat.add_mul]
      omega
    · rw [Rat.add_zero]
      refine rb_le h1 ?_
      rw [Nat.add_mul]
      omega
theorem rb_cvp (m k j : Nat) : rb (1 + (m + 1) * (b + c + 2)) (cvp xs ys m k j) := by
  have h1 := rb_cv hx hy hb hc m j
  unfold cvp
  split
  · refine rb_le (rb_add h1 (rb_term hx hy hb hc m (j - m))) ?_
    rw [Nat.add_mul]
    omega
  · rw [Rat.add_zero]
    refine rb_le h1 ?_
    rw [Nat.add_mul]
    omega
end
/-- the law's sum -/
theorem law_sum (xs ys : List Rat) (j : Nat) : ∀ n, rsum (((List.range n).filter fun k => decide (k ≤ j ∧ j < k + ys.length)).map fun k => term xs ys k (j - k)) = cv xs ys n j
  | 0 => rfl
  | n + 1 => by
    rw [List.range_succ, List.filter_append, List.map_append, rsum_app, law_sum xs ys j n]
    show _ = cv xs ys n j + _
    congr 1
    by_cases h : n ≤ j ∧ j < n + ys.length
    · rw [if_pos h]
      simp [h, rsum, Rat.add_zero]
    · rw [if_neg h]
      simp [h, rsum]
section
variable {T : Tab} {n : Nat} {w : MP.W}
theorem sum_row_run (h15 : T.fn 15 = some fdDivisor) (h17 : T.fn 17 = some fdRatio) (h20 : T.fn 20 = some fdPlus) (h24 : T.fn 24 = some fdMul) (h152 : T.fn 152 = some fdSumRow) (g18 : T.gl 18 = some (qD 0)) {xs ys : List Rat} {dx dy : D} (i1 : itemsD dx = some (xs.map qD)) (it2 : itemsD dy = some (ys.map qD)) (l1 : lenD [dx] = some (.v (.int (xs.length : Int)))) (l2 : lenD [dy] = some (.v (.int (ys.length : Int)))) {b c : Nat} (hx : ∀ r ∈ xs, rb b r) (hy : ∀ r ∈ ys, rb c r) (hb : 1 ≤ b) (hc : 1 ≤ c) (nx : 1 ≤ xs.length) (ny : 1 ≤ ys.length) (hl : xs.length ≤ 1000) (hl2 : ys.length ≤ 1000) (hz : 1 + (xs.length + 1) * (b + c + 2) ≤ 3000) :
    callF T (n + 4) 152 [dx, dy] w = .ok (.lst ((tab (xs.length + ys.length - 1) (cv xs ys xs.length)).map qD)) w := by
  rw [callF_eq (by decide) h152 (by rfl)]
  have c24 : ∀ (m k : Nat) (r s : Rat), xs[m]? = some r → ys[k]? = some s → callF T (n + 3) 24 [qD r, qD s] w = .ok (qD (term xs ys m k)) w := fun m k r s h1 h2 => by
    unfold term
    rw [getD_get h1, getD_get h2]
    exact mul_run h15 h17 h24 (rb_le (hx r (mem_get h1)) (by have := Nat.le_mul_of_pos_left (b + c + 2) (show 0 < xs.length + 1 by omega); omega)) (rb_le (hy s (mem_get h2)) (by have := Nat.le_mul_of_pos_left (b + c + 2) (show 0 < xs.length + 1 by omega); omega))
  have bdm : ∀ m : Nat, m < xs.length → 1 + (m + 1) * (b + c + 2) ≤ 3000 := fun m hm => by
    have := Nat.mul_le_mul_right (b + c + 2) (show m + 1 ≤ xs.length + 1 by omega)
    omega
  have c20 : ∀ (m k : Nat), m < xs.length → callF T (n + 3) 20 [qD (cvp xs ys m k (m + k)), qD (term xs ys m k)] w = .ok (qD (cvp xs ys m k (m + k) + term xs ys m k)) w := fun m k hm => by
    have := bdm m hm
    exact plus_run h15 h17 h20 (rb_le (rb_cvp hx hy hb hc m k (m + k)) this) (rb_le (rb_term hx hy hb hc m k) (by have := Nat.le_mul_of_pos_left (b + c + 2) (show 0 < m + 1 by omega); omega))
  show endR (exs _ fdSumRow.body ⟨[some (dx, false), some (dy, false), none, none, none, none, none, none], w⟩) = _
  generalize callF T (n + 3) = F at c24 c20 ⊢
  generalize T.gl = G at g18 ⊢
  unfold fdSumRow
  dsimp only
  generalize hN : xs.length + ys.length - 1 = N
  have e0 : (xs.length : Int) + (ys.length : Int) - 1 = (N : Int) := by omega
  have cmp : ev ⟨F, G⟩ false (.comp [3] (.glob 18) (.nm 3) (.rng1 (.op .sub [.op .add [.op .len [.var 0], .op .len [.var 1]], .cI 1])) none) ⟨[some (dx, false), some (dy, false), none, none, none, none, none, none], w⟩ = .ok (.fresh (.lst ((tab N (cv xs ys 0)).map qD))) ⟨[some (dx, false), some (dy, false), none, none, none, none, none, none], w⟩ := by
    rw [ev_compN (fun _ => true) (fun _ => qD 0) (n := N) (s := ⟨[some (dx, false), some (dy, false), none, none, none, none, none, none], w⟩)]
    · rw [List.filter_eq_self.mpr (by simp)]
      simp only [tr, Bool.false_eq_true, if_false, tab, List.map_map]
      rfl
    · refine rng_ev (by omega) ?_
      simp [ev, evs, bnd, tr, Opd.d, opD, outR, l1, l2, addD, subD, MP.i2, e0]
    · show 3 < 8
      omega
    · rfl
    · omega
    · intro k hk
      exact ⟨rfl, fun _ => by simp [ev, tr, oneR, consume, bnd, g18]⟩
  refine end_next ⟨[some (dx, false), some (dy, false), some (.lst ((tab N (cv xs ys 0)).map qD), true), none, none, none, none, none], w⟩ (by rw [ex, cmp]; rfl) ?_
  refine end_forE (fun m s => ∃ x3 x4 x5 x6 x7, s = ⟨[some (dx, false), some (dy, false), some (.lst ((tab N (cv xs ys m)).map qD), true), x3, x4, x5, x6, x7], w⟩) (s1 := ⟨[some (dx, false), some (dy, false), some (.lst ((tab N (cv xs ys 0)).map qD), true), none, none, none, none, none], w⟩) (by simp [ev, tr]) i1 ⟨none, none, none, none, none, rfl⟩ ?_ ?_
  · rintro m r s hr ⟨x3, x4, x5, x6, x7, rfl⟩
    have hm := (List.getElem?_eq_some_iff.mp hr).1
    refine ⟨_, ⟨[some (dx, false), some (dy, false), some (.lst ((tab N (cv xs ys (m + 1))).map qD), true), x3, some (.int (m : Int), false), some (qD r, false), if ys.length = 0 then x6 else some (.int ((ys.length - 1 : Nat) : Int), false), if ys.length = 0 then x7 else some (qD (ys.getD (ys.length - 1) 0), false)], w⟩, asg_tp2 (by simp) (by simp), ?_, _, _, _, _, _, rfl⟩
    refine nx_forE (fun k s => s = ⟨[some (dx, false), some (dy, false), some (.lst ((tab N (cvp xs ys m k)).map qD), true), x3, some (.int (m : Int), false), some (qD r, false), if k = 0 then x6 else some (.int ((k - 1 : Nat) : Int), false), if k = 0 then x7 else some (qD (ys.getD (k - 1) 0), false)], w⟩) (s1 := ⟨[some (dx, false), some (dy, false), some (.lst ((tab N (cv xs ys m)).map qD), true), x3, some (.int (m : Int), false), some (qD r, false), x6, x7], w⟩) (by simp [ev, tr]) it2 (by rw [cvp_zero]; rfl) ?_ ?_
    · rintro k s2 st hs rfl
      have hk := (List.getElem?_eq_some_iff.mp hs).1
      refine ⟨_, _, asg_tp2 (by simp) (by simp), ?_, rfl⟩
      have a := c24 m k r s2 hr hs
      have p := c20 m k hm
      have gi := get_at (rs := tab N (cvp xs ys m k)) (i := m + k) (tab_get (by omega))
      have si := set_at (rs := tab N (cvp xs ys m k)) (i := m + k) (v := cvp xs ys m k (m + k) + term xs ys m k) (by rw [tab_len]; omega)
      rw [tab_set, cvp_next] at si
      have ad : addD [.int (m : Int), .int (k : Int)] = some (.v (.int ((m + k : Nat) : Int))) := by simp [addD]
      have e3 : (if k + 1 = 0 then x6 else some (D.int ((k + 1 - 1 : Nat) : Int), false)) = some (D.int (k : Int), false) := by simp
      have e4 : (if k + 1 = 0 then x7 else some (qD (ys.getD (k + 1 - 1) 0), false)) = some (qD s2, false) := by
        rw [if_neg (by omega), Nat.add_sub_cancel, getD_get hs]
      rw [e3, e4]
      generalize (tab N (cvp xs ys m (k + 1))).map qD = z1 at *
      generalize (tab N (cvp xs ys m k)).map qD = z0 at *
      generalize qD (cvp xs ys m k (m + k) + term xs ys m k) = z2 at *
      generalize qD (cvp xs ys m k (m + k)) = z3 at *
      generalize qD (term xs ys m k) = z4 at *
      generalize ((m + k : Nat) : Int) = mk at *
      simp [exs, ex, ev, evs, evc, evOr, evAnd, isBl, bnd, tr, Opd.d, opD, outR, oneR, consume, endR, callR, truthD, bindNm, isObjD, isL, LN, gi, ad, a, p, si]
    · rintro s rfl
      rw [cvp_full]
      simp [exs]
  · rintro s ⟨x3, x4, x5, x6, x7, rfl⟩
    simp [exs, ex, ev, evs, evc, evOr, evAnd, isBl, bnd, tr, Opd.d, opD, outR, oneR, consume, endR, callR, truthD, bindNm, isObjD, isL, LN]
end
end MP
set_option Elab.async false
set_option linter.all false
set_option maxRecDepth 100000
/-! Sums over tables; what rows that are put together come to; the law's own putting together. -/
namespace MP
open PySem L2

def sm (n : Nat) (f : Nat → Rat) : Rat := rsum ((List.range n).map f)
theorem sm_succ (n : Nat) (f : Nat → Rat) : sm (n + 1) f = sm n f + f n := by
  unfold sm
  rw [List.range_succ, List.map_append, rsum_app]
  show _ + (f n + 0) = _
  rw [Rat.add_zero]
theorem sm_zero (f : Nat → Rat) : sm 0 f = 0 := rfl
theorem sm_congr {f g : Nat → Rat} : ∀ n, (∀ j, j < n → f j = g j) → sm n f = sm n g
  | 0, _ => rfl
  | n + 1, h => by rw [sm_succ, sm_succ, sm_congr n fun j hj => h j (by omega), h n (by omega)]
theorem sm_add (f g : Nat → Rat) : ∀ n, sm n (fun j => f j + g j) = sm n f + sm n g
  | 0 => (Rat.add_zero 0).symm
  | n + 1 => by rw [sm_succ, sm_succ, sm_succ, sm_add f g n]; grind
theorem sm_mul (c : Rat) (f : Nat → Rat) : ∀ n, sm n (fun j => c * f j) = c * sm n f
  | 0 => (Rat.mul_zero c).symm
  | n + 1 => by rw [sm_succ, sm_succ, sm_mul c f n]; grind
theorem sm_nil {f : Nat → Rat} : ∀ n, (∀ j, j < n → f j = 0) → sm n f = 0
  | 0, _ => rfl
  | n + 1, h => by rw [sm_succ, sm_nil n fun j hj => h j (by omega), h n (by omega), Rat.add_zero]
theorem sm_more {f : Nat → Rat} {n : Nat} : ∀ k, (∀ j, n ≤ j → f j = 0) → sm (n + k) f = sm n f
  | 0, _ => rfl
  | k + 1, h => by rw [← Nat.add_assoc, sm_succ, sm_more k h, h (n + k) (by omega), Rat.add_zero]
theorem sm_shift (f : Nat → Rat) (m : Nat) : ∀ N l, m + l ≤ N → sm N (fun j => if m ≤ j ∧ j < m + l then f (j - m) else 0) = sm l f
  | 0, l, h => by
    have : l = 0 := by omega
    subst this
    rfl
  | N + 1, l, h => by
    rw [sm_succ]
    by_cases h1 : m + l ≤ N
    · rw [sm_shift f m N l h1, if_neg (by omega), Rat.add_zero]
    · cases l with
      | zero =>
        rw [sm_zero, if_neg (by omega), Rat.add_zero]
        exact sm_nil N fun j hj => if_neg (by omega)
      | succ l =>
        have e : sm N (fun j => if m ≤ j ∧ j < m + (l + 1) then f (j - m) else 0) = sm N (fun j => if m ≤ j ∧ j < m + l then f (j - m) else 0) := sm_congr N fun j hj => by
          by_cases h2 : m ≤ j ∧ j < m + l
          · rw [if_pos h2, if_pos (by omega)]
          · rw [if_neg h2, if_neg (by omega)]
        rw [e, sm_shift f m N l (by omega), if_pos (by omega), sm_succ, show N - m = l by omega]
section
variable (xs ys : List Rat)
/-- all that a row put to another holds -/
theorem cv_mass {N : Nat} (hN : xs.length + ys.length ≤ N + 1) : ∀ m, m ≤ xs.length → sm N (cv xs ys m) = sm m (fun i => xs.getD i 0) * sm ys.length (fun b => ys.getD b 0)
  | 0, _ => by
    rw [sm_zero, Rat.zero_mul]
    exact sm_nil N fun _ _ => rfl
  | m + 1, h => by
    have e : sm N (cv xs ys (m + 1)) = sm N (cv xs ys m) + sm N (fun j => if m ≤ j ∧ j < m + ys.length then (fun b => xs.getD m 0 * ys.getD b 0) (j - m) else 0) := by
      rw [← sm_add]
      rfl
    rw [e, sm_shift (fun b => xs.getD m 0 * ys.getD b 0) m N ys.length (by omega), cv_mass hN m (by omega), sm_mul, sm_succ]
    grind
theorem cv_mean {N : Nat} (hN : xs.length + ys.length ≤ N + 1) : ∀ m, m ≤ xs.length → sm N (fun j => (((j : Nat) : Int) : Rat) * cv xs ys m j) = sm m (fun i => (((i : Nat) : Int) : Rat) * xs.getD i 0) * sm ys.length (fun b => ys.getD b 0) + sm m (fun i => xs.getD i 0) * sm ys.length (fun b => (((b : Nat) : Int) : Rat) * ys.getD b 0)
  | 0, _ => by
    rw [sm_zero, sm_zero, Rat.zero_mul, Rat.zero_mul, Rat.add_zero]
    exact sm_nil N fun j _ => Rat.mul_zero _
  | m + 1, h => by
    have e : sm N (fun j => (((j : Nat) : Int) : Rat) * cv xs ys (m + 1) j) = sm N (fun j => (((j : Nat) : Int) : Rat) * cv xs ys m j) + sm N (fun j => if m ≤ j ∧ j < m + ys.length then (fun b => (xs.getD m 0 * (((m : Nat) : Int) : Rat)) * ys.getD b 0 + xs.getD m 0 * ((((b : Nat) : Int) : Rat) * ys.getD b 0)) (j - m) else 0) := by
      rw [← sm_add]
      refine sm_congr N fun j hj => ?_
      show _ * (cv xs ys m j + _) = _
      by_cases h1 : m ≤ j ∧ j < m + ys.length
      · rw [if_pos h1, if_pos h1]
        have ej : (((j : Nat) : Int) : Rat) = (((m : Nat) : Int) : Rat) + (((j - m : Nat) : Int) : Rat) := by
          rw [← Rat.intCast_add, ← Int.natCast_add, show m + (j - m) = j by omega]
        rw [ej]
        unfold term
        grind
      · rw [if_neg h1, if_neg h1]
        grind
    rw [e, sm_shift (fun b => (xs.getD m 0 * (((m : Nat) : Int) : Rat)) * ys.getD b 0 + xs.getD m 0 * ((((b : Nat) : Int) : Rat) * ys.getD b 0)) m N ys.length (by omega), cv_mean hN m (by omega), sm_add, sm_mul, sm_mul, sm_succ, sm_succ]
    grind
end
theorem fr_mul {M A N B : Nat} {r s : Rat} (hr : fr M A r) (hs : fr N B s) : fr (M * N) (A * B) (r * s) := by
  obtain ⟨a, rfl, h1⟩ := hr
  obtain ⟨b, rfl, h2⟩ := hs
  refine ⟨a * b, by rw [Rat.divInt_mul_divInt, Int.natCast_mul], ?_⟩
  rw [Int.natAbs_mul]
  exact Nat.mul_le_mul h1 h2
theorem fr_getD {M A : Nat} {xs : List Rat} (h : ∀ r ∈ xs, fr M A r) (i : Nat) : fr M A (xs.getD i 0) := by
  rw [List.getD_eq_getElem?_getD]
  cases e : xs[i]? with
  | none => exact fr_le (fr_zero M) (Nat.zero_le _)
  | some r => exact h r (mem_get e)
theorem fr_cv {M A N B : Nat} {xs ys : List Rat} (hM : 0 < M * N) (hx : ∀ r ∈ xs, fr M A r) (hy : ∀ r ∈ ys, fr N B r) : ∀ m j, fr (M * N) (m * (A * B)) (cv xs ys m j)
  | 0, j => by rw [Nat.zero_mul]; exact fr_zero _
  | m + 1, j => by
    have h1 := fr_cv hM hx hy m j
    have h2 : fr (M * N) (A * B) (if m ≤ j ∧ j < m + ys.length then term xs ys m (j - m) else 0) := by
      split
      · exact fr_mul (fr_getD hx m) (fr_getD hy (j - m))
      · exact fr_le (fr_zero _) (Nat.zero_le _)
    have h3 := fr_add hM h1 h2
    rw [Nat.succ_mul]
    exact h3
section
variable {T : Tab} {n : Nat} {w : MP.W}
theorem law_sum_row_run (h13 : T.fn 13 = some fdLawGcd) (h14 : T.fn 14 = some fdLawOf) (h22 : T.fn 22 = some fdLawAdd) (h26 : T.fn 26 = some fdLawMul) (h135 : T.fn 135 = some fdLawSumRow) {xs ys : List Rat} {b c : Nat} (hx : ∀ r ∈ xs, rb b r) (hy : ∀ r ∈ ys, rb c r) (hb : 1 ≤ b) (hc : 1 ≤ c) (nx : 1 ≤ xs.length) (ny : 1 ≤ ys.length) (hl : xs.length ≤ 1000) (hl2 : ys.length ≤ 1000) (hz : 1 + (xs.length + 1) * (b + c + 2) ≤ 3000) :
    callF T (n + 4) 135 [.lst (xs.map qD), .lst (ys.map qD)] w = .ok (.lst ((tab (xs.length + ys.length - 1) (cv xs ys xs.length)).map qD)) w := by
  rw [callF_eq (by decide) h135 (by rfl)]
  have one : b + c + 2 ≤ 3000 := by have := Nat.le_mul_of_pos_left (b + c + 2) (show 0 < xs.length + 1 by omega); omega
  have c26 : ∀ (m k : Nat), m < xs.length → k < ys.length → callF T (n + 3) 26 [qD (xs.getD m 0), qD (ys.getD k 0)] w = .ok (qD (term xs ys m k)) w := fun m k h1 h2 => law_mul_run h13 h14 h26 (rb_le (rb_getD hx hb m) (by omega)) (rb_le (rb_getD hy hc k) (by omega))
  have bdm : ∀ m : Nat, m < xs.length → 1 + (m + 1) * (b + c + 2) ≤ 3000 := fun m hm => by
    have := Nat.mul_le_mul_right (b + c + 2) (show m + 1 ≤ xs.length + 1 by omega)
    omega
  have c22 : ∀ (m k : Nat), m < xs.length → callF T (n + 3) 22 [qD (cvp xs ys m k (m + k)), qD (term xs ys m k)] w = .ok (qD (cvp xs ys m k (m + k) + term xs ys m k)) w := fun m k hm => law_add_run h13 h14 h22 (rb_le (rb_cvp hx hy hb hc m k (m + k)) (bdm m hm)) (rb_le (rb_term hx hy hb hc m k) (by omega))
  have l1 : lenD [.lst (xs.map qD)] = some (.v (.int (xs.length : Int))) := by simp [lenD]
  have l2 : lenD [.lst (ys.map qD)] = some (.v (.int (ys.length : Int))) := by simp [lenD]
  have gx : ∀ k, k < xs.length → ixD [.lst (xs.map qD), .int (k : Int)] = some (.v (qD (xs.getD k 0))) := fun k hk => get_at (get_of hk)
  have gy : ∀ k, k < ys.length → ixD [.lst (ys.map qD), .int (k : Int)] = some (.v (qD (ys.getD k 0))) := fun k hk => get_at (get_of hk)
  have e00 : D.tup [.int 0, .int 1] = qD 0 := rfl
  show endR (exs ⟨callF T (n + 3), T.gl⟩ fdLawSumRow.body ⟨[some (.lst (xs.map qD), false), some (.lst (ys.map qD), false), none, none, none], w⟩) = _
  generalize callF T (n + 3) = F at *
  generalize T.gl = G at *
  unfold fdLawSumRow
  dsimp only
  generalize D.lst (xs.map qD) = dx at *
  generalize D.lst (ys.map qD) = dy at *
  generalize hN : xs.length + ys.length - 1 = N
  have e0 : (xs.length : Int) + (ys.length : Int) - 1 = (N : Int) := by omega
  have cmp : ev ⟨F, G⟩ false (.comp [3] (.tup [.cI 0, .cI 1]) (.nm 3) (.rng1 (.op .sub [.op .add [.op .len [.var 0], .op .len [.var 1]], .cI 1])) none) ⟨[some (dx, false), some (dy, false), none, none, none], w⟩ = .ok (.fresh (.lst ((tab N (cv xs ys 0)).map qD))) ⟨[some (dx, false), some (dy, false), none, none, none], w⟩ := by
    rw [ev_compN (fun _ => true) (fun _ => qD 0) (n := N) (s := ⟨[some (dx, false), some (dy, false), none, none, none], w⟩)]
    · rw [List.filter_eq_self.mpr (by simp)]
      simp only [tr, Bool.false_eq_true, if_false, tab, List.map_map]
      rfl
    · refine rng_ev (by omega) ?_
      simp [ev, evs, bnd, tr, Opd.d, opD, outR, l1, l2, addD, subD, MP.i2, e0]
    · show 3 < 5
      omega
    · rfl
    · omega
    · intro k hk
      exact ⟨rfl, fun _ => by rw [← e00]; simp [ev, evc, tr, oneR, consume, bnd, LN]⟩
  refine end_next ⟨[some (dx, false), some (dy, false), some (.lst ((tab N (cv xs ys 0)).map qD), true), none, none], w⟩ (by rw [ex, cmp]; rfl) ?_
  refine end_forN (fun m s => ∃ x3 x4, s = ⟨[some (dx, false), some (dy, false), some (.lst ((tab N (cv xs ys m)).map qD), true), x3, x4], w⟩) xs.length (s1 := ⟨[some (dx, false), some (dy, false), some (.lst ((tab N (cv xs ys 0)).map qD), true), none, none], w⟩) (by simp [ev, evs, bnd, tr, Opd.d, opD, outR, l1]) (by omega) ⟨none, none, rfl⟩ ?_ ?_
  · rintro m s hm ⟨x3, x4, rfl⟩
    refine ⟨_, ⟨[some (dx, false), some (dy, false), some (.lst ((tab N (cv xs ys (m + 1))).map qD), true), some (.int (m : Int), false), if ys.length = 0 then x4 else some (.int ((ys.length - 1 : Nat) : Int), false)], w⟩, asg_nm (by simp), ?_, _, _, rfl⟩
    refine nx_forN (fun k s => s = ⟨[some (dx, false), some (dy, false), some (.lst ((tab N (cvp xs ys m k)).map qD), true), some (.int (m : Int), false), if k = 0 then x4 else some (.int ((k - 1 : Nat) : Int), false)], w⟩) ys.length (s1 := ⟨[some (dx, false), some (dy, false), some (.lst ((tab N (cv xs ys m)).map qD), true), some (.int (m : Int), false), x4], w⟩) (by simp [ev, evs, bnd, tr, Opd.d, opD, outR, l2]) (by omega) (by rw [cvp_zero]; rfl) ?_ ?_
    · rintro k st hk rfl
      refine ⟨_, _, asg_nm (by simp), ?_, rfl⟩
      have a := c26 m k hm hk
      have p := c22 m k hm
      have gi := get_at (rs := tab N (cvp xs ys m k)) (i := m + k) (tab_get (by omega))
      have si := set_at (rs := tab N (cvp xs ys m k)) (i := m + k) (v := cvp xs ys m k (m + k) + term xs ys m k) (by rw [tab_len]; omega)
      rw [tab_set, cvp_next] at si
      have ad : addD [.int (m : Int), .int (k : Int)] = some (.v (.int ((m + k : Nat) : Int))) := by simp [addD]
      have e3 : (if k + 1 = 0 then x4 else some (D.int ((k + 1 - 1 : Nat) : Int), false)) = some (D.int (k : Int), false) := by simp
      have a1 := gx m hm
      have a2 := gy k hk
      rw [e3]
      generalize (tab N (cvp xs ys m (k + 1))).map qD = z1 at *
      generalize (tab N (cvp xs ys m k)).map qD = z0 at *
      generalize qD (cvp xs ys m k (m + k) + term xs ys m k) = z2 at *
      generalize qD (cvp xs ys m k (m + k)) = z3 at *
      generalize qD (term xs ys m k) = z4 at *
      generalize qD (xs.getD m 0) = z5 at *
      generalize qD (ys.getD k 0) = z6 at *
      generalize ((m + k : Nat) : Int) = mk at *
      simp [exs, ex, ev, evs, evc, evOr, evAnd, isBl, bnd, tr, Opd.d, opD, outR, oneR, consume, endR, callR, truthD, bindNm, isObjD, isL, LN, gi, ad, a, p, si, a1, a2]
    · rintro s rfl
      rw [cvp_full]
      simp [exs]
  · rintro s ⟨x3, x4, rfl⟩
    simp [exs, ex, ev, evs, evc, evOr, evAnd, isBl, bnd, tr, Opd.d, opD, outR, oneR, consume, endR, callR, truthD, bindNm, isObjD, isL, LN]
end
end MP
set_option Elab.async false
set_option linter.all false
set_option maxRecDepth 100000
/-! Rows over one number and what is nearby; powers of a row put together; sums by powers. -/
namespace MP
open PySem L2

theorem getD_tab {N : Nat} {f : Nat → Rat} {i : Nat} (h : i < N) : (tab N f).getD i 0 = f i := getD_get (tab_get h)
theorem map_getD (xs : List Rat) : (List.range xs.length).map (fun k => xs.getD k 0) = xs := by
  apply List.ext_getElem?
  intro k
  by_cases h : k < xs.length
  · simp [h]
  · rw [List.getElem?_eq_none (by simp; omega), List.getElem?_eq_none (by omega)]
theorem rsum_sm (xs : List Rat) : sm xs.length (fun b => xs.getD b 0) = rsum xs := by
  unfold sm
  rw [map_getD]
theorem tab_map (N : Nat) (f : Nat → Rat) : (List.range N).map (fun k => qD (f k)) = (tab N f).map qD := by
  unfold tab
  rw [List.map_map]
  rfl
theorem places_ev {F : Nat → List D → MP.W → CR} {G : Nat → Option D} {src : ME} {s : S} {i n : Nat} (hn : n ≤ 1000) (h : ev ⟨F, G⟩ false src s = .ok (.val (.int (n : Int))) s) (hi : i < s.env.length) (ho : noOwn s.env [i] = true) : ev ⟨F, G⟩ false (.comp [i] (.tup [.var i, .cI 1]) (.nm i) (.rng1 src) none) s = .ok (.fresh (.lst ((tab n fun k => (((k : Nat) : Int) : Rat)).map qD))) s := by
  rw [ev_compN (fun _ => true) (fun k => qD (((k : Nat) : Int) : Rat)) (n := n) (s := s) (rng_ev (by omega) h) hi ho (by omega) (fun k hk => ⟨rfl, fun _ => by
    rw [← int_qD]
    have : (s.env.set i (some (D.int (k : Int), false)))[i]? = some (some (D.int (k : Int), false)) := List.getElem?_set_self hi
    simp [ev, evc, tr, oneR, bnd, consume, LN, this]⟩)]
  rw [List.filter_eq_self.mpr (by simp), tab, List.map_map]
  rfl
/-- a list of noughts -/
theorem noughts_ev {F : Nat → List D → MP.W → CR} {G : Nat → Option D} {src : ME} {s : S} {i n : Nat} (hn : n ≤ 1000) (h : ev ⟨F, G⟩ false src s = .ok (.val (.int (n : Int))) s) (hi : i < s.env.length) (ho : noOwn s.env [i] = true) : ev ⟨F, G⟩ false (.comp [i] (.tup [.cI 0, .cI 1]) (.nm i) (.rng1 src) none) s = .ok (.fresh (.lst ((tab n fun _ => 0).map qD))) s := by
  rw [ev_compN (fun _ => true) (fun _ => qD 0) (n := n) (s := s) (rng_ev (by omega) h) hi ho (by omega) (fun k hk => ⟨rfl, fun _ => by
    have q01 : D.tup [.int 0, .int 1] = qD 0 := rfl
    rw [← q01]
    simp [ev, evc, tr, oneR, bnd, consume, LN]⟩)]
  rw [List.filter_eq_self.mpr (by simp), tab, List.map_map]
  rfl
theorem tab_app (N : Nat) (f : Nat → Rat) : tab (N + 1) f = tab N f ++ [f N] := by
  unfold tab
  rw [List.range_succ, List.map_append]
  rfl
theorem tab_last (N : Nat) (f : Nat → Rat) : ixD [.lst ((tab (N + 1) f).map qD), .int (-1)] = some (.v (qD (f N))) := by
  rw [tab_app, List.map_append]
  have l : ((tab N f).map qD ++ [f N].map qD).length = N + 1 := by simp [tab_len]
  have e : ixN (N + 1) (-1) = some N := by
    unfold ixN
    split
    · omega
    · split
      · congr 1
        omega
      · omega
  simp only [ixD, atI, l, e, Option.bind_some]
  rw [List.getElem?_append_right (by simp [tab_len])]
  simp [tab_len]
structure Rw (xs : List Rat) : Prop where
  len : xs.length ≤ 4
  frs : ∃ S : Nat, 0 < S ∧ S ≤ 120 ∧ ∀ r ∈ xs, fr S 150 r
theorem Rw.rb {xs : List Rat} (h : Rw xs) : ∀ r ∈ xs, rb 12 r := fun r hr => by
  obtain ⟨S, h1, h2, h3⟩ := h.frs
  exact fr_rb (h3 r hr) (by decide) (by omega) (by decide)
structure Pt (rs : List Rat) : Prop where
  p : Part 4 rs
  f : ∃ S : Nat, 0 < S ∧ S ≤ 120 ∧ ∀ r ∈ rs, fr S 30 r
theorem Pt.rw {rs : List Rat} (h : Pt rs) : Rw rs := by
  obtain ⟨S, h1, h2, h3⟩ := h.f
  exact ⟨h.p.hi, S, h1, h2, fun r hr => fr_le (h3 r hr) (by decide)⟩
theorem ch_pos {xs : List Rat} (h : chOk xs = true) : 1 ≤ xs.length ∧ rsum xs = 1 := by
  unfold chOk at h
  simp only [Bool.and_eq_true, decide_eq_true_eq] at h
  refine ⟨?_, h.2⟩
  cases xs with
  | nil => simp at h
  | cons _ _ => simp
theorem pt_neigh {T : Tab} {n : Nat} (h6 : T.fn 6 = some fdLawNeighbour) {rs : List Rat} (h : Pt rs) {P : D → Prop} (hP : ∀ rs' : List Rat, Rw rs' → P (.tup (rs'.map qD))) (w : MP.W) : ∃ a' w', callF T (n + 2) 6 [.st, .tup (rs.map qD)] w = .ok a' w' ∧ P a' := by
  have hi := h.p.hi
  obtain ⟨rs', w', e, hl, hx⟩ := neigh_rats2 (T := T) (n := n) h6 rs (by omega) (fun r hr => rb_le (h.p.rb r hr) (by decide)) w
  obtain ⟨S, h1, h2, h3⟩ := h.f
  refine ⟨_, w', e, hP rs' ⟨by omega, S, h1, h2, fun x hm => ?_⟩⟩
  rcases hx x hm with q | ⟨r, hr, q | q⟩
  · exact fr_le (h3 x q) (by decide)
  · rw [q]
    exact fr_le (fr_add h1 (h3 r hr) (fr_one h1)) (by omega)
  · rw [q, Rat.sub_eq_add_neg]
    exact fr_le (fr_add h1 (h3 r hr) (fr_neg1 h1)) (by omega)
theorem ex_pt {T : Tab} {n : Nat} (h13 : T.fn 13 = some fdLawGcd) (h14 : T.fn 14 = some fdLawOf) (h27 : T.fn 27 = some fdLawParts) {E : Env} {t : Nat} (h : At E 1 .st) (ht : t < E.length) (w : MP.W) :
    ∃ (rs : List Rat) (w' : MP.W), ex ⟨callF T (n + 3), T.gl⟩ (.asg (.nm t) (.call 27 [.var 1, .op .add [.cI 1, .call 0 [.var 1, .cI 4]], .cI 0])) ⟨E, w⟩ = .ok .next ⟨E.set t (some (.tup (rs.map qD), false)), w'⟩ ∧ Pt rs := by
  obtain ⟨k, w1, hk, nx⟩ := next_at (T := T) (n := n + 2) (w := w) (lim := 4) (by decide) (by decide)
  obtain ⟨rs, w2, f, l, p, s, S, s1, s2, s3⟩ := parts_run2 (T := T) (n := n) h13 h14 h27 (c := 1 + k) (low := 0) (by omega) (by omega) (by omega) (by omega) w1
  have f : callF T (n + 3) 27 [.st, .int ((1 + k : Nat) : Int), .int 0] w1 = .ok (.tup (rs.map qD)) w2 := f
  refine ⟨rs, w2, ?_, ⟨⟨by omega, by omega, fun r hr => (p r hr).1, fun r hr => (p r hr).2, s⟩, S, s1, by omega, s3⟩⟩
  have q := draw_ev (F := callF T (n + 3)) (G := T.gl) (m := false) h nx
  generalize callF T (n + 3) = F at *
  generalize (ME.call 0 [.var 1, .cI 4]) = e at q ⊢
  have ad : addD [.int 1, .int (k : Int)] = some (.v (.int ((1 + k : Nat) : Int))) := by simp [addD]
  unfold At at h
  generalize ((1 + k : Nat) : Int) = z at *
  simp [ex, ev, evs, evc, h, bnd, tr, oneR, consume, callR, q, ad, Opd.d, opD, outR, f, ht, bindNm]
/-! ### a row, so many times put together -/
def ln (ys : List Rat) (i : Nat) : Nat := i * (ys.length - 1) + 1
def nw (ys : List Rat) : Nat → Nat → Rat
  | 0, k => if k = 0 then 1 else 0
  | i + 1, k => cv (tab (ln ys i) (nw ys i)) ys (ln ys i) k
def nl (ys : List Rat) (i : Nat) : List Rat := tab (ln ys i) (nw ys i)
theorem nl_len (ys : List Rat) (i : Nat) : (nl ys i).length = ln ys i := tab_len _ _
theorem ln_next {ys : List Rat} (h : 1 ≤ ys.length) (i : Nat) : ln ys i + ys.length - 1 = ln ys (i + 1) := by
  unfold ln
  rw [Nat.succ_mul]
  omega
theorem nl_next {ys : List Rat} (h : 1 ≤ ys.length) (i : Nat) : tab ((nl ys i).length + ys.length - 1) (cv (nl ys i) ys (nl ys i).length) = nl ys (i + 1) := by
  rw [nl_len, ln_next h]
  rfl
theorem fr_nw {ys : List Rat} {S : Nat} (hS : 0 < S) (hl : ys.length ≤ 4) (hf : ∀ r ∈ ys, fr S 150 r) : ∀ i, i ≤ 4 → ∀ k, fr (S ^ i) (1950 ^ i) (nw ys i k)
  | 0, _, k => by
    show fr 1 1 (if k = 0 then 1 else 0)
    split
    · exact fr_one (by decide)
    · exact fr_le (fr_zero 1) (by decide)
  | i + 1, hi, k => by
    have ih := fr_nw hS hl hf i (by omega)
    have q := fr_cv (M := S ^ i) (A := 1950 ^ i) (N := S) (B := 150) (xs := nl ys i) (ys := ys) (Nat.mul_pos (Nat.pow_pos hS) hS) (fun r hr => by
      obtain ⟨j, _, rfl⟩ := List.mem_map.mp hr
      exact ih j) hf (ln ys i) k
    have l13 : ln ys i ≤ 13 := by
      unfold ln
      have := Nat.mul_le_mul (show i ≤ 3 by omega) (show ys.length - 1 ≤ 3 by omega)
      omega
    refine fr_le q ?_
    have m := Nat.mul_le_mul_right (1950 ^ i * 150) l13
    rw [Nat.pow_succ]
    omega
theorem rb_nw {ys : List Rat} (h : Rw ys) {i : Nat} (hi : i ≤ 4) (k : Nat) : rb 48 (nw ys i k) := by
  obtain ⟨S, h1, h2, h3⟩ := h.frs
  have q := fr_nw h1 h.len h3 i hi k
  have a : 1950 ^ i ≤ 1950 ^ 4 := Nat.pow_le_pow_right (by decide) hi
  have b : S ^ i ≤ 120 ^ 4 := Nat.le_trans (Nat.pow_le_pow_left h2 i) (Nat.pow_le_pow_right (by decide) hi)
  exact fr_rb q (by omega) (by omega) (by decide)
theorem rb_nl {ys : List Rat} (h : Rw ys) {i : Nat} (hi : i ≤ 4) : ∀ r ∈ nl ys i, rb 48 r := fun r hr => by
  obtain ⟨j, _, rfl⟩ := List.mem_map.mp hr
  exact rb_nw h hi j
theorem ln13 {ys : List Rat} (h : ys.length ≤ 4) {m : Nat} (hm : m ≤ 4) : ln ys m ≤ 13 := by
  unfold ln
  have := Nat.mul_le_mul hm (show ys.length - 1 ≤ 3 by omega)
  omega
/-! ### powers -/
def pq (z : Rat) : Nat → Rat
  | 0 => 1
  | k + 1 => pq z k * z
def vl (xs : List Rat) (z : Rat) : Rat := sm xs.length (fun k => xs.getD k 0 * pq z k)
/-- by the last ones first -/
def hz (xs : List Rat) (z : Rat) : Nat → Rat
  | 0 => 0
  | m + 1 => hz xs z m * z + xs.getD (xs.length - 1 - m) 0
theorem hz_inv (xs : List Rat) (z : Rat) : ∀ m, m ≤ xs.length → hz xs z m * pq z (xs.length - m) + sm (xs.length - m) (fun k => xs.getD k 0 * pq z k) = vl xs z
  | 0, _ => by
    show 0 * _ + _ = _
    rw [Rat.zero_mul, Rat.zero_add]
    rfl
  | m + 1, h => by
    rw [← hz_inv xs z m (by omega)]
    obtain ⟨l, e⟩ : ∃ l, xs.length - m = l + 1 := ⟨xs.length - m - 1, by omega⟩
    rw [show xs.length - (m + 1) = l by omega, e, sm_succ]
    show (hz xs z m * z + xs.getD (xs.length - 1 - m) 0) * pq z l + _ = hz xs z m * (pq z l * z) + _
    rw [show xs.length - 1 - m = l by omega]
    grind
theorem hz_all (xs : List Rat) (z : Rat) : hz xs z xs.length = vl xs z := by
  have h := hz_inv xs z xs.length (Nat.le_refl _)
  rw [Nat.sub_self, sm_zero, Rat.add_zero] at h
  rw [← h]
  exact (Rat.mul_one _).symm
theorem fr_pq {M A : Nat} {z : Rat} (h : fr M A z) : ∀ k, fr (M ^ k) (A ^ k) (pq z k)
  | 0 => fr_one (by rw [Nat.pow_zero]; decide)
  | k + 1 => fr_mul (fr_pq h k) h
theorem fr_hz {S M A : Nat} {xs : List Rat} {z : Rat} (hS : 0 < S) (hM : 0 < M) (hA : M ≤ A) (hx : ∀ r ∈ xs, fr S 150 r) (h : fr M A z) : ∀ m, fr (S * M ^ m) (m * 150 * A ^ m) (hz xs z m)
  | 0 => fr_le (fr_zero _) (Nat.zero_le _)
  | m + 1 => by
    have h1 := fr_mul (fr_hz hS hM hA hx h m) h
    have h2 := fr_up (Nat.pow_pos (n := m + 1) hM) (fr_getD hx (xs.length - 1 - m))
    rw [Nat.mul_assoc, ← Nat.pow_succ] at h1
    have h3 := fr_add (Nat.mul_pos hS (Nat.pow_pos hM)) h1 h2
    refine fr_le h3 ?_
    have q := Nat.mul_le_mul_left 150 (Nat.pow_le_pow_left hA (m + 1))
    rw [Nat.mul_assoc (m * 150), ← Nat.pow_succ]
    show m * 150 * A ^ (m + 1) + _ ≤ _
    have e : (m + 1) * 150 * A ^ (m + 1) = m * 150 * A ^ (m + 1) + 150 * A ^ (m + 1) := by
      rw [Nat.add_mul, Nat.add_mul, Nat.one_mul]
    omega
/-- the sum of the first ones by powers -/
theorem fr_vp {S M A : Nat} {xs : List Rat} {z : Rat} (hS : 0 < S) (hM : 0 < M) (hA : M ≤ A) (hx : ∀ r ∈ xs, fr S 150 r) (h : fr M A z) : ∀ m, fr (S * M ^ m) (m * 150 * A ^ m) (sm m (fun k => xs.getD k 0 * pq z k))
  | 0 => fr_le (fr_zero _) (Nat.zero_le _)
  | m + 1 => by
    have h1 := fr_up hM (fr_vp hS hM hA hx h m)
    have h2 := fr_up hM (fr_mul (fr_getD hx m) (fr_pq h m))
    rw [Nat.mul_assoc S, ← Nat.pow_succ] at h1 h2
    have h3 := fr_add (Nat.mul_pos hS (Nat.pow_pos hM)) h1 h2
    rw [sm_succ]
    refine fr_le h3 ?_
    have q1 := Nat.mul_le_mul_left (m * 150 * A ^ m) hA
    have q2 := Nat.mul_le_mul_left (150 * A ^ m) hA
    have e : (m + 1) * 150 * A ^ (m + 1) = m * 150 * A ^ m * A + 150 * A ^ m * A := by
      rw [Nat.add_mul, Nat.add_mul, Nat.one_mul, Nat.pow_succ, Nat.mul_assoc (m * 150), Nat.mul_assoc 150]
    omega
section
variable {T : Tab} {n : Nat} {w : MP.W}
theorem dot_places (h13 : T.fn 13 = some fdLawGcd) (h14 : T.fn 14 = some fdLawOf) (h22 : T.fn 22 = some fdLawAdd) (h26 : T.fn 26 = some fdLawMul) {nm x1 x2 x3 : Str} (h30 : T.fn 30 = some ⟨nm, 1, [x1, x2, x3], [.asg (.nm 1) (.tup [.cI 0, .cI 1]), .forS (.nm 2) (.seq (.var 0)) [.asg (.nm 1) (.call 22 [.var 1, .var 2])], .ret (.var 1)]⟩) (h54 : T.fn 54 = some fdLawDot) {L : List Rat} {b : Nat} (hL : ∀ r ∈ L, rb b r) (h1 : 1 ≤ b) (hb : b ≤ 2900) (hl : L.length ≤ 13) (hz : 1 + L.length * (7 + b + 2) ≤ 3000) : callF T (n + 5) 54 [.lst ((tab L.length fun k => (((k : Nat) : Int) : Rat)).map qD), .lst (L.map qD)] w = .ok (qD (sm L.length fun k => (((k : Nat) : Int) : Rat) * L.getD k 0)) w := by
  have q := law_dot_run (T := T) (n := n) (w := w) h13 h14 h22 h26 h30 h54 (xs := tab L.length fun k => (((k : Nat) : Int) : Rat)) (ys := L) (b := 7) (c := b) (rb_list fun k hk => rb_nat (by omega) (by decide)) hL (by decide) h1 (by rw [tab_len]; exact Nat.le_refl _) (by rw [tab_len]; omega) (by
    rw [tab_len]
    exact hz) (by omega)
  rw [tab_len] at q
  have e : ((List.range L.length).map fun k => (tab L.length fun k => (((k : Nat) : Int) : Rat)).getD k 0 * L.getD k 0) = (List.range L.length).map fun k => (((k : Nat) : Int) : Rat) * L.getD k 0 := by
    refine List.map_congr_left fun k hk => ?_
    rw [getD_get (tab_get (List.mem_range.mp hk))]
  rw [e] at q
  exact q
theorem value_at_run (h15 : T.fn 15 = some fdDivisor) (h17 : T.fn 17 = some fdRatio) (h20 : T.fn 20 = some fdPlus) (h24 : T.fn 24 = some fdMul) (h155 : T.fn 155 = some fdValueAt) (g18 : T.gl 18 = some (qD 0)) {xs : List Rat} {z : Rat} {b : Nat} (hx : ∀ r ∈ xs, rb 1000 r) (hz1 : ∀ m, m ≤ xs.length → rb b (hz xs z m)) (hb : rb b z) (hb2 : b ≤ 1000) : callF T (n + 4) 155 [.tup (xs.map qD), qD z] w = .ok (qD (vl xs z)) w := by
  rw [callF_eq (by decide) h155 (by rfl)]
  have c24 : ∀ m, m < xs.length → callF T (n + 3) 24 [qD (hz xs z m), qD z] w = .ok (qD (hz xs z m * z)) w := fun m hm => mul_run h15 h17 h24 (rb_le (hz1 m (by omega)) (by omega)) (rb_le hb (by omega))
  have c20 : ∀ m, m < xs.length → callF T (n + 3) 20 [qD (hz xs z m * z), qD (xs.getD (xs.length - 1 - m) 0)] w = .ok (qD (hz xs z (m + 1))) w := fun m hm => plus_run h15 h17 h20 (rb_le (rb_mul (hz1 m (by omega)) hb) (by omega)) (rb_le (rb_getD hx (by decide) _) (by decide))
  have rv : revD [.tup (xs.map qD)] = some (.v (.tup (xs.reverse.map qD))) := by simp [revD, List.map_reverse]
  show endR (exs _ fdValueAt.body ⟨[some (.tup (xs.map qD), false), some (qD z, false), none, none], w⟩) = _
  generalize callF T (n + 3) = F at c20 c24 ⊢
  generalize T.gl = G at g18 ⊢
  unfold fdValueAt
  dsimp only
  generalize D.tup (xs.map qD) = dx at *
  refine end_next ⟨[some (dx, false), some (qD z, false), some (qD 0, false), none], w⟩ (by generalize qD z = zz; simp [exs, ex, ev, evs, evc, evOr, evAnd, isBl, bnd, tr, Opd.d, opD, outR, oneR, consume, endR, callR, truthD, bindNm, isObjD, isL, LN, g18]) ?_
  refine end_forD (fun m s => ∃ x, s = ⟨[some (dx, false), some (qD z, false), some (qD (hz xs z m), false), x], w⟩) (s1 := ⟨[some (dx, false), some (qD z, false), some (qD 0, false), none], w⟩) (by generalize qD z = zz; simp [ev, evs, bnd, tr, Opd.d, opD, outR, rv]) (show itemsD (.tup (xs.reverse.map qD)) = some (xs.reverse.map qD) from rfl) ⟨none, rfl⟩ ?_ ?_
  · rintro m x s hx' ⟨y, rfl⟩
    obtain ⟨r, h1, rfl⟩ := map_get hx'
    have hm : m < xs.length := by simpa using (List.getElem?_eq_some_iff.mp h1).1
    have er : r = xs.getD (xs.length - 1 - m) 0 := by
      rw [List.getElem?_reverse hm] at h1
      exact (getD_get h1).symm
    subst er
    refine ⟨_, ⟨[some (dx, false), some (qD z, false), some (qD (hz xs z (m + 1)), false), some (qD (xs.getD (xs.length - 1 - m) 0), false)], w⟩, asg_nm (by simp), ?_, _, rfl⟩
    have a := c24 m hm
    have b := c20 m hm
    generalize qD (hz xs z (m + 1)) = z1 at *
    generalize qD (hz xs z m * z) = z2 at *
    generalize qD (hz xs z m) = z3 at *
    generalize qD (xs.getD (xs.length - 1 - m) 0) = z4 at *
    generalize qD z = z5 at *
    simp [exs, ex, ev, evs, evc, evOr, evAnd, isBl, bnd, tr, Opd.d, opD, outR, oneR, consume, endR, callR, truthD, bindNm, isObjD, isL, LN, a, b]
  · rintro s ⟨x, rfl⟩
    rw [List.length_map, List.length_reverse, hz_all]
    generalize qD (vl xs z) = z1
    generalize qD z = z5
    simp [exs, ex, ev, evs, evc, evOr, evAnd, isBl, bnd, tr, Opd.d, opD, outR, oneR, consume, endR, callR, truthD, bindNm, isObjD, isL, LN]
end
end MP
set_option Elab.async false
set_option linter.all false
set_option maxRecDepth 100000
/-! k76: the small forms, the table, the looks at the texts; printed by genlaw.py. -/
namespace MP.K76
open PySem PySem.Spec PyProof.Rows L2
def top (i : Nat) : Stmt := PySem.Challenge.pw_chancewhole_k76_families_that_end.main.body.getD i (.Pass ⟨0, 0, 0, 0⟩)
def fdFamilies : FD := ⟨"families", 2, ["row", "count", "chances", "_", "mean", "number", "chance", "means"], [.expr (.call 141 [.var 0]),
    .ife (.op .lt [.var 1, .cI 0]) [.raise 1] [],
    .ife (.op .gt [.var 1, .cI 5]) [.raise 2] [],
    .asg (.nm 2) (.lst [.glob 18]),
    .forS (.nm 3) (.rng1 (.var 1)) [.mut .append 2 [.call 155 [.var 0, .op .ix [.var 2, .op .neg [.cI 1]]]]],
    .asg (.nm 4) (.call 23 [.comp [5, 6] (.call 24 [.call 57 [.var 5], .var 6]) (.tp [.nm 5, .nm 6]) (.enum (.var 0)) none]),
    .asg (.nm 7) (.lst [.glob 16]),
    .forS (.nm 3) (.rng1 (.var 1)) [.mut .append 7 [.call 24 [.op .ix [.var 7, .op .neg [.cI 1]], .var 4]]],
    .ret (.tup [.cS "ends", .op .tupL [.var 2], .op .tupL [.var 7]])]⟩
def fdJudgeFamilies : FD := ⟨"judge_families", 3, ["row", "count", "told", "due"], [.asg (.nm 3) (.call 243 [.var 0, .var 1]),
    .ife (.orL [.not (.call 11 [.var 2, .cS "ends", .cI 3]), .not (.call 28 [.op .ix [.var 2, .cI 1], .op .add [.var 1, .cI 1]])]) [.ret (.cB false)] [],
    .ret (.andL [.call 28 [.op .ix [.var 2, .cI 2], .op .add [.var 1, .cI 1]], .op .eq [.var 2, .var 3]])]⟩
def fdLawTotal : FD := ⟨"_law_total", 1, ["numbers", "total_v", "x"], [.asg (.nm 1) (.tup [.cI 0, .cI 1]),
    .forS (.nm 2) (.seq (.var 0)) [.asg (.nm 1) (.call 22 [.var 1, .var 2])],
    .ret (.var 1)]⟩
def fdLawAccepts : FD := ⟨"_law_accepts", 3, ["row", "count", "told", "ended", "k", "number", "power", "chance", "mean", "means", "second", "now"], [.asg (.nm 3) (.lst [.tup [.cI 0, .cI 1]]),
    .forS (.nm 4) (.rng1 (.var 1)) [.asg (.tp [.nm 5, .nm 6]) (.tup [.tup [.cI 0, .cI 1], .tup [.cI 1, .cI 1]]), .forS (.nm 7) (.seq (.var 0)) [.par [5, 6] [.call 22 [.var 5, .call 26 [.var 7, .var 6]], .call 26 [.var 6, .op .ix [.var 3, .op .neg [.cI 1]]]]], .mut .append 3 [.var 5]],
    .asg (.nm 8) (.call 54 [.comp [4] (.tup [.var 4, .cI 1]) (.nm 4) (.rng1 (.op .len [.var 0])) none, .op .lstL [.var 0]]),
    .asg (.nm 9) (.lst [.tup [.cI 1, .cI 1]]),
    .forS (.nm 4) (.rng1 (.var 1)) [.mut .append 9 [.call 26 [.op .ix [.var 9, .op .neg [.cI 1]], .var 8]]],
    .ife (.op .eq [.var 1, .cI 2]) [.asg (.tp [.nm 10, .nm 11]) (.tup [.lst [.tup [.cI 0, .cI 1]], .lst [.tup [.cI 1, .cI 1]]]), .forS (.nm 7) (.seq (.var 0)) [.asg (.nm 10) (.op .add [.call 135 [.lst [.tup [.cI 1, .cI 1]], .var 10], .comp [4] (.tup [.cI 0, .cI 1]) (.nm 4) (.rng1 (.op .len [.var 11])) none]), .asg (.nm 10) (.comp [4] (.ife (.op .lt [.var 4, .op .len [.var 11]]) (.call 22 [.op .ix [.var 10, .var 4], .call 26 [.var 7, .op .ix [.var 11, .var 4]]]) (.op .ix [.var 10, .var 4])) (.nm 4) (.rng1 (.op .len [.var 10])) none), .asg (.nm 11) (.call 135 [.var 11, .op .lstL [.var 0]])], .ife (.op .ne [.op .ix [.var 10, .cI 0], .op .ix [.var 3, .cI 2]]) [.ret (.cB false)] []] [],
    .ret (.call 8 [.var 2, .tup [.cS "ends", .op .tupL [.var 3], .op .tupL [.var 9]]])]⟩
def fdLawUnfit : FD := ⟨"_law_unfit", 2, ["row", "count", "judged", "error"], [.forS (.nm 2) (.seq (.lst [.cB false, .cB true])) [.tryS [.ife (.var 2) [.expr (.call 289 [.var 0, .var 1, .cN])] [.expr (.call 243 [.var 0, .var 1])], .ret (.cB false)] [(1, 3, .go)]],
    .ret (.cB true)]⟩
def fdLawToldNear : FD := ⟨"_law_told_near", 3, ["state", "row", "count", "things", "pick", "error"], [.asg (.nm 3) (.lst [.var 1, .var 2]),
    .asg (.nm 4) (.call 0 [.var 0, .cI 2]),
    .stV 3 (.var 4) (.call 6 [.var 0, .op .ix [.var 3, .var 4]]),
    .tryS [.ret (.call 243 [.op .ix [.var 3, .cI 0], .op .ix [.var 3, .cI 1]])] [(1, 5, .retE), (2, 5, .retE)]]⟩
def lawN : List Str := ["script", "state", "seen", "turn", "row", "count", "told", "near", "k", "asked"]
def lawB : List MS := [.asg (.nm 2) (.lst []),
    .forS (.nm 3) (.rng1 (.cI 3)) [.asg (.nm 4) (.call 27 [.var 1, .op .add [.cI 1, .call 0 [.var 1, .cI 4]], .cI 0]), .asg (.nm 5) (.call 0 [.var 1, .cI 4]), .asg (.nm 6) (.call 243 [.var 4, .var 5]), .asg (.nm 7) (.call 9 [.var 1, .var 4, .var 5]), .ife (.orL [.not (.call 1 [.var 4, .var 5, .var 6]), .op .isn [.call 289 [.var 4, .var 5, .var 6], .cB true]]) [.ret (.cB false)] [], .ife (.orL [.not (.call 19 [.tup [], .var 5]), .not (.call 19 [.var 4, .op .neg [.cI 1]]), .not (.call 19 [.op .add [.var 4, .tup [.tup [.cI 1, .cI 1]]], .var 5])]) [.ret (.cB false)] [], .asg (.nm 2) (.op .add [.op (.slice true false) [.var 2, .op .neg [.cI 3]], .lst [.var 6, .var 7]]), .forS (.nm 8) (.rng1 (.op .add [.cI 8, .op .len [.var 2]])) [.asg (.nm 9) (.ife (.op .lt [.var 8, .cI 8]) (.call 7 [.var 1, .var 6]) (.op .ix [.var 2, .op .sub [.var 8, .cI 8]])), .ife (.not (.call 8 [.call 289 [.var 4, .var 5, .var 9], .call 1 [.var 4, .var 5, .var 9]])) [.ret (.cB false)] []]],
    .ret (.cB true)]
def T : Tab := ⟨[(25, MP.fdIsWhole), (11, MP.fdIsTold), (15, MP.fdDivisor), (17, MP.fdRatio), (20, MP.fdPlus), (24, MP.fdMul), (21, MP.fdLess), (57, MP.fdWhole), (23, MP.fdTotal), (29, MP.fdIsFraction), (28, MP.fdAreFractions), (141, MP.fdCheckChildren), (243, fdFamilies), (155, MP.fdValueAt), (289, fdJudgeFamilies), (8, MP.fdLawSame), (2, MP.fdLawChanged), (5, MP.fdLawInts), (4, MP.fdLawExchanged), (3, MP.fdLawCut), (10, MP.fdLawTurnedAbout), (7, MP.fdLawOdd), (13, MP.fdLawGcd), (14, MP.fdLawOf), (22, MP.fdLawAdd), (26, MP.fdLawMul), (30, fdLawTotal), (54, MP.fdLawDot), (27, MP.fdLawParts), (135, MP.fdLawSumRow), (1, fdLawAccepts), (19, fdLawUnfit), (6, MP.fdLawNeighbour), (9, fdLawToldNear)], [(16, "ONE", .tup [.int 1, .int 1]), (18, "ZERO", .tup [.int 0, .int 1])]⟩
abbrev sfdIsWhole : Stmt := top 5
abbrev sfdIsTold : Stmt := top 6
abbrev sfdDivisor : Stmt := top 10
abbrev sfdRatio : Stmt := top 11
abbrev sfdPlus : Stmt := top 12
abbrev sfdMul : Stmt := top 13
abbrev sfdLess : Stmt := top 14
abbrev sfdWhole : Stmt := top 15
abbrev sfdTotal : Stmt := top 16
abbrev sfdIsFraction : Stmt := top 17
abbrev sfdAreFractions : Stmt := top 18
abbrev sfdCheckChildren : Stmt := top 20
abbrev sfdFamilies : Stmt := top 21
abbrev sfdValueAt : Stmt := top 22
abbrev sfdJudgeFamilies : Stmt := top 23
abbrev sfdLawNext : Stmt := top 25
abbrev sfdLawSame : Stmt := top 26
abbrev sfdLawChanged : Stmt := top 27
abbrev sfdLawInts : Stmt := top 28
abbrev sfdLawExchanged : Stmt := top 29
abbrev sfdLawCut : Stmt := top 30
abbrev sfdLawTurnedAbout : Stmt := top 31
abbrev sfdLawOdd : Stmt := top 32
abbrev sfdLawGcd : Stmt := top 33
abbrev sfdLawOf : Stmt := top 34
abbrev sfdLawAdd : Stmt := top 35
abbrev sfdLawMul : Stmt := top 36
abbrev sfdLawTotal : Stmt := top 37
abbrev sfdLawDot : Stmt := top 38
abbrev sfdLawParts : Stmt := top 39
abbrev sfdLawSumRow : Stmt := top 40
abbrev sfdLawAccepts : Stmt := top 41
abbrev sfdLawUnfit : Stmt := top 42
abbrev sfdLawNeighbour : Stmt := top 43
abbrev sfdLawToldNear : Stmt := top 44
abbrev sfdLaw : Stmt := top 45
theorem cfdIsWhole : chkD T MP.fdIsWhole sfdIsWhole = true := by decide +kernel
theorem cfdIsTold : chkD T MP.fdIsTold sfdIsTold = true := by decide +kernel
theorem cfdDivisor : chkD T MP.fdDivisor sfdDivisor = true := by decide +kernel
theorem cfdRatio : chkD T MP.fdRatio sfdRatio = true := by decide +kernel
theorem cfdPlus : chkD T MP.fdPlus sfdPlus = true := by decide +kernel
theorem cfdMul : chkD T MP.fdMul sfdMul = true := by decide +kernel
theorem cfdLess : chkD T MP.fdLess sfdLess = true := by decide +kernel
theorem cfdWhole : chkD T MP.fdWhole sfdWhole = true := by decide +kernel
theorem cfdTotal : chkD T MP.fdTotal sfdTotal = true := by decide +kernel
theorem cfdIsFraction : chkD T MP.fdIsFraction sfdIsFraction = true := by decide +kernel
theorem cfdAreFractions : chkD T MP.fdAreFractions sfdAreFractions = true := by decide +kernel
theorem cfdCheckChildren : chkD T MP.fdCheckChildren sfdCheckChildren = true := by decide +kernel
theorem cfdFamilies : chkD T fdFamilies sfdFamilies = true := by decide +kernel
theorem cfdValueAt : chkD T MP.fdValueAt sfdValueAt = true := by decide +kernel
theorem cfdJudgeFamilies : chkD T fdJudgeFamilies sfdJudgeFamilies = true := by decide +kernel
theorem cfdLawSame : chkD T MP.fdLawSame sfdLawSame = true := by decide +kernel
theorem cfdLawChanged : chkD T MP.fdLawChanged sfdLawChanged = true := by decide +kernel
theorem cfdLawInts : chkD T MP.fdLawInts sfdLawInts = true := by decide +kernel
theorem cfdLawExchanged : chkD T MP.fdLawExchanged sfdLawExchanged = true := by decide +kernel
theorem cfdLawCut : chkD T MP.fdLawCut sfdLawCut = true := by decide +kernel
theorem cfdLawTurnedAbout : chkD T MP.fdLawTurnedAbout sfdLawTurnedAbout = true := by decide +kernel
theorem cfdLawOdd : chkD T MP.fdLawOdd sfdLawOdd = true := by decide +kernel
theorem cfdLawGcd : chkD T MP.fdLawGcd sfdLawGcd = true := by decide +kernel
theorem cfdLawOf : chkD T MP.fdLawOf sfdLawOf = true := by decide +kernel
theorem cfdLawAdd : chkD T MP.fdLawAdd sfdLawAdd = true := by decide +kernel
theorem cfdLawMul : chkD T MP.fdLawMul sfdLawMul = true := by decide +kernel
theorem cfdLawTotal : chkD T fdLawTotal sfdLawTotal = true := by decide +kernel
theorem cfdLawDot : chkD T MP.fdLawDot sfdLawDot = true := by decide +kernel
theorem cfdLawParts : chkD T MP.fdLawParts sfdLawParts = true := by decide +kernel
theorem cfdLawSumRow : chkD T MP.fdLawSumRow sfdLawSumRow = true := by decide +kernel
theorem cfdLawAccepts : chkD T fdLawAccepts sfdLawAccepts = true := by decide +kernel
theorem cfdLawUnfit : chkD T fdLawUnfit sfdLawUnfit = true := by decide +kernel
theorem cfdLawNeighbour : chkD T MP.fdLawNeighbour sfdLawNeighbour = true := by decide +kernel
theorem cfdLawToldNear : chkD T fdLawToldNear sfdLawToldNear = true := by decide +kernel
theorem cNext : chkD T0 nextFD sfdLawNext = true := by decide +kernel
theorem cLaw : (okSc lawN ["script"] (defScope sfdLaw) && mSs T lawN (defScope sfdLaw) lawB ((defBody sfdLaw).drop 1) && visB (defScope sfdLaw) "script" && glB (defScope sfdLaw) "list" && locB (defScope sfdLaw) (fun _ => true) "state") = true := by decide +kernel
end MP.K76
set_option Elab.async false
set_option linter.all false
set_option maxRecDepth 100000
/-! k76: families: what is told. -/
namespace MP.K76
open PySem L2

def gv (xs : List Rat) : Nat → Rat
  | 0 => 0
  | i + 1 => vl xs (gv xs i)
def ee : Nat → Nat
  | 0 => 0
  | i + 1 => 4 * ee i + 1
section
variable {xs : List Rat}
theorem pow_split {a S m e : Nat} : (S ^ e) ^ m = S ^ (e * m) := (Nat.pow_mul S e m).symm
theorem fr_step {S e : Nat} {z : Rat} (hS : 0 < S) (hS2 : S ≤ 120) (hx : ∀ r ∈ xs, fr S 150 r) (hl : xs.length ≤ 4) (h : fr (S ^ e) (600 ^ e) z) : (∀ m, m ≤ xs.length → fr (S * (S ^ e) ^ m) (m * 150 * (600 ^ e) ^ m) (hz xs z m)) ∧ (∀ m, m ≤ xs.length → fr (S * (S ^ e) ^ m) (m * 150 * (600 ^ e) ^ m) (sm m (fun k => xs.getD k 0 * pq z k))) :=
  ⟨fun m _ => fr_hz hS (Nat.pow_pos hS) (Nat.pow_le_pow_left (by omega) e) hx h m, fun m _ => fr_vp hS (Nat.pow_pos hS) (Nat.pow_le_pow_left (by omega) e) hx h m⟩
theorem fr_big {S e : Nat} {z : Rat} {m : Nat} (hm : m ≤ 4) (hS : 0 < S) (hS2 : S ≤ 120) (he : e ≤ 21) (h : fr (S * (S ^ e) ^ m) (m * 150 * (600 ^ e) ^ m) z) : rb 900 z := by
  have h600 : (600 ^ e) ^ m ≤ 600 ^ 84 := by
    rw [pow_split (a := 0)]
    exact Nat.pow_le_pow_right (by decide) (Nat.le_trans (Nat.mul_le_mul he hm) (by decide))
  have hSS : S * (S ^ e) ^ m ≤ 600 * 600 ^ 84 := by
    refine Nat.mul_le_mul (by omega) ?_
    rw [pow_split (a := 0)]
    exact Nat.le_trans (Nat.pow_le_pow_left (show S ≤ 600 by omega) _) (Nat.pow_le_pow_right (by decide) (Nat.le_trans (Nat.mul_le_mul he hm) (by decide)))
  have hA : m * 150 * (600 ^ e) ^ m ≤ 600 * 600 ^ 84 := Nat.mul_le_mul (by omega) h600
  have big : 600 * 600 ^ 84 < 2 ^ 900 := by decide +kernel
  exact fr_rb h (Nat.lt_of_le_of_lt hA big) (Nat.lt_of_le_of_lt hSS big) (by decide)
theorem fr_pad {M A k : Nat} {z : Rat} (hk : 0 < k) {N B : Nat} (h : fr M A z) (e : M * k = N) (e2 : A * k ≤ B) : fr N B z := by
  subst e
  exact fr_le (fr_up hk h) e2
theorem fr_gv {S : Nat} (hS : 0 < S) (hS2 : S ≤ 120) (hx : ∀ r ∈ xs, fr S 150 r) (hl : xs.length ≤ 4) : ∀ i, fr (S ^ ee i) (600 ^ ee i) (gv xs i)
  | 0 => fr_le (fr_zero 1) (by decide)
  | i + 1 => by
    have ih := fr_gv hS hS2 hx hl i
    have q := (fr_step hS hS2 hx hl ih).2 xs.length (Nat.le_refl _)
    have q : fr (S * (S ^ ee i) ^ xs.length) (xs.length * 150 * (600 ^ ee i) ^ xs.length) (gv xs (i + 1)) := q
    refine fr_pad (k := (S ^ ee i) ^ (4 - xs.length)) (Nat.pow_pos (Nat.pow_pos hS)) q ?_ ?_
    · rw [Nat.mul_assoc, ← Nat.pow_add, show xs.length + (4 - xs.length) = 4 by omega, pow_split (a := 0)]
      show S * S ^ (ee i * 4) = S ^ (4 * ee i + 1)
      rw [Nat.pow_succ, Nat.mul_comm, Nat.mul_comm 4]
    · have a : (S ^ ee i) ^ (4 - xs.length) ≤ (600 ^ ee i) ^ (4 - xs.length) := Nat.pow_le_pow_left (Nat.pow_le_pow_left (by omega) _) _
      have b := Nat.mul_le_mul (Nat.mul_le_mul (show xs.length * 150 ≤ 600 by omega) (Nat.le_refl ((600 ^ ee i) ^ xs.length))) a
      rw [Nat.mul_assoc 600, ← Nat.pow_add, show xs.length + (4 - xs.length) = 4 by omega, pow_split (a := 0) (S := 600) (m := 4)] at b
      refine Nat.le_trans b ?_
      show _ ≤ 600 ^ (4 * ee i + 1)
      rw [Nat.pow_succ, Nat.mul_comm 600, Nat.mul_comm 4]
      exact Nat.le_refl _
theorem ee_le {i : Nat} (h : i ≤ 3) : ee i ≤ 21 := by
  rcases (show i = 0 ∨ i = 1 ∨ i = 2 ∨ i = 3 by omega) with rfl | rfl | rfl | rfl <;> decide
theorem rb_hz (h : Rw xs) {i : Nat} (hi : i ≤ 3) {m : Nat} (hm : m ≤ xs.length) : rb 900 (hz xs (gv xs i) m) := by
  obtain ⟨S, h1, h2, h3⟩ := h.frs
  have hl := h.len
  exact fr_big (by omega) h1 h2 (ee_le hi) ((fr_step h1 h2 h3 h.len (fr_gv h1 h2 h3 h.len i)).1 m hm)
theorem rb_vp (h : Rw xs) {i : Nat} (hi : i ≤ 3) {m : Nat} (hm : m ≤ xs.length) : rb 900 (sm m (fun k => xs.getD k 0 * pq (gv xs i) k)) := by
  obtain ⟨S, h1, h2, h3⟩ := h.frs
  have hl := h.len
  exact fr_big (by omega) h1 h2 (ee_le hi) ((fr_step h1 h2 h3 h.len (fr_gv h1 h2 h3 h.len i)).2 m hm)
theorem rb_gv (h : Rw xs) : ∀ {i : Nat}, i ≤ 4 → rb 900 (gv xs i)
  | 0, _ => rb_le rb_zero (by decide)
  | i + 1, hi => rb_vp h (i := i) (by omega) (Nat.le_refl _)
theorem rb_pqg (h : Rw xs) {i : Nat} (hi : i ≤ 3) {m : Nat} (hm : m ≤ 4) : rb 900 (pq (gv xs i) m) := by
  obtain ⟨S, h1, h2, h3⟩ := h.frs
  have q := fr_pq (fr_gv h1 h2 h3 h.len i) m
  have he := ee_le hi
  have big : 600 ^ 84 < 2 ^ 900 := by decide +kernel
  have a : (600 ^ ee i) ^ m ≤ 600 ^ 84 := by
    rw [pow_split (a := 0)]
    exact Nat.pow_le_pow_right (by decide) (Nat.le_trans (Nat.mul_le_mul he hm) (by decide))
  have b : (S ^ ee i) ^ m ≤ 600 ^ 84 := by
    rw [pow_split (a := 0)]
    exact Nat.le_trans (Nat.pow_le_pow_left (show S ≤ 600 by omega) _) (Nat.pow_le_pow_right (by decide) (Nat.le_trans (Nat.mul_le_mul he hm) (by decide)))
  exact fr_rb q (Nat.lt_of_le_of_lt a big) (Nat.lt_of_le_of_lt b big) (by decide)
theorem rb_mn (h : Rw xs) : rb 90 (mean xs) := by
  have := rb_mean h.rb (by decide) (show xs.length ≤ 100 by have := h.len; omega)
  have := h.len
  exact rb_le (rb_mean h.rb (by decide) (by omega)) (by omega)
theorem rb_pm (h : Rw xs) : ∀ m, rb (1 + m * 91) (pq (mean xs) m)
  | 0 => rb_le rb_one (by decide)
  | m + 1 => rb_le (rb_mul (rb_pm h m) (rb_mn h)) (by omega)
end
def due (xs : List Rat) (c : Nat) : D := .tup [.str "ends", .tup ((tab (c + 1) (gv xs)).map qD), .tup ((tab (c + 1) (pq (mean xs))).map qD)]
section
variable {n : Nat} {w : MP.W} {xs : List Rat}
theorem chk {hl : xs.length ≤ 5} (hb : ∀ r ∈ xs, rb 12 r) (h4 : chOk xs = true → xs.length ≤ 4) : callF T (n + 5) 141 [.tup (xs.map qD)] w = if chOk xs then .ok .non w else .exc 1 w :=
  check_run' (T := T) (by decide) (by rfl) (by rfl) (by rfl) (by rfl) (by rfl) (by rfl) (by rfl) (mx := 4) (by rfl) hb (by omega) (by decide) (fun h => by have := h4 h; omega)
theorem families_bad {i : Int} (hl : xs.length ≤ 5) (hb : ∀ r ∈ xs, rb 12 r) (h4 : chOk xs = true → xs.length ≤ 4) (h : chOk xs = false ∨ i < 0) : callF T (n + 6) 243 [.tup (xs.map qD), .int i] w = .exc 1 w := by
  rw [callF_eq (by decide) (by rfl : T.fn 243 = some fdFamilies) (by rfl)]
  have c1 := chk (n := n) (w := w) (hl := hl) hb h4
  show endR (exs _ fdFamilies.body ⟨[some (.tup (xs.map qD), false), some (.int i, false), none, none, none, none, none, none], w⟩) = _
  generalize callF T (n + 5) = F at c1 ⊢
  generalize D.tup (xs.map qD) = dx at *
  cases h1 : chOk xs with
  | false =>
    rw [h1] at c1
    have c1 : F 141 [dx] w = .exc 1 w := c1
    simp [fdFamilies, exs, ex, ev, evs, evc, evOr, evAnd, isBl, bnd, tr, Opd.d, opD, outR, oneR, consume, endR, callR, truthD, bindNm, isObjD, isL, LN, c1]
  | true =>
    rw [h1] at c1 h
    have c1 : F 141 [dx] w = .ok .non w := c1
    have h2 : i < 0 := by simpa using h
    simp [fdFamilies, exs, ex, ev, evs, evc, evOr, evAnd, isBl, bnd, tr, Opd.d, opD, outR, oneR, consume, endR, callR, truthD, bindNm, isObjD, isL, LN, c1, cmpI, MP.i2, h2]
theorem families_run {c : Nat} (hx : Rw xs) (hc : chOk xs = true) (h4 : c ≤ 4) : callF T (n + 6) 243 [.tup (xs.map qD), .int (c : Int)] w = .ok (due xs c) w := by
  rw [callF_eq (by decide) (by rfl : T.fn 243 = some fdFamilies) (by rfl)]
  have lx := hx.len
  have c1 := chk (n := n) (w := w) (hl := show xs.length ≤ 5 by omega) hx.rb (fun _ => lx)
  rw [hc] at c1
  have c1 : callF T (n + 5) 141 [.tup (xs.map qD)] w = .ok .non w := c1
  have c155 : ∀ i, i ≤ 3 → callF T (n + 5) 155 [.tup (xs.map qD), qD (gv xs i)] w = .ok (qD (gv xs (i + 1))) w := fun i hi => value_at_run (T := T) (n := n + 1) (by rfl) (by rfl) (by rfl) (by rfl) (by rfl) (by rfl) (fun r hr => rb_le (hx.rb r hr) (by decide)) (fun m hm => rb_hz hx hi hm) (rb_gv hx (by omega)) (by decide)
  have c57 : ∀ i : Int, callF T (n + 5) 57 [.int i] w = .ok (qD (i : Rat)) w := fun i => whole_run (n := n + 4) (by rfl)
  have c24 : ∀ k r, xs[k]? = some r → callF T (n + 5) 24 [qD (((k : Nat) : Int) : Rat), qD r] w = .ok (qD ((((k : Nat) : Int) : Rat) * r)) w := fun k r h => by
    have hk := (List.getElem?_eq_some_iff.mp h).1
    exact mul_run (n := n + 2) (by rfl) (by rfl) (by rfl) (rb_le (rb_nat (k := 7) (by omega) (by decide)) (by decide)) (rb_le (hx.rb r (mem_get h)) (by decide))
  have m24 : ∀ i, i ≤ 3 → callF T (n + 5) 24 [qD (pq (mean xs) i), qD (mean xs)] w = .ok (qD (pq (mean xs) (i + 1))) w := fun i hi => mul_run (n := n + 2) (by rfl) (by rfl) (by rfl) (rb_le (rb_pm hx i) (by omega)) (rb_le (rb_mn hx) (by decide))
  have c23 : callF T (n + 5) 23 [.lst ((tab xs.length fun k => (((k : Nat) : Int) : Rat) * xs.getD k 0).map qD)] w = .ok (qD (mean xs)) w := total_run (T := T) (n := n + 1) (by rfl) (by rfl) (by rfl) (by rfl) (by rfl) (d := .lst _) rfl (b := 20) (rb_list fun k hk => rb_le (rb_mul (rb_nat (k := 7) (by omega) (by decide)) (rb_getD hx.rb (by decide) k)) (by decide)) (by simp only [List.length_map, List.length_range]; omega) (by decide)
  have g18 : T.gl 18 = some (qD 0) := by rfl
  have g16 : T.gl 16 = some (qD 1) := by rfl
  have it : itemsD (.tup (xs.map qD)) = some (xs.map qD) := rfl
  show endR (exs ⟨callF T (n + 5), T.gl⟩ fdFamilies.body ⟨[some (.tup (xs.map qD), false), some (.int (c : Int), false), none, none, none, none, none, none], w⟩) = _
  generalize callF T (n + 5) = F at *
  generalize T.gl = G at *
  unfold fdFamilies
  dsimp only
  generalize D.tup (xs.map qD) = dx at *
  have i1 : ¬ (c : Int) < 0 := by omega
  have i2' : ¬ 5 < (c : Int) := by omega
  refine end_next ⟨[some (dx, false), some (.int (c : Int), false), none, none, none, none, none, none], w⟩ (by simp [exs, ex, ev, evs, evc, evOr, evAnd, isBl, bnd, tr, Opd.d, opD, outR, oneR, consume, endR, callR, truthD, bindNm, isObjD, isL, LN, c1]) ?_
  refine end_next ⟨[some (dx, false), some (.int (c : Int), false), none, none, none, none, none, none], w⟩ (by simp [exs, ex, ev, evs, evc, evOr, evAnd, isBl, bnd, tr, Opd.d, opD, outR, oneR, consume, endR, callR, truthD, bindNm, isObjD, isL, LN, cmpI, MP.i2, i1]) ?_
  refine end_next ⟨[some (dx, false), some (.int (c : Int), false), none, none, none, none, none, none], w⟩ (by simp [exs, ex, ev, evs, evc, evOr, evAnd, isBl, bnd, tr, Opd.d, opD, outR, oneR, consume, endR, callR, truthD, bindNm, isObjD, isL, LN, cmpI, MP.i2, i2']) ?_
  refine end_next ⟨[some (dx, false), some (.int (c : Int), false), some (.lst ((tab 1 (gv xs)).map qD), true), none, none, none, none, none], w⟩ (by
    have e : (tab 1 (gv xs)).map qD = [qD 0] := rfl
    rw [e]
    simp [exs, ex, ev, evs, evc, evOr, evAnd, isBl, bnd, tr, Opd.d, opD, outR, oneR, consume, endR, callR, truthD, bindNm, isObjD, isL, LN, g18]) ?_
  refine end_forN (fun m s => ∃ x3, s = ⟨[some (dx, false), some (.int (c : Int), false), some (.lst ((tab (m + 1) (gv xs)).map qD), true), x3, none, none, none, none], w⟩) c (s1 := ⟨[some (dx, false), some (.int (c : Int), false), some (.lst ((tab 1 (gv xs)).map qD), true), none, none, none, none, none], w⟩) (by simp [ev, tr]) (by omega) ⟨none, rfl⟩ ?_ ?_
  · rintro m s hm ⟨x3, rfl⟩
    refine ⟨_, ⟨[some (dx, false), some (.int (c : Int), false), some (.lst ((tab (m + 1 + 1) (gv xs)).map qD), true), some (.int (m : Int), false), none, none, none, none], w⟩, asg_nm (by simp), ?_, _, rfl⟩
    have a := c155 m (by omega)
    have l := tab_last m (gv xs)
    have ll : ((tab (m + 1) (gv xs)).map qD).length = m + 1 := by simp [tab_len]
    rw [tab_app (m + 1), List.map_append, List.map_cons, List.map_nil]
    generalize (tab (m + 1) (gv xs)).map qD = z at *
    generalize qD (gv xs (m + 1)) = z1 at *
    generalize qD (gv xs m) = z2 at *
    have lz : z.length < 16777216 := by rw [ll]; omega
    simp [exs, ex, ev, evs, evc, evOr, evAnd, isBl, bnd, tr, Opd.d, opD, outR, oneR, consume, endR, callR, truthD, bindNm, isObjD, isL, LN, negD, mutD, l, a, lz]
  · rintro s ⟨x3, rfl⟩
    generalize hzz : (tab (c + 1) (gv xs)).map qD = zz
    have cA : ev ⟨F, G⟩ false (.comp [5, 6] (.call 24 [.call 57 [.var 5], .var 6]) (.tp [.nm 5, .nm 6]) (.enum (.var 0)) none) ⟨[some (dx, false), some (.int (c : Int), false), some (.lst zz, true), x3, none, none, none, none], w⟩ = .ok (.fresh (.lst ((tab xs.length fun k => (((k : Nat) : Int) : Rat) * xs.getD k 0).map qD))) ⟨[some (dx, false), some (.int (c : Int), false), some (.lst zz, true), x3, none, none, none, none], w⟩ := by
      rw [ev_compE (by decide) (fun _ _ => true) (fun k r => qD ((((k : Nat) : Int) : Rat) * r)) (rs := xs) (d := dx) (s := ⟨[some (dx, false), some (.int (c : Int), false), some (.lst zz, true), x3, none, none, none, none], w⟩)]
      · rw [List.filter_eq_self.mpr (by simp), tab_map xs.length fun k => (((k : Nat) : Int) : Rat) * xs.getD k 0]
        rfl
      · simp [ev, tr]
      · exact it
      · show 5 < 8
        decide
      · show 6 < 8
        decide
      · rfl
      · omega
      · intro k r hk
        refine ⟨rfl, fun _ => ?_⟩
        have a := c57 (k : Int)
        have b := c24 k r hk
        generalize qD (((k : Int) : Rat)) = z1 at *
        generalize qD (((k : Int) : Rat) * r) = z2 at *
        generalize qD r = z3 at *
        simp [exs, ex, ev, evs, evc, evOr, evAnd, isBl, bnd, tr, Opd.d, opD, outR, oneR, consume, endR, callR, truthD, bindNm, isObjD, isL, LN, a, b]
    refine end_next ⟨[some (dx, false), some (.int (c : Int), false), some (.lst zz, true), x3, some (qD (mean xs), false), none, none, none], w⟩ (by
      revert cA
      generalize (ME.comp [5, 6] (.call 24 [.call 57 [.var 5], .var 6]) (.tp [.nm 5, .nm 6]) (.enum (.var 0)) none) = q
      intro cA
      generalize (tab xs.length fun k => (((k : Nat) : Int) : Rat) * xs.getD k 0).map qD = z1 at *
      generalize qD (mean xs) = z2 at *
      simp [exs, ex, ev, evs, evc, evOr, evAnd, isBl, bnd, tr, Opd.d, opD, outR, oneR, consume, endR, callR, truthD, bindNm, isObjD, isL, LN, cA, c23]) ?_
    refine end_next ⟨[some (dx, false), some (.int (c : Int), false), some (.lst zz, true), x3, some (qD (mean xs), false), none, none, some (.lst ((tab 1 (pq (mean xs))).map qD), true)], w⟩ (by
      have e : (tab 1 (pq (mean xs))).map qD = [qD 1] := rfl
      rw [e]
      generalize qD (mean xs) = z2 at *
      simp [exs, ex, ev, evs, evc, evOr, evAnd, isBl, bnd, tr, Opd.d, opD, outR, oneR, consume, endR, callR, truthD, bindNm, isObjD, isL, LN, g16]) ?_
    refine end_forN (fun m s => ∃ x3, s = ⟨[some (dx, false), some (.int (c : Int), false), some (.lst zz, true), x3, some (qD (mean xs), false), none, none, some (.lst ((tab (m + 1) (pq (mean xs))).map qD), true)], w⟩) c (s1 := ⟨[some (dx, false), some (.int (c : Int), false), some (.lst zz, true), x3, some (qD (mean xs), false), none, none, some (.lst ((tab 1 (pq (mean xs))).map qD), true)], w⟩) (by generalize qD (mean xs) = z2; simp [ev, tr]) (by omega) ⟨x3, rfl⟩ ?_ ?_
    · rintro m s hm ⟨x3, rfl⟩
      refine ⟨_, ⟨[some (dx, false), some (.int (c : Int), false), some (.lst zz, true), some (.int (m : Int), false), some (qD (mean xs), false), none, none, some (.lst ((tab (m + 1 + 1) (pq (mean xs))).map qD), true)], w⟩, asg_nm (by simp), ?_, _, rfl⟩
      have a := m24 m (by omega)
      have l := tab_last m (pq (mean xs))
      have ll : ((tab (m + 1) (pq (mean xs))).map qD).length = m + 1 := by simp [tab_len]
      rw [tab_app (m + 1), List.map_append, List.map_cons, List.map_nil]
      generalize (tab (m + 1) (pq (mean xs))).map qD = z at *
      generalize qD (pq (mean xs) (m + 1)) = z1 at *
      generalize qD (pq (mean xs) m) = z2 at *
      generalize qD (mean xs) = z3 at *
      have lz : z.length < 16777216 := by rw [ll]; omega
      simp [exs, ex, ev, evs, evc, evOr, evAnd, isBl, bnd, tr, Opd.d, opD, outR, oneR, consume, endR, callR, truthD, bindNm, isObjD, isL, LN, negD, mutD, l, a, lz]
    · rintro s ⟨x3, rfl⟩
      unfold due
      rw [hzz]
      generalize (tab (c + 1) (pq (mean xs))).map qD = z at *
      generalize qD (mean xs) = z3 at *
      simp [exs, ex, ev, evs, evc, evOr, evAnd, isBl, bnd, tr, Opd.d, opD, outR, oneR, consume, endR, callR, truthD, bindNm, isObjD, isL, LN, tupD]
end
end MP.K76
set_option Elab.async false
set_option linter.all false
set_option maxRecDepth 100000
/-! k76: the law's look. -/
namespace MP.K76
open PySem L2

abbrev NM (y : Option D) : Option (D × Bool) := y.map fun d => (d, false)
/-! ### two times, by numbers of children -/
def sl (xs : List Rat) : Nat → Nat
  | 0 => 1
  | k + 1 => sl xs k + ln xs k
def s1 (l : Nat) (f : Nat → Rat) (j : Nat) : Rat := if j < l then cv [1] (tab l f) 1 j else 0
def sv (xs : List Rat) : Nat → Nat → Rat
  | 0, _ => 0
  | k + 1, j => s1 (sl xs k) (sv xs k) j + (if j < ln xs k then xs.getD k 0 * nw xs k j else 0)
section
variable {xs : List Rat}
theorem sl_pos : ∀ k, 1 ≤ sl xs k
  | 0 => Nat.le_refl _
  | k + 1 => by have := sl_pos k; unfold sl; omega
theorem sl_le (h : xs.length ≤ 4) : ∀ k, k ≤ 4 → sl xs k ≤ 1 + k * 13
  | 0, _ => Nat.le_refl _
  | k + 1, hk => by
    have := sl_le h k (by omega)
    have := ln13 h (show k ≤ 4 by omega)
    unfold sl
    omega
theorem cv1_zero {l : Nat} {f : Nat → Rat} (hl : 1 ≤ l) : cv [1] (tab l f) 1 0 = f 0 := by
  show 0 + (if 0 ≤ 0 ∧ 0 < 0 + (tab l f).length then term [1] (tab l f) 0 (0 - 0) else 0) = _
  rw [tab_len, if_pos (by omega), Rat.zero_add]
  show [(1 : Rat)].getD 0 0 * (tab l f).getD 0 0 = _
  rw [getD_tab (by omega)]
  exact Rat.one_mul _
theorem nw_zero (h1 : 1 ≤ xs.length) : ∀ k, nw xs k 0 = pq (xs.getD 0 0) k
  | 0 => rfl
  | k + 1 => by
    show cv (tab (ln xs k) (nw xs k)) xs (ln xs k) 0 = pq _ k * _
    have e : ∀ m, 1 ≤ m → m ≤ ln xs k → cv (tab (ln xs k) (nw xs k)) xs m 0 = nw xs k 0 * xs.getD 0 0 := by
      intro m
      induction m with
      | zero => intro h; omega
      | succ m ih =>
        intro _ hm
        show cv _ xs m 0 + (if m ≤ 0 ∧ 0 < m + xs.length then term _ xs m (0 - m) else 0) = _
        by_cases hm0 : m = 0
        · subst hm0
          rw [if_pos (by omega)]
          show 0 + (tab (ln xs k) (nw xs k)).getD 0 0 * xs.getD 0 0 = _
          rw [getD_tab (by omega), Rat.zero_add]
        · rw [if_neg (by omega), ih (by omega) (by omega), Rat.add_zero]
    rw [e (ln xs k) (by unfold ln; omega) (Nat.le_refl _), nw_zero h1 k]
theorem sv_zero (h1 : 1 ≤ xs.length) : ∀ k, sv xs k 0 = sm k (fun i => xs.getD i 0 * pq (xs.getD 0 0) i)
  | 0 => rfl
  | k + 1 => by
    show s1 (sl xs k) (sv xs k) 0 + (if 0 < ln xs k then xs.getD k 0 * nw xs k 0 else 0) = _
    have hp := sl_pos (xs := xs) k
    unfold s1
    rw [if_pos (by omega), if_pos (by unfold ln; omega), cv1_zero (by omega), sv_zero h1 k, nw_zero h1 k, sm_succ]
theorem vl_zero (h1 : 1 ≤ xs.length) : vl xs 0 = xs.getD 0 0 := by
  have e : ∀ m, 1 ≤ m → sm m (fun k => xs.getD k 0 * pq 0 k) = xs.getD 0 0 := by
    intro m
    induction m with
    | zero => intro h; omega
    | succ m ih =>
      intro _
      rw [sm_succ]
      by_cases hm0 : m = 0
      · subst hm0
        rw [sm_zero]
        show 0 + _ * 1 = _
        rw [Rat.zero_add, Rat.mul_one]
      · obtain ⟨l, rfl⟩ : ∃ l, m = l + 1 := ⟨m - 1, by omega⟩
        rw [ih (by omega)]
        show _ + _ * (pq 0 l * 0) = _
        rw [Rat.mul_zero, Rat.mul_zero, Rat.add_zero]
  exact e _ h1
theorem second_is (h1 : 1 ≤ xs.length) : sv xs xs.length 0 = gv xs 2 := by
  rw [sv_zero h1]
  show _ = vl xs (vl xs 0)
  rw [vl_zero h1]
  rfl
theorem rb_sv (h : Rw xs) : ∀ k, k ≤ 4 → ∀ j, rb (1 + 70 * k) (sv xs k j)
  | 0, _, j => rb_zero
  | k + 1, hk, j => by
    have ih := rb_sv h k (by omega)
    have hl : ∀ r ∈ tab (sl xs k) (sv xs k), rb (1 + 70 * k) r := fun r hr => by
      obtain ⟨i, _, rfl⟩ := List.mem_map.mp hr
      exact ih i
    have q := rb_cv (xs := [1]) (ys := tab (sl xs k) (sv xs k)) (b := 1) (c := 1 + 70 * k) (by intro r hr; simp at hr; subst hr; exact rb_one) hl (by decide) (by omega) 1 j
    have q1 : rb (6 + 70 * k) (s1 (sl xs k) (sv xs k) j) := by
      unfold s1
      split
      · exact rb_le q (by omega)
      · exact rb_le rb_zero (by omega)
    show rb _ (_ + _)
    split
    · exact rb_le (rb_add q1 (rb_mul (rb_getD h.rb (by decide) k) (rb_nw h (by omega) j))) (by omega)
    · rw [Rat.add_zero]
      exact rb_le q1 (by omega)
theorem rb_s1 (h : Rw xs) {k : Nat} (hk : k ≤ 3) (j : Nat) : rb 300 (s1 (sl xs k) (sv xs k) j) := by
  have hl : ∀ r ∈ tab (sl xs k) (sv xs k), rb (1 + 70 * k) r := fun r hr => by
    obtain ⟨i, _, rfl⟩ := List.mem_map.mp hr
    exact rb_sv h k (by omega) i
  have q := rb_cv (xs := [1]) (ys := tab (sl xs k) (sv xs k)) (b := 1) (c := 1 + 70 * k) (by intro r hr; simp at hr; subst hr; exact rb_one) hl (by decide) (by omega) 1 j
  unfold s1
  split
  · exact rb_le q (by omega)
  · exact rb_le rb_zero (by omega)
theorem s1_list (l m : Nat) (f : Nat → Rat) : tab l (cv [1] (tab l f) 1) ++ tab m (fun _ => 0) = tab (l + m) (s1 l f) := by
  apply List.ext_getElem?
  intro j
  by_cases h : j < l
  · rw [List.getElem?_append_left (by rw [tab_len]; exact h), tab_get h, tab_get (by omega)]
    unfold s1
    rw [if_pos h]
  · rw [List.getElem?_append_right (by rw [tab_len]; omega), tab_len]
    by_cases h2 : j < l + m
    · rw [tab_get (by omega), tab_get h2]
      unfold s1
      rw [if_neg h]
    · rw [List.getElem?_eq_none (by rw [tab_len]; omega), List.getElem?_eq_none (by rw [tab_len]; omega)]
theorem rb_ms (hx : Rw xs) {m : Nat} (h : m ≤ 4) : rb 900 (pq (mean xs) m) := rb_le (rb_pm hx m) (by omega)
theorem okR (hx : Rw xs) {f : Nat → Rat} {c : Nat} (h : ∀ i, i ≤ c → rb 900 (f i)) : TO 2 (.tup ((tab (c + 1) f).map qD)) := TO.rats fun r hr => by
  obtain ⟨j, hj, rfl⟩ := List.mem_map.mp hr
  have := List.mem_range.mp hj
  exact rb_le (h j (by omega)) (by decide)
theorem okD (hx : Rw xs) {c : Nat} (h4 : c ≤ 4) : TO 3 (due xs c) := TO.tup fun x h => by
  simp only [List.mem_cons, List.not_mem_nil, or_false] at h
  rcases h with rfl | rfl | rfl
  · exact .str _
  · exact okR hx fun i hi => rb_gv hx (by omega)
  · exact okR hx fun i hi => rb_ms hx (by omega)
theorem due_sz {c : Nat} (h4 : c ≤ 4) : szD (due xs c) ≤ 1000 := by
  have q := sz_rats (tab (c + 1) (gv xs))
  have q2 := sz_rats (tab (c + 1) (pq (mean xs)))
  rw [tab_len] at q q2
  have s : szD (.str "ends") ≤ 100 := by decide +kernel
  simp only [due, szD, szDs]
  simp only [szD] at s
  omega
theorem due_pl (xs : List Rat) (c : Nat) : pl (due xs c) = true := by
  have a := pl_rats (tab (c + 1) (gv xs))
  have b := pl_rats (tab (c + 1) (pq (mean xs)))
  simp only [pl] at a b
  simp only [due, pl, pls, a, b, Bool.and_self]
end
/-! ### the second look -/
section
variable {F : Nat → List D → MP.W → CR} {G : Nat → Option D} {w : MP.W}
theorem st1 {q : ME} {a0 a1 a2 a3 a4 a5 a6 a7 a8 a9 a11 : Option (D × Bool)} {z : D} {zs z2 : List D} {o10 : Bool}
    (h : ev ⟨F, G⟩ false q ⟨[a0, a1, a2, a3, a4, a5, a6, a7, a8, a9, some (z, false), a11], w⟩ = .ok (.fresh (.lst zs)) ⟨[a0, a1, a2, a3, a4, a5, a6, a7, a8, a9, some (z, false), a11], w⟩)
    (c : F 135 [.lst [.tup [.int 1, .int 1]], z] w = .ok (.lst z2) w) (hl : z2.length + zs.length ≤ LN) :
    ex ⟨F, G⟩ (.asg (.nm 10) (.op .add [.call 135 [.lst [.tup [.cI 1, .cI 1]], .var 10], q])) ⟨[a0, a1, a2, a3, a4, a5, a6, a7, a8, a9, some (z, o10), a11], w⟩ = .ok .next ⟨[a0, a1, a2, a3, a4, a5, a6, a7, a8, a9, some (.lst (z2 ++ zs), true), a11], w⟩ := by
  have ad : addD [.lst z2, .lst zs] = some (.f (.lst (z2 ++ zs))) := by simp only [addD, if_pos hl]
  cases o10 <;> simp [exs, ex, ev, evs, evc, evOr, evAnd, isBl, bnd, tr, Opd.d, opD, outR, oneR, consume, endR, callR, truthD, bindNm, isObjD, isL, LN, h, c, ad]
theorem st3 {a1 a2 a3 a4 a5 a6 a7 a8 a9 a10 : Option (D × Bool)} {dx z z1 l : D} {o11 : Bool} (hl : lstD [dx] = some (.f l)) (c : F 135 [z, l] w = .ok z1 w) :
    ex ⟨F, G⟩ (.asg (.nm 11) (.call 135 [.var 11, .op .lstL [.var 0]])) ⟨[some (dx, false), a1, a2, a3, a4, a5, a6, a7, a8, a9, a10, some (z, o11)], w⟩ = .ok .next ⟨[some (dx, false), a1, a2, a3, a4, a5, a6, a7, a8, a9, a10, some (z1, false)], w⟩ := by
  cases o11 <;> simp [exs, ex, ev, evs, evc, evOr, evAnd, isBl, bnd, tr, Opd.d, opD, outR, oneR, consume, endR, callR, truthD, bindNm, isObjD, isL, LN, hl, c]
theorem st4 {a0 a1 a2 a4 a5 a6 a7 a8 a9 a11 : Option (D × Bool)} {z3 z10 v : D} {o3 o10 : Bool} (h1 : ixD [z10, .int 0] = some (.v v)) (h2 : ixD [z3, .int 2] = some (.v v)) (he : eqB true [v, v] = some (.v (.bl false))) :
    ex ⟨F, G⟩ (.ife (.op .ne [.op .ix [.var 10, .cI 0], .op .ix [.var 3, .cI 2]]) [.ret (.cB false)] []) ⟨[a0, a1, a2, some (z3, o3), a4, a5, a6, a7, a8, a9, some (z10, o10), a11], w⟩ = .ok .next ⟨[a0, a1, a2, some (z3, o3), a4, a5, a6, a7, a8, a9, some (z10, o10), a11], w⟩ := by
  cases o3 <;> cases o10 <;> simp [exs, ex, ev, evs, bnd, tr, Opd.d, opD, outR, truthD_bl, h1, h2, he, isBl]
theorem second_run {xs : List Rat} {dx : D} {el : List D} {a2 a5 a6 a7 a8 a9 : Option (D × Bool)} {y : Option D} (lx : xs.length ≤ 4) (it : itemsD dx = some (xs.map qD)) (hl : lstD [dx] = some (.f (.lst (xs.map qD))))
    (c1 : ∀ m, m < xs.length → F 135 [.lst [qD 1], .lst ((tab (sl xs m) (sv xs m)).map qD)] w = .ok (.lst ((tab (sl xs m) (cv [1] (tab (sl xs m) (sv xs m)) 1)).map qD)) w)
    (c2 : ∀ m, m < xs.length → F 135 [.lst ((nl xs m).map qD), .lst (xs.map qD)] w = .ok (.lst ((nl xs (m + 1)).map qD)) w)
    (c26 : ∀ m k, m < xs.length → k < ln xs m → F 26 [qD (xs.getD m 0), qD (nw xs m k)] w = .ok (qD (xs.getD m 0 * nw xs m k)) w)
    (c22 : ∀ m k, m < xs.length → F 22 [qD (s1 (sl xs m) (sv xs m) k), qD (xs.getD m 0 * nw xs m k)] w = .ok (qD (s1 (sl xs m) (sv xs m) k + xs.getD m 0 * nw xs m k)) w)
    (h2 : ixD [.lst el, .int 2] = some (.v (qD (sv xs xs.length 0)))) :
    ∃ s', exs ⟨F, G⟩ [.asg (.tp [.nm 10, .nm 11]) (.tup [.lst [.tup [.cI 0, .cI 1]], .lst [.tup [.cI 1, .cI 1]]]), .forS (.nm 7) (.seq (.var 0)) [.asg (.nm 10) (.op .add [.call 135 [.lst [.tup [.cI 1, .cI 1]], .var 10], .comp [4] (.tup [.cI 0, .cI 1]) (.nm 4) (.rng1 (.op .len [.var 11])) none]), .asg (.nm 10) (.comp [4] (.ife (.op .lt [.var 4, .op .len [.var 11]]) (.call 22 [.op .ix [.var 10, .var 4], .call 26 [.var 7, .op .ix [.var 11, .var 4]]]) (.op .ix [.var 10, .var 4])) (.nm 4) (.rng1 (.op .len [.var 10])) none), .asg (.nm 11) (.call 135 [.var 11, .op .lstL [.var 0]])], .ife (.op .ne [.op .ix [.var 10, .cI 0], .op .ix [.var 3, .cI 2]]) [.ret (.cB false)] []] ⟨[some (dx, false), some (.int 2, false), a2, some (.lst el, true), NM y, a5, a6, a7, a8, a9, none, none], w⟩ = .ok .next s' ∧
      ∃ a7 a10 a11, s' = ⟨[some (dx, false), some (.int 2, false), a2, some (.lst el, true), NM y, a5, a6, a7, a8, a9, a10, a11], w⟩ := by
  have q11 : D.tup [.int 1, .int 1] = qD 1 := rfl
  have e0 : ex ⟨F, G⟩ (.asg (.tp [.nm 10, .nm 11]) (.tup [.lst [.tup [.cI 0, .cI 1]], .lst [.tup [.cI 1, .cI 1]]])) ⟨[some (dx, false), some (.int 2, false), a2, some (.lst el, true), NM y, a5, a6, a7, a8, a9, none, none], w⟩ = .ok .next ⟨[some (dx, false), some (.int 2, false), a2, some (.lst el, true), NM y, a5, a6, a7, a8, a9, some (.lst ((tab (sl xs 0) (sv xs 0)).map qD), false), some (.lst ((nl xs 0).map qD), false)], w⟩ := by
    have e : (nl xs 0).map qD = [.tup [.int 1, .int 1]] := by
      show (tab (0 * (xs.length - 1) + 1) (nw xs 0)).map qD = [qD 1]
      rw [Nat.zero_mul]
      rfl
    have e2 : (tab (sl xs 0) (sv xs 0)).map qD = [.tup [.int 0, .int 1]] := rfl
    rw [e, e2]
    simp [exs, ex, ev, evs, evc, evOr, evAnd, isBl, bnd, tr, Opd.d, opD, outR, oneR, consume, endR, callR, truthD, bindNm, isObjD, isL, LN, asgT, asgTs]
  rw [exs_next e0]
  obtain ⟨s', f1, f2⟩ := forD (tg := .nm 7) (b := fun s => exs ⟨F, G⟩ [.asg (.nm 10) (.op .add [.call 135 [.lst [.tup [.cI 1, .cI 1]], .var 10], .comp [4] (.tup [.cI 0, .cI 1]) (.nm 4) (.rng1 (.op .len [.var 11])) none]), .asg (.nm 10) (.comp [4] (.ife (.op .lt [.var 4, .op .len [.var 11]]) (.call 22 [.op .ix [.var 10, .var 4], .call 26 [.var 7, .op .ix [.var 11, .var 4]]]) (.op .ix [.var 10, .var 4])) (.nm 4) (.rng1 (.op .len [.var 10])) none), .asg (.nm 11) (.call 135 [.var 11, .op .lstL [.var 0]])] s) (ds := xs.map qD)
    (fun m s => ∃ a7 o10 o11, s = ⟨[some (dx, false), some (.int 2, false), a2, some (.lst el, true), NM y, a5, a6, a7, a8, a9, some (.lst ((tab (sl xs m) (sv xs m)).map qD), o10), some (.lst ((nl xs m).map qD), o11)], w⟩) (fun m dd s hdd hs => by
      obtain ⟨a7, o10, o11, rfl⟩ := hs
      obtain ⟨r, hr, rfl⟩ := map_get hdd
      have hm := (List.getElem?_eq_some_iff.mp hr).1
      have er : r = xs.getD m 0 := (getD_get hr).symm
      subst er
      have sp := sl_pos (xs := xs) m
      have sle := sl_le lx m (by omega)
      have l13 := ln13 lx (show m ≤ 4 by omega)
      have lnl : lenD [.lst ((nl xs m).map qD)] = some (.v (.int ((ln xs m : Nat) : Int))) := by simp [lenD, nl_len]
      refine ⟨_, ⟨[some (dx, false), some (.int 2, false), a2, some (.lst el, true), NM y, a5, a6, some (qD (xs.getD m 0), false), a8, a9, some (.lst ((tab (sl xs (m + 1)) (sv xs (m + 1))).map qD), true), some (.lst ((nl xs (m + 1)).map qD), false)], w⟩, asg_nm (by simp), ?_, _, _, _, rfl⟩
      have n1 := noughts_ev (F := F) (G := G) (src := .op .len [.var 11]) (i := 4) (n := ln xs m) (s := ⟨[some (dx, false), some (.int 2, false), a2, some (.lst el, true), NM y, a5, a6, some (qD (xs.getD m 0), false), a8, a9, some (.lst ((tab (sl xs m) (sv xs m)).map qD), false), some (.lst ((nl xs m).map qD), o11)], w⟩) (by omega) (by
        generalize (nl xs m).map qD = z at *
        generalize (tab (sl xs m) (sv xs m)).map qD = z2 at *
        generalize qD (xs.getD m 0) = z3 at *
        cases o11 <;> simp [ev, evs, bnd, tr, Opd.d, opD, outR, lnl]) (by show 4 < 12; omega) (by cases y <;> rfl)
      have e1 := st1 (o10 := o10) n1 (c1 m hm) (by simp only [List.length_map, tab_len]; show _ ≤ 16777216; omega)
      rw [← List.map_append, s1_list] at e1
      refine nx_next _ e1 ?_
      have lz : lenD [.lst ((tab (sl xs m + ln xs m) (s1 (sl xs m) (sv xs m))).map qD)] = some (.v (.int ((sl xs (m + 1) : Nat) : Int))) := by simp [lenD, tab_len, sl]
      have cB : ev ⟨F, G⟩ false (.comp [4] (.ife (.op .lt [.var 4, .op .len [.var 11]]) (.call 22 [.op .ix [.var 10, .var 4], .call 26 [.var 7, .op .ix [.var 11, .var 4]]]) (.op .ix [.var 10, .var 4])) (.nm 4) (.rng1 (.op .len [.var 10])) none) ⟨[some (dx, false), some (.int 2, false), a2, some (.lst el, true), NM y, a5, a6, some (qD (xs.getD m 0), false), a8, a9, some (.lst ((tab (sl xs m + ln xs m) (s1 (sl xs m) (sv xs m))).map qD), true), some (.lst ((nl xs m).map qD), o11)], w⟩ = .ok (.fresh (.lst ((tab (sl xs (m + 1)) (sv xs (m + 1))).map qD))) ⟨[some (dx, false), some (.int 2, false), a2, some (.lst el, true), NM y, a5, a6, some (qD (xs.getD m 0), false), a8, a9, some (.lst ((tab (sl xs m + ln xs m) (s1 (sl xs m) (sv xs m))).map qD), true), some (.lst ((nl xs m).map qD), o11)], w⟩ := by
        rw [ev_compN (fun _ => true) (fun k => qD (sv xs (m + 1) k)) (n := sl xs (m + 1)) (s := ⟨[some (dx, false), some (.int 2, false), a2, some (.lst el, true), NM y, a5, a6, some (qD (xs.getD m 0), false), a8, a9, some (.lst ((tab (sl xs m + ln xs m) (s1 (sl xs m) (sv xs m))).map qD), true), some (.lst ((nl xs m).map qD), o11)], w⟩)]
        · rw [List.filter_eq_self.mpr (by simp), tab_map]
          rfl
        · refine rng_ev (by unfold sl; omega) ?_
          generalize ((sl xs (m + 1) : Nat) : Int) = z9 at *
          generalize (tab (sl xs m + ln xs m) (s1 (sl xs m) (sv xs m))).map qD = z at *
          generalize (nl xs m).map qD = z2 at *
          generalize qD (xs.getD m 0) = z3 at *
          simp [ev, evs, bnd, tr, Opd.d, opD, outR, lz]
        · show 4 < 12
          omega
        · cases y <;> rfl
        · unfold sl; omega
        · intro k hk
          refine ⟨rfl, fun _ => ?_⟩
          have hk' : k < sl xs m + ln xs m := hk
          have g1 := get_at (rs := tab (sl xs m + ln xs m) (s1 (sl xs m) (sv xs m))) (i := k) (tab_get hk')
          show _ = R.ok (qD (s1 (sl xs m) (sv xs m) k + (if k < ln xs m then xs.getD m 0 * nw xs m k else 0))) _
          by_cases hkl : k < ln xs m
          · have g2 := get_at (rs := nl xs m) (i := k) (r := nw xs m k) (tab_get hkl)
            have a := c26 m k hm hkl
            have b := c22 m k hm
            have hki : (k : Int) < ((ln xs m : Nat) : Int) := by omega
            rw [if_pos hkl]
            generalize (tab (sl xs m + ln xs m) (s1 (sl xs m) (sv xs m))).map qD = z at *
            generalize (nl xs m).map qD = z2 at *
            generalize qD (s1 (sl xs m) (sv xs m) k + xs.getD m 0 * nw xs m k) = y1 at *
            generalize qD (s1 (sl xs m) (sv xs m) k) = y2 at *
            generalize qD (xs.getD m 0 * nw xs m k) = y3 at *
            generalize qD (xs.getD m 0) = y4 at *
            generalize qD (nw xs m k) = y5 at *
            generalize ((ln xs m : Nat) : Int) = y6 at *
            cases o11 <;> simp [ev, evs, evc, bnd, oneR, consume, tr, callR, Opd.d, opD, outR, cmpI, MP.i2, truthD_bl, lnl, hki, g1, g2, a, b]
          · have hki : ¬ (k : Int) < ((ln xs m : Nat) : Int) := by omega
            rw [if_neg hkl, Rat.add_zero]
            generalize (tab (sl xs m + ln xs m) (s1 (sl xs m) (sv xs m))).map qD = z at *
            generalize (nl xs m).map qD = z2 at *
            generalize qD (s1 (sl xs m) (sv xs m) k) = y2 at *
            generalize qD (xs.getD m 0) = y4 at *
            generalize ((ln xs m : Nat) : Int) = y6 at *
            cases o11 <;> simp [ev, evs, evc, bnd, oneR, consume, tr, Opd.d, opD, outR, cmpI, MP.i2, truthD_bl, lnl, hki, g1]
      refine nx_next ⟨[some (dx, false), some (.int 2, false), a2, some (.lst el, true), NM y, a5, a6, some (qD (xs.getD m 0), false), a8, a9, some (.lst ((tab (sl xs (m + 1)) (sv xs (m + 1))).map qD), true), some (.lst ((nl xs m).map qD), o11)], w⟩ (by rw [ex, cB]; rfl) ?_
      rw [exs_next (st3 hl (c2 m hm))]
      rfl) (s := ⟨[some (dx, false), some (.int 2, false), a2, some (.lst el, true), NM y, a5, a6, a7, a8, a9, some (.lst ((tab (sl xs 0) (sv xs 0)).map qD), false), some (.lst ((nl xs 0).map qD), false)], w⟩) ⟨a7, false, false, rfl⟩
  obtain ⟨a7', o10, o11, rfl⟩ := f2
  rw [exs_next ((ex_seq (by simp [ev, tr]) it).trans f1)]
  rw [List.length_map]
  have sp := sl_pos (xs := xs) xs.length
  have gi := get_at (rs := tab (sl xs xs.length) (sv xs xs.length)) (i := 0) (tab_get (by omega))
  have ee := eqB_qD (r := sv xs xs.length 0) (s := sv xs xs.length 0) (neg := true)
  rw [decide_eq_true rfl] at ee
  rw [exs_next (st4 gi h2 ee)]
  exact ⟨_, rfl, a7', _, _, rfl⟩
end
end MP.K76
set_option Elab.async false
set_option linter.all false
set_option maxRecDepth 100000
/-! k76: the law's look, whole. -/
namespace MP.K76
open PySem L2

section
variable {F : Nat → List D → MP.W → CR} {G : Nat → Option D} {w : MP.W}
theorem stM {q : ME} {a1 a2 a4 a5 a6 a7 a8 a9 a10 a11 : Option (D × Bool)} {dx z z1 l : D} {el : List D}
    (h : ev ⟨F, G⟩ false q ⟨[some (dx, false), a1, a2, some (.lst el, true), a4, a5, a6, a7, a8, a9, a10, a11], w⟩ = .ok (.fresh z) ⟨[some (dx, false), a1, a2, some (.lst el, true), a4, a5, a6, a7, a8, a9, a10, a11], w⟩) (hl : lstD [dx] = some (.f l)) (c : F 54 [z, l] w = .ok z1 w) :
    ex ⟨F, G⟩ (.asg (.nm 8) (.call 54 [q, .op .lstL [.var 0]])) ⟨[some (dx, false), a1, a2, some (.lst el, true), a4, a5, a6, a7, a8, a9, a10, a11], w⟩ = .ok .next ⟨[some (dx, false), a1, a2, some (.lst el, true), a4, a5, a6, a7, some (z1, false), a9, a10, a11], w⟩ := by
  simp [exs, ex, ev, evs, evc, evOr, evAnd, isBl, bnd, tr, Opd.d, opD, outR, oneR, consume, endR, callR, truthD, bindNm, isObjD, isL, LN, h, hl, c]
theorem stR {a0 a1 a4 a5 a6 a7 a8 a10 a11 : Option (D × Bool)} {tl : D} {fl ml : List D} {b : Bool} (c8 : F 8 [tl, .tup [.str "ends", .tup fl, .tup ml]] w = .ok (.bl b) w) :
    endR (exs ⟨F, G⟩ [.ret (.call 8 [.var 2, .tup [.cS "ends", .op .tupL [.var 3], .op .tupL [.var 9]]])] ⟨[a0, a1, some (tl, false), some (.lst fl, true), a4, a5, a6, a7, a8, some (.lst ml, true), a10, a11], w⟩) = .ok (.bl b) w := by
  simp [exs, ex, ev, evs, evc, bnd, oneR, consume, tr, callR, Opd.d, opD, outR, tupD, LN, c8, endR]
end
theorem accepts_run {told : D} {w : MP.W} {xs : List Rat} {c : Nat} (hx : Rw xs) (hc : chOk xs = true) (h4 : c ≤ 4) (ht : okA told) : callF T (21 + 1) 1 [.tup (xs.map qD), .int (c : Int), told] w = .ok (.bl (sameD told (due xs c))) w := by
  rw [callF_eq (by decide) (by rfl : T.fn 1 = some fdLawAccepts) (by rfl)]
  have lx := hx.len
  obtain ⟨px, sx⟩ := ch_pos hc
  have i26 : ∀ i m, i ≤ 3 → m < xs.length → callF T 21 26 [qD (xs.getD m 0), qD (pq (gv xs i) m)] w = .ok (qD (xs.getD m 0 * pq (gv xs i) m)) w := fun i m hi hm => law_mul_run (n := 18) (by rfl) (by rfl) (by rfl) (rb_le (rb_getD hx.rb (by decide) m) (by decide)) (rb_le (rb_pqg hx hi (by omega)) (by decide))
  have i22 : ∀ i m, i ≤ 3 → m < xs.length → callF T 21 22 [qD (sm m (fun k => xs.getD k 0 * pq (gv xs i) k)), qD (xs.getD m 0 * pq (gv xs i) m)] w = .ok (qD (sm (m + 1) (fun k => xs.getD k 0 * pq (gv xs i) k))) w := fun i m hi hm => by
    rw [sm_succ]
    exact law_add_run (n := 18) (by rfl) (by rfl) (by rfl) (rb_le (rb_vp hx hi (by omega)) (by decide)) (rb_le (rb_mul (rb_getD hx.rb (by decide) m) (rb_pqg hx hi (by omega))) (by decide))
  have p26 : ∀ i m, i ≤ 3 → m < xs.length → callF T 21 26 [qD (pq (gv xs i) m), qD (gv xs i)] w = .ok (qD (pq (gv xs i) (m + 1))) w := fun i m hi hm => law_mul_run (n := 18) (by rfl) (by rfl) (by rfl) (rb_le (rb_pqg hx hi (by omega)) (by decide)) (rb_le (rb_gv hx (by omega)) (by decide))
  have m26 : ∀ i, i ≤ 3 → callF T 21 26 [qD (pq (mean xs) i), qD (mean xs)] w = .ok (qD (pq (mean xs) (i + 1))) w := fun i hi => law_mul_run (n := 18) (by rfl) (by rfl) (by rfl) (rb_le (rb_pm hx i) (by omega)) (rb_le (rb_mn hx) (by decide))
  have dX : callF T 21 54 [.lst ((tab xs.length fun k => (((k : Nat) : Int) : Rat)).map qD), .lst (xs.map qD)] w = .ok (qD (mean xs)) w := dot_places (T := T) (n := 16) (by rfl) (by rfl) (by rfl) (by rfl) (by rfl) (by rfl) hx.rb (by decide) (by decide) (by omega) (by omega)
  have s1c : ∀ m, m < xs.length → callF T 21 135 [.lst [qD 1], .lst ((tab (sl xs m) (sv xs m)).map qD)] w = .ok (.lst ((tab (sl xs m) (cv [1] (tab (sl xs m) (sv xs m)) 1)).map qD)) w := fun m hm => by
    have sp := sl_pos (xs := xs) m
    have sle := sl_le lx m (by omega)
    have q := law_sum_row_run (T := T) (n := 17) (w := w) (by rfl) (by rfl) (by rfl) (by rfl) (by rfl) (xs := [1]) (ys := tab (sl xs m) (sv xs m)) (b := 1) (c := 300) (by intro r hr; simp at hr; subst hr; exact rb_one) (fun r hr => by
      obtain ⟨i, _, rfl⟩ := List.mem_map.mp hr
      exact rb_le (rb_sv hx m (by omega) i) (by omega)) (by decide) (by decide) (by simp) (by rw [tab_len]; omega) (by simp) (by rw [tab_len]; omega) (by simp)
    rw [tab_len, show [(1 : Rat)].length + sl xs m - 1 = sl xs m by simp] at q
    exact q
  have s2c : ∀ m, m < xs.length → callF T 21 135 [.lst ((nl xs m).map qD), .lst (xs.map qD)] w = .ok (.lst ((nl xs (m + 1)).map qD)) w := fun m hm => by
    have l13 := ln13 lx (show m ≤ 4 by omega)
    have q := law_sum_row_run (T := T) (n := 17) (w := w) (by rfl) (by rfl) (by rfl) (by rfl) (by rfl) (xs := nl xs m) (ys := xs) (rb_nl hx (by omega)) hx.rb (by decide) (by decide) (by rw [nl_len]; unfold ln; omega) px (by rw [nl_len]; omega) (by omega) (by
      rw [nl_len]
      have := Nat.mul_le_mul_right (48 + 12 + 2) (show ln xs m + 1 ≤ 14 by omega)
      omega)
    rw [nl_next px] at q
    exact q
  have s26 : ∀ m k, m < xs.length → k < ln xs m → callF T 21 26 [qD (xs.getD m 0), qD (nw xs m k)] w = .ok (qD (xs.getD m 0 * nw xs m k)) w := fun m k hm hk => law_mul_run (n := 18) (by rfl) (by rfl) (by rfl) (rb_le (rb_getD hx.rb (by decide) m) (by decide)) (rb_le (rb_nw hx (by omega) k) (by decide))
  have s22 : ∀ m k, m < xs.length → callF T 21 22 [qD (s1 (sl xs m) (sv xs m) k), qD (xs.getD m 0 * nw xs m k)] w = .ok (qD (s1 (sl xs m) (sv xs m) k + xs.getD m 0 * nw xs m k)) w := fun m k hm => law_add_run (n := 18) (by rfl) (by rfl) (by rfl) (rb_le (rb_s1 hx (by omega) k) (by decide)) (rb_le (rb_mul (rb_getD hx.rb (by decide) m) (rb_nw hx (by omega) k)) (by decide))
  have c8 : callF T 21 8 [told, due xs c] w = .ok (.bl (sameD told (due xs c))) w := same_run (T := T) (by rfl) 3 told (due xs c) 17 w ht (okD hx h4).sh (by decide) (by have := due_sz (xs := xs) h4; omega)
  have l1 : lenD [.tup (xs.map qD)] = some (.v (.int (xs.length : Int))) := by simp [lenD]
  have ls1 : lstD [.tup (xs.map qD)] = some (.f (.lst (xs.map qD))) := rfl
  have it : itemsD (.tup (xs.map qD)) = some (xs.map qD) := rfl
  have q01 : D.tup [.int 0, .int 1] = qD 0 := rfl
  have q11 : D.tup [.int 1, .int 1] = qD 1 := rfl
  show endR (exs ⟨callF T 21, T.gl⟩ fdLawAccepts.body ⟨[some (.tup (xs.map qD), false), some (.int (c : Int), false), some (told, false), none, none, none, none, none, none, none, none, none], w⟩) = _
  unfold due at c8 ⊢
  generalize callF T 21 = F at *
  generalize T.gl = G at *
  generalize D.tup (xs.map qD) = dx at *
  unfold fdLawAccepts
  dsimp only
  refine end_next ⟨[some (dx, false), some (.int (c : Int), false), some (told, false), some (.lst ((tab 1 (gv xs)).map qD), true), none, none, none, none, none, none, none, none], w⟩ (by
    have e : (tab 1 (gv xs)).map qD = [.tup [.int 0, .int 1]] := rfl
    rw [e]
    simp [exs, ex, ev, evs, evc, evOr, evAnd, isBl, bnd, tr, Opd.d, opD, outR, oneR, consume, endR, callR, truthD, bindNm, isObjD, isL, LN]) ?_
  refine end_forN (fun m s => ∃ y x5 x6 x7, s = ⟨[some (dx, false), some (.int (c : Int), false), some (told, false), some (.lst ((tab (m + 1) (gv xs)).map qD), true), NM y, x5, x6, x7, none, none, none, none], w⟩) c (s1 := ⟨[some (dx, false), some (.int (c : Int), false), some (told, false), some (.lst ((tab 1 (gv xs)).map qD), true), none, none, none, none, none, none, none, none], w⟩) (by simp [ev, tr]) (by omega) ⟨none, none, none, none, rfl⟩ ?_ ?_
  · rintro m s hm ⟨y, x5, x6, x7, rfl⟩
    refine ⟨[some (dx, false), some (.int (c : Int), false), some (told, false), some (.lst ((tab (m + 1) (gv xs)).map qD), true), NM (some (.int (m : Int))), x5, x6, x7, none, none, none, none], ?_⟩
    have l := tab_last m (gv xs)
    have ll : ((tab (m + 1) (gv xs)).map qD).length = m + 1 := by simp [tab_len]
    have hap : (tab (m + 1 + 1) (gv xs)).map qD = (tab (m + 1) (gv xs)).map qD ++ [qD (gv xs (m + 1))] := by rw [tab_app (m + 1), List.map_append]; rfl
    rw [hap]
    have hgv : gv xs (m + 1) = sm xs.length (fun k => xs.getD k 0 * pq (gv xs m) k) := rfl
    generalize (tab (m + 1) (gv xs)).map qD = z at *
    have lz : z.length < 16777216 := by rw [ll]; omega
    obtain ⟨s', f1, f2⟩ := forD (tg := .nm 7) (b := fun s => exs ⟨F, G⟩ [.par [5, 6] [.call 22 [.var 5, .call 26 [.var 7, .var 6]], .call 26 [.var 6, .op .ix [.var 3, .op .neg [.cI 1]]]]] s) (ds := xs.map qD)
      (fun k s => ∃ x7, s = ⟨[some (dx, false), some (.int (c : Int), false), some (told, false), some (.lst z, true), NM (some (.int (m : Int))), some (qD (sm k (fun k => xs.getD k 0 * pq (gv xs m) k)), false), some (qD (pq (gv xs m) k), false), x7, none, none, none, none], w⟩) (fun k dd s hdd hs => by
        obtain ⟨x7, rfl⟩ := hs
        obtain ⟨r, hr, rfl⟩ := map_get hdd
        have hk := (List.getElem?_eq_some_iff.mp hr).1
        have er : r = xs.getD k 0 := (getD_get hr).symm
        subst er
        refine ⟨_, ⟨[some (dx, false), some (.int (c : Int), false), some (told, false), some (.lst z, true), NM (some (.int (m : Int))), some (qD (sm (k + 1) (fun k => xs.getD k 0 * pq (gv xs m) k)), false), some (qD (pq (gv xs m) (k + 1)), false), some (qD (xs.getD k 0), false), none, none, none, none], w⟩, asg_nm (by simp), ?_, _, rfl⟩
        have a := i26 m k (by omega) hk
        have b := i22 m k (by omega) hk
        have p := p26 m k (by omega) hk
        generalize qD (sm (k + 1) (fun k => xs.getD k 0 * pq (gv xs m) k)) = z1 at *
        generalize qD (sm k (fun k => xs.getD k 0 * pq (gv xs m) k)) = z2 at *
        generalize qD (xs.getD k 0 * pq (gv xs m) k) = z3 at *
        generalize qD (pq (gv xs m) (k + 1)) = z4 at *
        generalize qD (pq (gv xs m) k) = z5 at *
        generalize qD (gv xs m) = z6 at *
        generalize qD (xs.getD k 0) = z7 at *
        simp [exs, ex, ev, evs, evc, evOr, evAnd, isBl, bnd, tr, Opd.d, opD, outR, oneR, consume, endR, callR, truthD, bindNm, isObjD, isL, LN, evps, part, setAll, negD, l, a, b, p]) (s := ⟨[some (dx, false), some (.int (c : Int), false), some (told, false), some (.lst z, true), NM (some (.int (m : Int))), some (qD 0, false), some (qD 1, false), x7, none, none, none, none], w⟩) ⟨x7, rfl⟩
    obtain ⟨x7', rfl⟩ := f2
    rw [List.length_map, ← hgv] at f1
    refine ⟨⟨[some (dx, false), some (.int (c : Int), false), some (told, false), some (.lst (z ++ [qD (gv xs (m + 1))]), true), NM (some (.int (m : Int))), some (qD (gv xs (m + 1)), false), some (qD (pq (gv xs m) xs.length), false), x7', none, none, none, none], w⟩, asg_nm (by simp), ?_, some (.int (m : Int)), _, _, _, rfl⟩
    refine nx_next ⟨[some (dx, false), some (.int (c : Int), false), some (told, false), some (.lst z, true), NM (some (.int (m : Int))), some (qD 0, false), some (qD 1, false), x7, none, none, none, none], w⟩ (by
      rw [← q01, ← q11]
      simp [exs, ex, ev, evs, evc, evOr, evAnd, isBl, bnd, tr, Opd.d, opD, outR, oneR, consume, endR, callR, truthD, bindNm, isObjD, isL, LN, asgT, asgTs]) ?_
    refine nx_next ⟨[some (dx, false), some (.int (c : Int), false), some (told, false), some (.lst z, true), NM (some (.int (m : Int))), some (qD (gv xs (m + 1)), false), some (qD (pq (gv xs m) xs.length), false), x7', none, none, none, none], w⟩ ((ex_seq (by simp [ev, tr]) it).trans f1) ?_
    generalize qD (gv xs (m + 1)) = z1 at *
    generalize qD (pq (gv xs m) xs.length) = z2 at *
    simp [exs, ex, ev, evs, evc, evOr, evAnd, isBl, bnd, tr, Opd.d, opD, outR, oneR, consume, endR, callR, truthD, bindNm, isObjD, isL, LN, mutD, lz]
  · rintro s ⟨y, x5, x6, x7, rfl⟩
    have hixx : c = 2 → ixD [.lst ((tab (c + 1) (gv xs)).map qD), .int 2] = some (.v (qD (sv xs xs.length 0))) := fun h => by
      subst h
      rw [second_is px]
      exact get_at (i := 2) (tab_get (by omega))
    generalize (tab (c + 1) (gv xs)).map qD = el at *
    have p1 := places_ev (F := F) (G := G) (src := .op .len [.var 0]) (i := 4) (n := xs.length) (s := ⟨[some (dx, false), some (.int (c : Int), false), some (told, false), some (.lst el, true), NM y, x5, x6, x7, none, none, none, none], w⟩) (by omega) (by simp [ev, evs, bnd, tr, Opd.d, opD, outR, l1]) (by show 4 < 12; omega) (by cases y <;> rfl)
    refine end_next _ (stM p1 ls1 dX) ?_
    refine end_next ⟨[some (dx, false), some (.int (c : Int), false), some (told, false), some (.lst el, true), NM y, x5, x6, x7, some (qD (mean xs), false), some (.lst ((tab 1 (pq (mean xs))).map qD), true), none, none], w⟩ (by
      have e : (tab 1 (pq (mean xs))).map qD = [.tup [.int 1, .int 1]] := rfl
      rw [e]
      generalize qD (mean xs) = z2 at *
      simp [exs, ex, ev, evs, evc, evOr, evAnd, isBl, bnd, tr, Opd.d, opD, outR, oneR, consume, endR, callR, truthD, bindNm, isObjD, isL, LN]) ?_
    refine end_forN (fun m s => ∃ y, s = ⟨[some (dx, false), some (.int (c : Int), false), some (told, false), some (.lst el, true), NM y, x5, x6, x7, some (qD (mean xs), false), some (.lst ((tab (m + 1) (pq (mean xs))).map qD), true), none, none], w⟩) c (s1 := ⟨[some (dx, false), some (.int (c : Int), false), some (told, false), some (.lst el, true), NM y, x5, x6, x7, some (qD (mean xs), false), some (.lst ((tab 1 (pq (mean xs))).map qD), true), none, none], w⟩) (by generalize qD (mean xs) = z2; simp [ev, tr]) (by omega) ⟨y, rfl⟩ ?_ ?_
    · rintro m s hm ⟨y, rfl⟩
      refine ⟨_, ⟨[some (dx, false), some (.int (c : Int), false), some (told, false), some (.lst el, true), NM (some (.int (m : Int))), x5, x6, x7, some (qD (mean xs), false), some (.lst ((tab (m + 1 + 1) (pq (mean xs))).map qD), true), none, none], w⟩, asg_nm (by simp), ?_, some (.int (m : Int)), rfl⟩
      have a := m26 m (by omega)
      have l := tab_last m (pq (mean xs))
      have ll : ((tab (m + 1) (pq (mean xs))).map qD).length = m + 1 := by simp [tab_len]
      rw [tab_app (m + 1), List.map_append, List.map_cons, List.map_nil]
      generalize (tab (m + 1) (pq (mean xs))).map qD = z at *
      generalize qD (pq (mean xs) (m + 1)) = z1 at *
      generalize qD (pq (mean xs) m) = z2 at *
      generalize qD (mean xs) = z3 at *
      have lz : z.length < 16777216 := by rw [ll]; omega
      simp [exs, ex, ev, evs, evc, evOr, evAnd, isBl, bnd, tr, Opd.d, opD, outR, oneR, consume, endR, callR, truthD, bindNm, isObjD, isL, LN, negD, mutD, l, a, lz]
    · rintro s ⟨y, rfl⟩
      generalize (tab (c + 1) (pq (mean xs))).map qD = ml at *
      by_cases h2 : c = 2
      · obtain ⟨s', f1, a7, a10, a11, rfl⟩ := second_run (F := F) (G := G) (w := w) (el := el) (a2 := some (told, false)) (a5 := x5) (a6 := x6) (a7 := x7) (a8 := some (qD (mean xs), false)) (a9 := some (.lst ml, true)) (y := y) lx it ls1 s1c s2c s26 s22 (hixx h2)
        have hci : (c : Int) = 2 := by omega
        have e2 : eqB false [.int 2, .int 2] = some (.v (.bl true)) := rfl
        rw [hci]
        refine end_next _ ((ex_t (o := .val (.bl true)) (s' := ⟨[some (dx, false), some (.int 2, false), some (told, false), some (.lst el, true), NM y, x5, x6, x7, some (qD (mean xs), false), some (.lst ml, true), none, none], w⟩) ?_ rfl).trans f1) (stR c8)
        generalize qD (mean xs) = z2 at *
        simp [ev, evs, bnd, tr, Opd.d, opD, outR, truthD_bl, e2]
      · have hci : (c : Int) ≠ 2 := by omega
        have e2 : eqB false [.int (c : Int), .int 2] = some (.v (.bl false)) := by
          have : ((c : Int) == 2) = false := by simpa using hci
          simp [eqB, shp, eqD, this]
        refine end_next ⟨[some (dx, false), some (.int (c : Int), false), some (told, false), some (.lst el, true), NM y, x5, x6, x7, some (qD (mean xs), false), some (.lst ml, true), none, none], w⟩ ((ex_f (o := .val (.bl false)) (s' := ⟨[some (dx, false), some (.int (c : Int), false), some (told, false), some (.lst el, true), NM y, x5, x6, x7, some (qD (mean xs), false), some (.lst ml, true), none, none], w⟩) ?_ rfl).trans rfl) (stR c8)
        generalize qD (mean xs) = z2 at *
        simp [ev, evs, bnd, tr, Opd.d, opD, outR, truthD_bl, e2]
end MP.K76
set_option Elab.async false
set_option linter.all false
set_option maxRecDepth 100000
/-! k76: the judge, nearby, refused, the law. -/
namespace MP.K76
open PySem L2

theorem judge_run {told : D} {w : MP.W} {xs : List Rat} {c : Nat} (hx : Rw xs) (hc : chOk xs = true) (h4 : c ≤ 4) (hg : okG told) : callF T (21 + 1) 289 [.tup (xs.map qD), .int (c : Int), told] w = .ok (.bl (sameD told (due xs c))) w := by
  rw [callF_eq (by decide) (by rfl : T.fn 289 = some fdJudgeFamilies) (by rfl)]
  have f : callF T 21 243 [.tup (xs.map qD), .int (c : Int)] w = .ok (due xs c) w := families_run (n := 15) hx hc h4
  have h11 : callF T 21 11 [told, .str "ends", .int 3] w = .ok (.bl (toldB "ends" 3 told)) w := is_told_run (n := 20) (w := w) (by rfl : T.fn 11 = some fdIsTold) hg.okA (sOk_of "ends") (c := 3) (by decide)
  have h28 : ∀ (x : D) (k : Int), okG x → callF T 21 28 [x, .int k] w = .ok (.bl (fracsB k x)) w := fun x k hx => are_fractions_run (n := 18) (by rfl) (by rfl) (by rfl) (by rfl) hx
  have hp := due_pl xs c
  have hsh : shp 64 (due xs c) = true := shp_le (okD hx h4).sh (by decide)
  have ad : addD [.int (c : Int), .int 1] = some (.v (.int ((c + 1 : Nat) : Int))) := rfl
  show endR (exs ⟨callF T 21, T.gl⟩ fdJudgeFamilies.body ⟨[some (.tup (xs.map qD), false), some (.int (c : Int), false), some (told, false), none], w⟩) = _
  generalize callF T 21 = F at *
  generalize T.gl = G at *
  generalize D.tup (xs.map qD) = dx at *
  unfold fdJudgeFamilies
  dsimp only
  refine end_next ⟨[some (dx, false), some (.int (c : Int), false), some (told, false), some (due xs c, false)], w⟩ (by simp [exs, ex, ev, evs, evc, evOr, evAnd, isBl, bnd, tr, Opd.d, opD, outR, oneR, consume, endR, callR, truthD, bindNm, isObjD, isL, LN, f]) ?_
  cases hb : toldB "ends" 3 told with
  | false =>
    rw [hb] at h11
    have this := sameD_ne hp (a := told) (by
      rintro rfl
      rw [due, toldB3] at hb
      cases hb)
    generalize due xs c = dd at *
    simp [exs, ex, ev, evc, evOr, isBl, bnd, tr, Opd.d, oneR, consume, endR, callR, h11, truthD_bl, this]
  | true =>
    rw [hb] at h11
    obtain ⟨y, z, rfl⟩ := told3 hb
    have gy := h28 y ((c + 1 : Nat) : Int) (okG_mem hg y (by simp))
    have gz := h28 z ((c + 1 : Nat) : Int) (okG_mem hg z (by simp))
    have i1 : ixD [.tup [.str "ends", y, z], .int 1] = some (.v y) := by simp [ixD, atI, ixN]
    have i2' : ixD [.tup [.str "ends", y, z], .int 2] = some (.v z) := by simp [ixD, atI, ixN]
    cases hf : fracsB ((c + 1 : Nat) : Int) y with
    | false =>
      rw [hf] at gy
      have this := sameD_ne hp (a := .tup [.str "ends", y, z]) (by
        intro e
        simp only [due, D.tup.injEq, List.cons.injEq, and_true] at e
        have q : fracsB ((c + 1 : Nat) : Int) y = true := fracsB_iff.mpr ⟨_, e.2.1, by rw [tab_len]⟩
        rw [q] at hf
        cases hf)
      generalize ((c + 1 : Nat) : Int) = sz at *
      generalize due xs c = dd at *
      generalize D.tup [.str "ends", y, z] = tt at *
      simp [exs, ex, ev, evs, evc, evOr, evAnd, isBl, bnd, tr, Opd.d, opD, outR, oneR, consume, endR, callR, truthD, bindNm, isObjD, isL, LN, h11, truthD_bl, i1, ad, gy, this]
    | true =>
      rw [hf] at gy
      cases hf2 : fracsB ((c + 1 : Nat) : Int) z with
      | false =>
        rw [hf2] at gz
        have this := sameD_ne hp (a := .tup [.str "ends", y, z]) (by
          intro e
          simp only [due, D.tup.injEq, List.cons.injEq, and_true] at e
          have q : fracsB ((c + 1 : Nat) : Int) z = true := fracsB_iff.mpr ⟨_, e.2.2, by rw [tab_len]⟩
          rw [q] at hf2
          cases hf2)
        generalize ((c + 1 : Nat) : Int) = sz at *
        generalize due xs c = dd at *
        generalize D.tup [.str "ends", y, z] = tt at *
        simp [exs, ex, ev, evs, evc, evOr, evAnd, isBl, bnd, tr, Opd.d, opD, outR, oneR, consume, endR, callR, truthD, bindNm, isObjD, isL, LN, h11, truthD_bl, i1, i2', ad, gy, gz, this]
      | true =>
        rw [hf2] at gz
        obtain ⟨rs1, rfl, _⟩ := fracsB_iff.mp hf
        obtain ⟨rs2, rfl, _⟩ := fracsB_iff.mp hf2
        have px : pl (.tup [.str "ends", .tup (rs1.map qD), .tup (rs2.map qD)]) = true := by
          have q := pl_rats rs1
          have q2 := pl_rats rs2
          simp only [pl] at q q2
          simp only [pl, pls, q, q2, Bool.and_self]
        have eq := eqB_ok (neg := false) (okG_shp hg (by simp)) hsh
        rw [eqD_same px hp] at eq
        generalize ((c + 1 : Nat) : Int) = sz at *
        generalize due xs c = dd at *
        generalize D.tup [.str "ends", .tup (rs1.map qD), .tup (rs2.map qD)] = tt at *
        generalize D.tup (rs1.map qD) = yy at *
        generalize D.tup (rs2.map qD) = zz at *
        generalize sameD tt dd = q at *
        simp [exs, ex, ev, evs, evc, evOr, evAnd, isBl, bnd, tr, Opd.d, opD, outR, oneR, consume, endR, callR, truthD, bindNm, isObjD, isL, LN, h11, truthD_bl, i1, i2', ad, gy, gz, eq]
theorem out_of {xs : List Rat} (hx : Rw xs) {j : Int} (hj : j ≤ 4) : Out (callF T 21) 243 [.tup (xs.map qD), .int j] := fun w => by
  have lx := hx.len
  by_cases hb : chOk xs = false ∨ j < 0
  · exact .inr (.inl (families_bad (n := 15) (by omega) hx.rb (fun _ => lx) hb))
  · obtain ⟨c, rfl⟩ : ∃ c : Nat, j = (c : Int) := ⟨j.toNat, by omega⟩
    have hc : chOk xs = true := by
      cases h : chOk xs with
      | false => exact absurd (.inl h) hb
      | true => rfl
    exact .inl ⟨_, families_run (n := 15) hx hc (by omega), (okD hx (by omega)).okG (by decide) (by have := due_sz (xs := xs) (show c ≤ 4 by omega); omega)⟩
theorem unfit_run {w : MP.W} {xs : List Rat} {i : Int} (hl : xs.length ≤ 5) (hb : ∀ r ∈ xs, rb 12 r) (h4 : chOk xs = true → xs.length ≤ 4) (h : chOk xs = false ∨ i < 0) : callF T 22 19 [.tup (xs.map qD), .int i] w = .ok (.bl true) w := by
  have f1 := families_bad (n := 15) (w := w) hl hb h4 h
  have f2 : callF T 20 243 [.tup (xs.map qD), .int i] w = .exc 1 w := families_bad (n := 14) hl hb h4 h
  refine unfit2 (T := T) (n := 21) (by rfl) (pid := 243) (jid := 289) f1 ?_
  rw [callF_eq (by decide) (by rfl : T.fn 289 = some fdJudgeFamilies) (by rfl)]
  show endR (exs _ fdJudgeFamilies.body ⟨[some (.tup (xs.map qD), false), some (.int i, false), some (.non, false), none], w⟩) = _
  generalize callF T 20 = F at f2 ⊢
  generalize D.tup (xs.map qD) = dx at *
  simp [fdJudgeFamilies, exs, ex, ev, evs, evc, evOr, evAnd, isBl, bnd, tr, Opd.d, opD, outR, oneR, consume, endR, callR, truthD, bindNm, isObjD, isL, LN, f2]
theorem law_run (ns : List Int) : ∃ s', exs ⟨callF T 22, T.gl⟩ lawB ⟨none :: some (.st, false) :: List.replicate (lawN.length - 2) none, ⟨ns, 0, 0, 1⟩⟩ = .ok (.ret (.bl true)) s' := by
  refine law_frame (L := 10) (N := 3) (by decide) (by decide) _ fun E S w g hS => ?_
  have l : E.length = 10 := g.len
  obtain ⟨xs, w1, e1, px⟩ := ex_pt (T := T) (n := 19) (t := 4) (by rfl) (by rfl) (by rfl) g.st (by omega) w
  have g1 := g.set (j := 4) (x := some (.tup (xs.map qD), false)) (by decide)
  have a1 : At (E.set 4 (some (.tup (xs.map qD), false))) 4 (.tup (xs.map qD)) := At.new (by omega)
  generalize E.set 4 (some (.tup (xs.map qD), false)) = E1 at e1 g1 a1
  have l1 : E1.length = 10 := g1.len
  obtain ⟨c, w2, hc4, nx⟩ := next_at (T := T) (n := 21) (w := w1) (lim := 4) (by decide) (by decide)
  have e2 := ex_draw (F := callF T 22) (G := T.gl) (t := 5) g1.st nx (by omega)
  have g2 := g1.set (j := 5) (x := some (.int (c : Int), false)) (by decide)
  have ii2 : Ats (E1.set 5 (some (.int (c : Int), false))) [4, 5] [.tup (xs.map qD), .int (c : Int)] := .cons (a1.set (by decide)) (.cons (At.new (by omega)) .nil)
  generalize E1.set 5 (some (.int (c : Int), false)) = E2 at e2 g2 ii2
  have l2 : E2.length = 10 := g2.len
  have hc4 : c < 4 := by omega
  have hx := px.rw
  have cx := px.p.ch
  have hT := okD hx (show c ≤ 4 by omega)
  have hz := due_sz (xs := xs) (show c ≤ 4 by omega)
  have tG : okG (due xs c) := hT.okG (by decide) (by omega)
  have hse : sameD (due xs c) (due xs c) = true := sameD_refl _ (due_pl xs c)
  have f3 : callF T 22 243 [.tup (xs.map qD), .int (c : Int)] w2 = .ok (due xs c) w2 := families_run (n := 16) hx cx (by omega)
  have e3 := ex_call (F := callF T 22) (G := T.gl) (t := 6) (f := 243) (evc_at (w := w2) ii2) f3 (by omega)
  have g3 := g2.set (j := 6) (x := some (due xs c, false)) (by decide)
  have i3 := ii2.set (j := 6) (x := some (due xs c, false)) (by decide)
  have t3 : At (E2.set 6 (some (due xs c, false))) 6 (due xs c) := At.new (by omega)
  generalize E2.set 6 (some (due xs c, false)) = E3 at e3 g3 i3 t3
  obtain ⟨nr, w4, n4, o4⟩ : ∃ x w', callF T 22 9 [.st, .tup (xs.map qD), .int (c : Int)] w2 = .ok x w' ∧ okG x :=
    near2 (T := T) (n := 20) (by rfl) (fun w => pt_neigh (T := T) (n := 19) (by rfl) px (P := fun a' => Out (callF T 21) 243 [a', .int (c : Int)]) (fun rs' hr => out_of hr (by omega)) w)
      (fun w => by
        obtain ⟨j, w', e, hj⟩ := neigh_int (T := T) (n := 19) (by rfl) (i := (c : Int)) w
        exact ⟨_, w', e, out_of hx (by omega)⟩) w2
  have l3 : E3.length = 10 := g3.len
  have e4 := ex_call (F := callF T 22) (G := T.gl) (t := 7) (f := 9) (evc_at (w := w2) (.cons g3.st i3)) n4 (by omega)
  have g4 := g3.set (j := 7) (x := some (nr, false)) (by decide)
  have i4 := i3.set (j := 7) (x := some (nr, false)) (by decide)
  have t4 := t3.set (j := 7) (x := some (nr, false)) (by decide)
  have r4 : At (E3.set 7 (some (nr, false))) 7 nr := At.new (by omega)
  generalize E3.set 7 (some (nr, false)) = E4 at e4 g4 i4 t4 r4
  have ac : ∀ (w : MP.W) (x : D), okG x → callF T 22 1 ([.tup (xs.map qD), .int (c : Int)] ++ [x]) w = .ok (.bl (sameD x (due xs c))) w := fun w x h => accepts_run hx cx (by omega) h.okA
  have jd : ∀ (w : MP.W) (x : D), okG x → callF T 22 289 ([.tup (xs.map qD), .int (c : Int)] ++ [x]) w = .ok (.bl (sameD x (due xs c))) w := fun w x h => judge_run hx cx (by omega) h
  have e5 := look_ok (F := callF T 22) (G := T.gl) (w := w4) (t := 6) (jud := 289) i4 t4 (by rw [ac w4 _ tG, hse]) (by rw [jd w4 _ tG, hse])
  have e6 : ex ⟨callF T 22, T.gl⟩ (.ife (.orL [.not (.call 19 [.tup [], .var 5]), .not (.call 19 [.var 4, .op .neg [.cI 1]]), .not (.call 19 [.op .add [.var 4, .tup [.tup [.cI 1, .cI 1]]], .var 5])]) [.ret (.cB false)] []) ⟨E4, w4⟩ = .ok .next ⟨E4, w4⟩ := by
    refine ret_false ?_
    have hxl := px.p.hi
    have u1 := unfit_run (w := w4) (xs := []) (i := (c : Int)) (by simp) (by simp) (by simp) (.inl rfl)
    have u2 := unfit_run (w := w4) (xs := xs) (i := -1) (by omega) px.p.rb (fun _ => by omega) (.inr (by decide))
    have u3 := unfit_run (w := w4) (xs := xs ++ [1]) (i := (c : Int)) (by simp; omega) (fun r hr => by
      rcases List.mem_append.mp hr with h | h
      · exact px.p.rb r h
      · simp only [List.mem_cons, List.not_mem_nil, or_false] at h
        subst h
        exact rb_le rb_one (by decide)) (fun h => by rw [px.p.more] at h; cases h) (.inl px.p.more)
    rw [more_map] at u3
    have ad := addT (x := xs.map qD) (y := [.tup [.int 1, .int 1]]) (by simp; omega)
    have u1 : callF T 22 19 [.tup [], .int (c : Int)] w4 = .ok (.bl true) w4 := u1
    cases i4 with | cons q4 i5 =>
    cases i5 with | cons q5 _ =>
    unfold At at q4 q5
    generalize callF T 22 = F at u1 u2 u3 ⊢
    generalize xs.map qD ++ [.tup [.int 1, .int 1]] = z at *
    generalize D.tup (xs.map qD) = dx at *
    simp [exs, ex, ev, evs, evc, evOr, evAnd, isBl, bnd, tr, Opd.d, opD, outR, oneR, consume, endR, callR, truthD, bindNm, isObjD, isL, LN, negD, q4, q5, u1, u2, u3, ad]
  obtain ⟨E', S', w', e7, g7, h7⟩ := tail_ok (F := callF T 22) (G := T.gl) (w := w4) (ins := [4, 5]) (news := [6, 7]) (nd := [due xs c, nr]) (t := 6) (k := 8) (a := 9) (jud := 289) (M := 8) (told := due xs c) (fun x => sameD x (due xs c)) g4 (by omega) i4 (.cons t4 (.cons r4 .nil)) (by simp) (by simp [tG, o4]) t4
    (by decide) (by decide) (by decide) (by decide) (by decide) (by decide) (by decide) (by decide) (by decide) (by decide) (by decide) (by decide) jd ac
    (fun w => TO.odd (T := T) ⟨by rfl, by rfl, by rfl, by rfl, by rfl, by rfl⟩ (k := 2) (n := 15) hT (by decide) (by simp) (by show szD (due xs c) ≤ _; omega) w) (fun w b => same_bl (by rfl) w b)
  refine ⟨E', S', w', ?_, g7, h7⟩
  refine nx_next _ e1 (nx_next _ e2 (nx_next _ e3 (nx_next _ e4 (nx_next _ e5 (nx_next _ e6 ?_)))))
  exact e7
end MP.K76
set_option Elab.async false
set_option linter.all false
set_option maxRecDepth 100000
set_option maxHeartbeats 0
namespace MP.K76
open PySem PySem.Spec PyProof.Rows L2
theorem kit_sub {K : PySem.W.Frag} {C : Addr} (h : PySem.W.subIn K (.ref C) (.type "ValueError") = some true) : PySem.W.kitOne K (.ref C) (.type "ValueError") = some true := by
  unfold PySem.W.kitOne PySem.W.kitCls
  rw [if_neg (show ¬ (Value.ref C == Value.type "ValueError") = true from fun h => Bool.noConfusion (show false = true from h))]
  dsimp only
  rw [if_pos (by decide +kernel)]
  exact h
def AllD (K : PySem.W.Frag) (mg : Str → Option Value) (T : Tab) (l : List (Nat × FD)) : Prop := ∀ f fd, l.lookup f = some fd → DefIn K mg T fd
theorem dnil {K : PySem.W.Frag} {mg : Str → Option Value} {T : Tab} : AllD K mg T [] := fun _ _ h => by cases h
theorem dcons {K : PySem.W.Frag} {mg : Str → Option Value} {T : Tab} {i : Nat} {d : FD} {l : List (Nat × FD)} (h : DefIn K mg T d) (r : AllD K mg T l) : AllD K mg T ((i, d) :: l) := fun f fd e => by
  rw [List.lookup_cons] at e
  split at e
  · cases e; exact h
  · exact r f fd e
theorem all_defs {K : PySem.W.Frag} {mg : Str → Option Value} {T : Tab} {l : List (Nat × FD)} (h : AllD K mg T l) : ∀ f fd, l.lookup f = some fd → DefIn K mg T fd := h
def AllG (K : PySem.W.Frag) (mg : Str → Option Value) (l : List (Nat × Str × D)) : Prop := ∀ g nm d, l.lookup g = some (nm, d) → ∃ (u : Value) (v : L2.V), mg nm = some u ∧ RelV v u ∧ ∀ Sh st H, DR K Sh st H v d
theorem gnil {K : PySem.W.Frag} {mg : Str → Option Value} : AllG K mg [] := fun _ _ _ h => by cases h
theorem gcons {K : PySem.W.Frag} {mg : Str → Option Value} {i : Nat} {nm0 : Str} {d0 : D} {l : List (Nat × Str × D)} (h : ∃ (u : Value) (v : L2.V), mg nm0 = some u ∧ RelV v u ∧ ∀ Sh st H, DR K Sh st H v d0) (r : AllG K mg l) : AllG K mg ((i, nm0, d0) :: l) := fun g nm d e => by
  rw [List.lookup_cons] at e
  split at e
  · cases e; exact h
  · exact r g nm d e
theorem gint2 {K : PySem.W.Frag} {h : Heap} {mg : Str → Option Value} (X : K.In h) (G : h.Ns mainGlobals mg) {nm : Str} {a : Addr} {o : Option Addr} {n : Nat} {s : Array (Option Value)} {x y : Int} {t1 t2 : Tok} (g : PySem.W.nsIn K mainGlobals nm = some (some (.ref a))) (m : K.lookup a = some ⟨.type "tuple", o, .seq #[.int x t1, .int y t2] n, s⟩) :
    ∃ (u : Value) (v : L2.V), mg nm = some u ∧ RelV v u ∧ ∀ Sh st H, DR K Sh st H v (.tup [.int x, .int y]) :=
  ⟨.ref a, .ref a, PySem.W.mg_of X G g, rfl, fun Sh st H => .tup (xs := [.int x, .int y]) (.inr ⟨_, _, n, m, rfl, rfl, (show 2 ≤ sizeLine by decide), .cons ⟨t1, rfl⟩ (.cons ⟨t2, rfl⟩ .nil)⟩) (.cons (.int x) (.cons (.int y) .nil))⟩
theorem all_mk {P : Program} {w : World} {K : PySem.W.Frag} {h : Heap} {mg : Str → Option Value} {fa C1 C2 f0 f1 f2 f3 f4 f5 f6 f7 f8 f9 f10 f11 f12 f13 f14 f15 f16 f17 f18 f19 f20 f21 f22 f23 f24 f25 f26 f27 f28 f29 f30 f31 f32 f33 f34 f35 : Addr} (X : K.In h) (G : h.Ns mainGlobals mg) (hfa : mg "law" = some (.ref fa))
    {od0 an0 : Option Addr} {sl0 : Array (Option Value)} {oc0 kV0 dc0 pm0 cd0 ct0 : Value}
    (a0 : PySem.W.nsIn K mainGlobals "is_whole" = some (some (.ref f0))) (l0 : K.lookup f0 = some ⟨oc0, od0, .func (PySem.W.fnOf "is_whole" "is_whole" (defArgs sfdIsWhole) (defBody sfdIsWhole) (defScope sfdIsWhole) .none kV0 dc0 pm0 an0 cd0 ct0), sl0⟩) (c0 : PySem.W.codeIn K cd0 "is_whole" = true) (k0 : PySem.W.keepIn K (.ref f0) = true)
    {od1 an1 : Option Addr} {sl1 : Array (Option Value)} {oc1 kV1 dc1 pm1 cd1 ct1 : Value}
    (a1 : PySem.W.nsIn K mainGlobals "is_told" = some (some (.ref f1))) (l1 : K.lookup f1 = some ⟨oc1, od1, .func (PySem.W.fnOf "is_told" "is_told" (defArgs sfdIsTold) (defBody sfdIsTold) (defScope sfdIsTold) .none kV1 dc1 pm1 an1 cd1 ct1), sl1⟩) (c1 : PySem.W.codeIn K cd1 "is_told" = true) (k1 : PySem.W.keepIn K (.ref f1) = true)
    {od2 an2 : Option Addr} {sl2 : Array (Option Value)} {oc2 kV2 dc2 pm2 cd2 ct2 : Value}
    (a2 : PySem.W.nsIn K mainGlobals "divisor" = some (some (.ref f2))) (l2 : K.lookup f2 = some ⟨oc2, od2, .func (PySem.W.fnOf "divisor" "divisor" (defArgs sfdDivisor) (defBody sfdDivisor) (defScope sfdDivisor) .none kV2 dc2 pm2 an2 cd2 ct2), sl2⟩) (c2 : PySem.W.codeIn K cd2 "divisor" = true) (k2 : PySem.W.keepIn K (.ref f2) = true)
    {od3 an3 : Option Addr} {sl3 : Array (Option Value)} {oc3 kV3 dc3 pm3 cd3 ct3 : Value}
    (a3 : PySem.W.nsIn K mainGlobals "ratio" = some (some (.ref f3))) (l3 : K.lookup f3 = some ⟨oc3, od3, .func (PySem.W.fnOf "ratio" "ratio" (defArgs sfdRatio) (defBody sfdRatio) (defScope sfdRatio) .none kV3 dc3 pm3 an3 cd3 ct3), sl3⟩) (c3 : PySem.W.codeIn K cd3 "ratio" = true) (k3 : PySem.W.keepIn K (.ref f3) = true)
    {od4 an4 : Option Addr} {sl4 : Array (Option Value)} {oc4 kV4 dc4 pm4 cd4 ct4 : Value}
    (a4 : PySem.W.nsIn K mainGlobals "plus" = some (some (.ref f4))) (l4 : K.lookup f4 = some ⟨oc4, od4, .func (PySem.W.fnOf "plus" "plus" (defArgs sfdPlus) (defBody sfdPlus) (defScope sfdPlus) .none kV4 dc4 pm4 an4 cd4 ct4), sl4⟩) (c4 : PySem.W.codeIn K cd4 "plus" = true) (k4 : PySem.W.keepIn K (.ref f4) = true)
    {od5 an5 : Option Addr} {sl5 : Array (Option Value)} {oc5 kV5 dc5 pm5 cd5 ct5 : Value}
    (a5 : PySem.W.nsIn K mainGlobals "mul" = some (some (.ref f5))) (l5 : K.lookup f5 = some ⟨oc5, od5, .func (PySem.W.fnOf "mul" "mul" (defArgs sfdMul) (defBody sfdMul) (defScope sfdMul) .none kV5 dc5 pm5 an5 cd5 ct5), sl5⟩) (c5 : PySem.W.codeIn K cd5 "mul" = true) (k5 : PySem.W.keepIn K (.ref f5) = true)
    {od6 an6 : Option Addr} {sl6 : Array (Option Value)} {oc6 kV6 dc6 pm6 cd6 ct6 : Value}
    (a6 : PySem.W.nsIn K mainGlobals "less" = some (some (.ref f6))) (l6 : K.lookup f6 = some ⟨oc6, od6, .func (PySem.W.fnOf "less" "less" (defArgs sfdLess) (defBody sfdLess) (defScope sfdLess) .none kV6 dc6 pm6 an6 cd6 ct6), sl6⟩) (c6 : PySem.W.codeIn K cd6 "less" = true) (k6 : PySem.W.keepIn K (.ref f6) = true)
    {od7 an7 : Option Addr} {sl7 : Array (Option Value)} {oc7 kV7 dc7 pm7 cd7 ct7 : Value}
    (a7 : PySem.W.nsIn K mainGlobals "whole" = some (some (.ref f7))) (l7 : K.lookup f7 = some ⟨oc7, od7, .func (PySem.W.fnOf "whole" "whole" (defArgs sfdWhole) (defBody sfdWhole) (defScope sfdWhole) .none kV7 dc7 pm7 an7 cd7 ct7), sl7⟩) (c7 : PySem.W.codeIn K cd7 "whole" = true) (k7 : PySem.W.keepIn K (.ref f7) = true)
    {od8 an8 : Option Addr} {sl8 : Array (Option Value)} {oc8 kV8 dc8 pm8 cd8 ct8 : Value}
    (a8 : PySem.W.nsIn K mainGlobals "total" = some (some (.ref f8))) (l8 : K.lookup f8 = some ⟨oc8, od8, .func (PySem.W.fnOf "total" "total" (defArgs sfdTotal) (defBody sfdTotal) (defScope sfdTotal) .none kV8 dc8 pm8 an8 cd8 ct8), sl8⟩) (c8 : PySem.W.codeIn K cd8 "total" = true) (k8 : PySem.W.keepIn K (.ref f8) = true)
    {od9 an9 : Option Addr} {sl9 : Array (Option Value)} {oc9 kV9 dc9 pm9 cd9 ct9 : Value}
    (a9 : PySem.W.nsIn K mainGlobals "is_fraction" = some (some (.ref f9))) (l9 : K.lookup f9 = some ⟨oc9, od9, .func (PySem.W.fnOf "is_fraction" "is_fraction" (defArgs sfdIsFraction) (defBody sfdIsFraction) (defScope sfdIsFraction) .none kV9 dc9 pm9 an9 cd9 ct9), sl9⟩) (c9 : PySem.W.codeIn K cd9 "is_fraction" = true) (k9 : PySem.W.keepIn K (.ref f9) = true)
    {od10 an10 : Option Addr} {sl10 : Array (Option Value)} {oc10 kV10 dc10 pm10 cd10 ct10 : Value}
    (a10 : PySem.W.nsIn K mainGlobals "are_fractions" = some (some (.ref f10))) (l10 : K.lookup f10 = some ⟨oc10, od10, .func (PySem.W.fnOf "are_fractions" "are_fractions" (defArgs sfdAreFractions) (defBody sfdAreFractions) (defScope sfdAreFractions) .none kV10 dc10 pm10 an10 cd10 ct10), sl10⟩) (c10 : PySem.W.codeIn K cd10 "are_fractions" = true) (k10 : PySem.W.keepIn K (.ref f10) = true)
    {od11 an11 : Option Addr} {sl11 : Array (Option Value)} {oc11 kV11 dc11 pm11 cd11 ct11 : Value}
    (a11 : PySem.W.nsIn K mainGlobals "check_children" = some (some (.ref f11))) (l11 : K.lookup f11 = some ⟨oc11, od11, .func (PySem.W.fnOf "check_children" "check_children" (defArgs sfdCheckChildren) (defBody sfdCheckChildren) (defScope sfdCheckChildren) .none kV11 dc11 pm11 an11 cd11 ct11), sl11⟩) (c11 : PySem.W.codeIn K cd11 "check_children" = true) (k11 : PySem.W.keepIn K (.ref f11) = true)
    {od12 an12 : Option Addr} {sl12 : Array (Option Value)} {oc12 kV12 dc12 pm12 cd12 ct12 : Value}
    (a12 : PySem.W.nsIn K mainGlobals "families" = some (some (.ref f12))) (l12 : K.lookup f12 = some ⟨oc12, od12, .func (PySem.W.fnOf "families" "families" (defArgs sfdFamilies) (defBody sfdFamilies) (defScope sfdFamilies) .none kV12 dc12 pm12 an12 cd12 ct12), sl12⟩) (c12 : PySem.W.codeIn K cd12 "families" = true) (k12 : PySem.W.keepIn K (.ref f12) = true)
    {od13 an13 : Option Addr} {sl13 : Array (Option Value)} {oc13 kV13 dc13 pm13 cd13 ct13 : Value}
    (a13 : PySem.W.nsIn K mainGlobals "value_at" = some (some (.ref f13))) (l13 : K.lookup f13 = some ⟨oc13, od13, .func (PySem.W.fnOf "value_at" "value_at" (defArgs sfdValueAt) (defBody sfdValueAt) (defScope sfdValueAt) .none kV13 dc13 pm13 an13 cd13 ct13), sl13⟩) (c13 : PySem.W.codeIn K cd13 "value_at" = true) (k13 : PySem.W.keepIn K (.ref f13) = true)
    {od14 an14 : Option Addr} {sl14 : Array (Option Value)} {oc14 kV14 dc14 pm14 cd14 ct14 : Value}
    (a14 : PySem.W.nsIn K mainGlobals "judge_families" = some (some (.ref f14))) (l14 : K.lookup f14 = some ⟨oc14, od14, .func (PySem.W.fnOf "judge_families" "judge_families" (defArgs sfdJudgeFamilies) (defBody sfdJudgeFamilies) (defScope sfdJudgeFamilies) .none kV14 dc14 pm14 an14 cd14 ct14), sl14⟩) (c14 : PySem.W.codeIn K cd14 "judge_families" = true) (k14 : PySem.W.keepIn K (.ref f14) = true)
    {od15 an15 : Option Addr} {sl15 : Array (Option Value)} {oc15 kV15 dc15 pm15 cd15 ct15 : Value}
    (a15 : PySem.W.nsIn K mainGlobals "_law_next" = some (some (.ref f15))) (l15 : K.lookup f15 = some ⟨oc15, od15, .func (PySem.W.fnOf "_law_next" "_law_next" (defArgs sfdLawNext) (defBody sfdLawNext) (defScope sfdLawNext) .none kV15 dc15 pm15 an15 cd15 ct15), sl15⟩) (c15 : PySem.W.codeIn K cd15 "_law_next" = true) (k15 : PySem.W.keepIn K (.ref f15) = true)
    {od16 an16 : Option Addr} {sl16 : Array (Option Value)} {oc16 kV16 dc16 pm16 cd16 ct16 : Value}
    (a16 : PySem.W.nsIn K mainGlobals "_law_same" = some (some (.ref f16))) (l16 : K.lookup f16 = some ⟨oc16, od16, .func (PySem.W.fnOf "_law_same" "_law_same" (defArgs sfdLawSame) (defBody sfdLawSame) (defScope sfdLawSame) .none kV16 dc16 pm16 an16 cd16 ct16), sl16⟩) (c16 : PySem.W.codeIn K cd16 "_law_same" = true) (k16 : PySem.W.keepIn K (.ref f16) = true)
    {od17 an17 : Option Addr} {sl17 : Array (Option Value)} {oc17 kV17 dc17 pm17 cd17 ct17 : Value}
    (a17 : PySem.W.nsIn K mainGlobals "_law_changed" = some (some (.ref f17))) (l17 : K.lookup f17 = some ⟨oc17, od17, .func (PySem.W.fnOf "_law_changed" "_law_changed" (defArgs sfdLawChanged) (defBody sfdLawChanged) (defScope sfdLawChanged) .none kV17 dc17 pm17 an17 cd17 ct17), sl17⟩) (c17 : PySem.W.codeIn K cd17 "_law_changed" = true) (k17 : PySem.W.keepIn K (.ref f17) = true)
    {od18 an18 : Option Addr} {sl18 : Array (Option Value)} {oc18 kV18 dc18 pm18 cd18 ct18 : Value}
    (a18 : PySem.W.nsIn K mainGlobals "_law_ints" = some (some (.ref f18))) (l18 : K.lookup f18 = some ⟨oc18, od18, .func (PySem.W.fnOf "_law_ints" "_law_ints" (defArgs sfdLawInts) (defBody sfdLawInts) (defScope sfdLawInts) .none kV18 dc18 pm18 an18 cd18 ct18), sl18⟩) (c18 : PySem.W.codeIn K cd18 "_law_ints" = true) (k18 : PySem.W.keepIn K (.ref f18) = true)
    {od19 an19 : Option Addr} {sl19 : Array (Option Value)} {oc19 kV19 dc19 pm19 cd19 ct19 : Value}
    (a19 : PySem.W.nsIn K mainGlobals "_law_exchanged" = some (some (.ref f19))) (l19 : K.lookup f19 = some ⟨oc19, od19, .func (PySem.W.fnOf "_law_exchanged" "_law_exchanged" (defArgs sfdLawExchanged) (defBody sfdLawExchanged) (defScope sfdLawExchanged) .none kV19 dc19 pm19 an19 cd19 ct19), sl19⟩) (c19 : PySem.W.codeIn K cd19 "_law_exchanged" = true) (k19 : PySem.W.keepIn K (.ref f19) = true)
    {od20 an20 : Option Addr} {sl20 : Array (Option Value)} {oc20 kV20 dc20 pm20 cd20 ct20 : Value}
    (a20 : PySem.W.nsIn K mainGlobals "_law_cut" = some (some (.ref f20))) (l20 : K.lookup f20 = some ⟨oc20, od20, .func (PySem.W.fnOf "_law_cut" "_law_cut" (defArgs sfdLawCut) (defBody sfdLawCut) (defScope sfdLawCut) .none kV20 dc20 pm20 an20 cd20 ct20), sl20⟩) (c20 : PySem.W.codeIn K cd20 "_law_cut" = true) (k20 : PySem.W.keepIn K (.ref f20) = true)
    {od21 an21 : Option Addr} {sl21 : Array (Option Value)} {oc21 kV21 dc21 pm21 cd21 ct21 : Value}
    (a21 : PySem.W.nsIn K mainGlobals "_law_turned_about" = some (some (.ref f21))) (l21 : K.lookup f21 = some ⟨oc21, od21, .func (PySem.W.fnOf "_law_turned_about" "_law_turned_about" (defArgs sfdLawTurnedAbout) (defBody sfdLawTurnedAbout) (defScope sfdLawTurnedAbout) .none kV21 dc21 pm21 an21 cd21 ct21), sl21⟩) (c21 : PySem.W.codeIn K cd21 "_law_turned_about" = true) (k21 : PySem.W.keepIn K (.ref f21) = true)
    {od22 an22 : Option Addr} {sl22 : Array (Option Value)} {oc22 kV22 dc22 pm22 cd22 ct22 : Value}
    (a22 : PySem.W.nsIn K mainGlobals "_law_odd" = some (some (.ref f22))) (l22 : K.lookup f22 = some ⟨oc22, od22, .func (PySem.W.fnOf "_law_odd" "_law_odd" (defArgs sfdLawOdd) (defBody sfdLawOdd) (defScope sfdLawOdd) .none kV22 dc22 pm22 an22 cd22 ct22), sl22⟩) (c22 : PySem.W.codeIn K cd22 "_law_odd" = true) (k22 : PySem.W.keepIn K (.ref f22) = true)
    {od23 an23 : Option Addr} {sl23 : Array (Option Value)} {oc23 kV23 dc23 pm23 cd23 ct23 : Value}
    (a23 : PySem.W.nsIn K mainGlobals "_law_gcd" = some (some (.ref f23))) (l23 : K.lookup f23 = some ⟨oc23, od23, .func (PySem.W.fnOf "_law_gcd" "_law_gcd" (defArgs sfdLawGcd) (defBody sfdLawGcd) (defScope sfdLawGcd) .none kV23 dc23 pm23 an23 cd23 ct23), sl23⟩) (c23 : PySem.W.codeIn K cd23 "_law_gcd" = true) (k23 : PySem.W.keepIn K (.ref f23) = true)
    {od24 an24 : Option Addr} {sl24 : Array (Option Value)} {oc24 kV24 dc24 pm24 cd24 ct24 : Value}
    (a24 : PySem.W.nsIn K mainGlobals "_law_of" = some (some (.ref f24))) (l24 : K.lookup f24 = some ⟨oc24, od24, .func (PySem.W.fnOf "_law_of" "_law_of" (defArgs sfdLawOf) (defBody sfdLawOf) (defScope sfdLawOf) .none kV24 dc24 pm24 an24 cd24 ct24), sl24⟩) (c24 : PySem.W.codeIn K cd24 "_law_of" = true) (k24 : PySem.W.keepIn K (.ref f24) = true)
    {od25 an25 : Option Addr} {sl25 : Array (Option Value)} {oc25 kV25 dc25 pm25 cd25 ct25 : Value}
    (a25 : PySem.W.nsIn K mainGlobals "_law_add" = some (some (.ref f25))) (l25 : K.lookup f25 = some ⟨oc25, od25, .func (PySem.W.fnOf "_law_add" "_law_add" (defArgs sfdLawAdd) (defBody sfdLawAdd) (defScope sfdLawAdd) .none kV25 dc25 pm25 an25 cd25 ct25), sl25⟩) (c25 : PySem.W.codeIn K cd25 "_law_add" = true) (k25 : PySem.W.keepIn K (.ref f25) = true)
    {od26 an26 : Option Addr} {sl26 : Array (Option Value)} {oc26 kV26 dc26 pm26 cd26 ct26 : Value}
    (a26 : PySem.W.nsIn K mainGlobals "_law_mul" = some (some (.ref f26))) (l26 : K.lookup f26 = some ⟨oc26, od26, .func (PySem.W.fnOf "_law_mul" "_law_mul" (defArgs sfdLawMul) (defBody sfdLawMul) (defScope sfdLawMul) .none kV26 dc26 pm26 an26 cd26 ct26), sl26⟩) (c26 : PySem.W.codeIn K cd26 "_law_mul" = true) (k26 : PySem.W.keepIn K (.ref f26) = true)
    {od27 an27 : Option Addr} {sl27 : Array (Option Value)} {oc27 kV27 dc27 pm27 cd27 ct27 : Value}
    (a27 : PySem.W.nsIn K mainGlobals "_law_total" = some (some (.ref f27))) (l27 : K.lookup f27 = some ⟨oc27, od27, .func (PySem.W.fnOf "_law_total" "_law_total" (defArgs sfdLawTotal) (defBody sfdLawTotal) (defScope sfdLawTotal) .none kV27 dc27 pm27 an27 cd27 ct27), sl27⟩) (c27 : PySem.W.codeIn K cd27 "_law_total" = true) (k27 : PySem.W.keepIn K (.ref f27) = true)
    {od28 an28 : Option Addr} {sl28 : Array (Option Value)} {oc28 kV28 dc28 pm28 cd28 ct28 : Value}
    (a28 : PySem.W.nsIn K mainGlobals "_law_dot" = some (some (.ref f28))) (l28 : K.lookup f28 = some ⟨oc28, od28, .func (PySem.W.fnOf "_law_dot" "_law_dot" (defArgs sfdLawDot) (defBody sfdLawDot) (defScope sfdLawDot) .none kV28 dc28 pm28 an28 cd28 ct28), sl28⟩) (c28 : PySem.W.codeIn K cd28 "_law_dot" = true) (k28 : PySem.W.keepIn K (.ref f28) = true)
    {od29 an29 : Option Addr} {sl29 : Array (Option Value)} {oc29 kV29 dc29 pm29 cd29 ct29 : Value}
    (a29 : PySem.W.nsIn K mainGlobals "_law_parts" = some (some (.ref f29))) (l29 : K.lookup f29 = some ⟨oc29, od29, .func (PySem.W.fnOf "_law_parts" "_law_parts" (defArgs sfdLawParts) (defBody sfdLawParts) (defScope sfdLawParts) .none kV29 dc29 pm29 an29 cd29 ct29), sl29⟩) (c29 : PySem.W.codeIn K cd29 "_law_parts" = true) (k29 : PySem.W.keepIn K (.ref f29) = true)
    {od30 an30 : Option Addr} {sl30 : Array (Option Value)} {oc30 kV30 dc30 pm30 cd30 ct30 : Value}
    (a30 : PySem.W.nsIn K mainGlobals "_law_sum_row" = some (some (.ref f30))) (l30 : K.lookup f30 = some ⟨oc30, od30, .func (PySem.W.fnOf "_law_sum_row" "_law_sum_row" (defArgs sfdLawSumRow) (defBody sfdLawSumRow) (defScope sfdLawSumRow) .none kV30 dc30 pm30 an30 cd30 ct30), sl30⟩) (c30 : PySem.W.codeIn K cd30 "_law_sum_row" = true) (k30 : PySem.W.keepIn K (.ref f30) = true)
    {od31 an31 : Option Addr} {sl31 : Array (Option Value)} {oc31 kV31 dc31 pm31 cd31 ct31 : Value}
    (a31 : PySem.W.nsIn K mainGlobals "_law_accepts" = some (some (.ref f31))) (l31 : K.lookup f31 = some ⟨oc31, od31, .func (PySem.W.fnOf "_law_accepts" "_law_accepts" (defArgs sfdLawAccepts) (defBody sfdLawAccepts) (defScope sfdLawAccepts) .none kV31 dc31 pm31 an31 cd31 ct31), sl31⟩) (c31 : PySem.W.codeIn K cd31 "_law_accepts" = true) (k31 : PySem.W.keepIn K (.ref f31) = true)
    {od32 an32 : Option Addr} {sl32 : Array (Option Value)} {oc32 kV32 dc32 pm32 cd32 ct32 : Value}
    (a32 : PySem.W.nsIn K mainGlobals "_law_unfit" = some (some (.ref f32))) (l32 : K.lookup f32 = some ⟨oc32, od32, .func (PySem.W.fnOf "_law_unfit" "_law_unfit" (defArgs sfdLawUnfit) (defBody sfdLawUnfit) (defScope sfdLawUnfit) .none kV32 dc32 pm32 an32 cd32 ct32), sl32⟩) (c32 : PySem.W.codeIn K cd32 "_law_unfit" = true) (k32 : PySem.W.keepIn K (.ref f32) = true)
    {od33 an33 : Option Addr} {sl33 : Array (Option Value)} {oc33 kV33 dc33 pm33 cd33 ct33 : Value}
    (a33 : PySem.W.nsIn K mainGlobals "_law_neighbour" = some (some (.ref f33))) (l33 : K.lookup f33 = some ⟨oc33, od33, .func (PySem.W.fnOf "_law_neighbour" "_law_neighbour" (defArgs sfdLawNeighbour) (defBody sfdLawNeighbour) (defScope sfdLawNeighbour) .none kV33 dc33 pm33 an33 cd33 ct33), sl33⟩) (c33 : PySem.W.codeIn K cd33 "_law_neighbour" = true) (k33 : PySem.W.keepIn K (.ref f33) = true)
    {od34 an34 : Option Addr} {sl34 : Array (Option Value)} {oc34 kV34 dc34 pm34 cd34 ct34 : Value}
    (a34 : PySem.W.nsIn K mainGlobals "_law_told_near" = some (some (.ref f34))) (l34 : K.lookup f34 = some ⟨oc34, od34, .func (PySem.W.fnOf "_law_told_near" "_law_told_near" (defArgs sfdLawToldNear) (defBody sfdLawToldNear) (defScope sfdLawToldNear) .none kV34 dc34 pm34 an34 cd34 ct34), sl34⟩) (c34 : PySem.W.codeIn K cd34 "_law_told_near" = true) (k34 : PySem.W.keepIn K (.ref f34) = true)
    {od35 an35 : Option Addr} {sl35 : Array (Option Value)} {oc35 kV35 dc35 pm35 cd35 ct35 : Value}
    (a35 : PySem.W.nsIn K mainGlobals "law" = some (some (.ref f35))) (l35 : K.lookup f35 = some ⟨oc35, od35, .func (PySem.W.fnOf "law" "law" (defArgs sfdLaw) (defBody sfdLaw) (defScope sfdLaw) .none kV35 dc35 pm35 an35 cd35 ct35), sl35⟩) (c35 : PySem.W.codeIn K cd35 "law" = true) (k35 : PySem.W.keepIn K (.ref f35) = true)
    (e1a1 : PySem.W.nsIn K mainGlobals "UnfitChance" = some (some (.ref C1)))
    (e1kp : PySem.W.keepIn K (.ref C1) = true)
    (e1sb : PySem.W.subIn K (.ref C1) (.type "BaseException") = some true)
    (e1ty : PySem.W.typeIn K (.ref C1) = some (.type "type"))
    (e1made : PySem.W.excIn K C1 [.type "ValueError", .type "Exception", .type "BaseException", .type "object"] "ValueError.__new__" = true)
    (e1hd : PySem.W.hasDictIn K C1 = true)
    (e1hg : PySem.W.findIn K (.ref C1) "__getattribute__" = some (some (.builtin "BaseException.__getattribute__")))
    (e1hk : PySem.W.findIn K (.ref C1) "__getattr__" = some none)
    (e1ha : PySem.W.findIn K (.ref C1) "__class__" = some (some (.builtin "object.__class__")))
    (e1hn : PySem.W.specialIn K (.builtin "object.__class__") "__get__" = some (some (.builtin "getset_descriptor.__get__")))
    (e1ht : PySem.W.takesIn K (.builtin "object.__class__") = some true)
    (e1hm : PySem.W.mroIn K C1 (.type "object") = some true)
    (e1ve : PySem.W.subIn K (.ref C1) (.type "ValueError") = some true)
    (e2a1 : PySem.W.nsIn K mainGlobals "TooWide" = some (some (.ref C2)))
    (e2kp : PySem.W.keepIn K (.ref C2) = true)
    (e2sb : PySem.W.subIn K (.ref C2) (.type "BaseException") = some true)
    (e2ty : PySem.W.typeIn K (.ref C2) = some (.type "type"))
    (e2made : PySem.W.excIn K C2 [.type "ValueError", .type "Exception", .type "BaseException", .type "object"] "ValueError.__new__" = true)
    (e2hd : PySem.W.hasDictIn K C2 = true)
    (e2hg : PySem.W.findIn K (.ref C2) "__getattribute__" = some (some (.builtin "BaseException.__getattribute__")))
    (e2hk : PySem.W.findIn K (.ref C2) "__getattr__" = some none)
    (e2ha : PySem.W.findIn K (.ref C2) "__class__" = some (some (.builtin "object.__class__")))
    (e2hn : PySem.W.specialIn K (.builtin "object.__class__") "__get__" = some (some (.builtin "getset_descriptor.__get__")))
    (e2ht : PySem.W.takesIn K (.builtin "object.__class__") = some true)
    (e2hm : PySem.W.mroIn K C2 (.type "object") = some true)
    (e2ve : PySem.W.subIn K (.ref C2) (.type "ValueError") = some true)
    (s11 : PySem.W.subIn K (.ref C1) (.ref C1) = some true)
    (s12 : PySem.W.subIn K (.ref C1) (.ref C2) = some false)
    (s21 : PySem.W.subIn K (.ref C2) (.ref C1) = some false)
    (s22 : PySem.W.subIn K (.ref C2) (.ref C2) = some true)
    (zisinstance : PySem.W.nsIn K mainGlobals "isinstance" = some none)
    (zlen : PySem.W.nsIn K mainGlobals "len" = some none)
    (zrange : PySem.W.nsIn K mainGlobals "range" = some none)
    (ztuple : PySem.W.nsIn K mainGlobals "tuple" = some none)
    (zint : PySem.W.nsIn K mainGlobals "int" = some none)
    (zlist : PySem.W.nsIn K mainGlobals "list" = some none)
    (zzip : PySem.W.nsIn K mainGlobals "zip" = some none)
    (zsum : PySem.W.nsIn K mainGlobals "sum" = some none)
    (zabs : PySem.W.nsIn K mainGlobals "abs" = some none)
    (zstr : PySem.W.nsIn K mainGlobals "str" = some none)
    (zenumerate : PySem.W.nsIn K mainGlobals "enumerate" = some none)
    (zmax : PySem.W.nsIn K mainGlobals "max" = some none)
    (zmin : PySem.W.nsIn K mainGlobals "min" = some none)
    (zdict : PySem.W.nsIn K mainGlobals "dict" = some none)
    (zset : PySem.W.nsIn K mainGlobals "set" = some none)
    (zsorted : PySem.W.nsIn K mainGlobals "sorted" = some none)
    (zrepr : PySem.W.nsIn K mainGlobals "repr" = some none)
    (zbool : PySem.W.nsIn K mainGlobals "bool" = some none)
    (zValueError : PySem.W.nsIn K mainGlobals "ValueError" = some none)
    {gA0 : Addr} {gO0 : Option Addr} {gN0 : Nat} {gS0 : Array (Option Value)} {gt0 gu0 : Tok} (ga0 : PySem.W.nsIn K mainGlobals "ONE" = some (some (.ref gA0))) (gm0 : K.lookup gA0 = some ⟨.type "tuple", gO0, .seq #[.int 1 gt0, .int 1 gu0] gN0, gS0⟩)
    {gA1 : Addr} {gO1 : Option Addr} {gN1 : Nat} {gS1 : Array (Option Value)} {gt1 gu1 : Tok} (ga1 : PySem.W.nsIn K mainGlobals "ZERO" = some (some (.ref gA1))) (gm1 : K.lookup gA1 = some ⟨.type "tuple", gO1, .seq #[.int 0 gt1, .int 1 gu1] gN1, gS1⟩) :
    ∃ fd : FuncData, (∀ (s : Shared) (v : Value), BindsTo s fd ⟨[v], []⟩ [("script", v)]) ∧ ∀ base : Heap, K.In base → base.Ns mainGlobals mg → FnOk P w K mg base (L2.CX P w) 23 fa fd ["script"] (spLaw 63 K) := by
  have e := hfa.symm.trans (PySem.W.mg_of X G a35)
  cases e
  have E : EX K mg (xcOf C1 C2) := ex_in X G ⟨e1a1, e1kp, e1sb, e1ty, e1made, e1hd, e1hg, e1hk, e1ha, e1hn, e1ht, e1hm, kit_sub e1ve⟩ ⟨e2a1, e2kp, e2sb, e2ty, e2made, e2hd, e2hg, e2hk, e2ha, e2hn, e2ht, e2hm, kit_sub e2ve⟩ s11 s12 s21 s22
  have bts : ∀ x ∈ bnames, mg x = none := by
    intro x hx
    simp only [bnames, List.mem_cons, List.not_mem_nil, or_false] at hx
    rcases hx with rfl | rfl | rfl | rfl | rfl | rfl | rfl | rfl | rfl | rfl | rfl | rfl | rfl | rfl | rfl | rfl | rfl | rfl | rfl
    · exact PySem.W.mg_none_of X G zisinstance
    · exact PySem.W.mg_none_of X G zlen
    · exact PySem.W.mg_none_of X G zrange
    · exact PySem.W.mg_none_of X G ztuple
    · exact PySem.W.mg_none_of X G zint
    · exact PySem.W.mg_none_of X G zlist
    · exact PySem.W.mg_none_of X G zzip
    · exact PySem.W.mg_none_of X G zsum
    · exact PySem.W.mg_none_of X G zabs
    · exact PySem.W.mg_none_of X G zstr
    · exact PySem.W.mg_none_of X G zenumerate
    · exact PySem.W.mg_none_of X G zmax
    · exact PySem.W.mg_none_of X G zmin
    · exact PySem.W.mg_none_of X G zdict
    · exact PySem.W.mg_none_of X G zset
    · exact PySem.W.mg_none_of X G zsorted
    · exact PySem.W.mg_none_of X G zrepr
    · exact PySem.W.mg_none_of X G zbool
    · exact PySem.W.mg_none_of X G zValueError
  have D0 : DefIn K mg T MP.fdIsWhole := def_in X G MP.fdIsWhole sfdIsWhole a0 l0 c0 k0 (fun _ _ _ _ _ _ us hl => match us, hl with | [_], _ => rfl) cfdIsWhole
  have D1 : DefIn K mg T MP.fdIsTold := def_in X G MP.fdIsTold sfdIsTold a1 l1 c1 k1 (fun _ _ _ _ _ _ us hl => match us, hl with | [_, _, _], _ => rfl) cfdIsTold
  have D2 : DefIn K mg T MP.fdDivisor := def_in X G MP.fdDivisor sfdDivisor a2 l2 c2 k2 (fun _ _ _ _ _ _ us hl => match us, hl with | [_, _], _ => rfl) cfdDivisor
  have D3 : DefIn K mg T MP.fdRatio := def_in X G MP.fdRatio sfdRatio a3 l3 c3 k3 (fun _ _ _ _ _ _ us hl => match us, hl with | [_, _], _ => rfl) cfdRatio
  have D4 : DefIn K mg T MP.fdPlus := def_in X G MP.fdPlus sfdPlus a4 l4 c4 k4 (fun _ _ _ _ _ _ us hl => match us, hl with | [_, _], _ => rfl) cfdPlus
  have D5 : DefIn K mg T MP.fdMul := def_in X G MP.fdMul sfdMul a5 l5 c5 k5 (fun _ _ _ _ _ _ us hl => match us, hl with | [_, _], _ => rfl) cfdMul
  have D6 : DefIn K mg T MP.fdLess := def_in X G MP.fdLess sfdLess a6 l6 c6 k6 (fun _ _ _ _ _ _ us hl => match us, hl with | [_, _], _ => rfl) cfdLess
  have D7 : DefIn K mg T MP.fdWhole := def_in X G MP.fdWhole sfdWhole a7 l7 c7 k7 (fun _ _ _ _ _ _ us hl => match us, hl with | [_], _ => rfl) cfdWhole
  have D8 : DefIn K mg T MP.fdTotal := def_in X G MP.fdTotal sfdTotal a8 l8 c8 k8 (fun _ _ _ _ _ _ us hl => match us, hl with | [_], _ => rfl) cfdTotal
  have D9 : DefIn K mg T MP.fdIsFraction := def_in X G MP.fdIsFraction sfdIsFraction a9 l9 c9 k9 (fun _ _ _ _ _ _ us hl => match us, hl with | [_], _ => rfl) cfdIsFraction
  have D10 : DefIn K mg T MP.fdAreFractions := def_in X G MP.fdAreFractions sfdAreFractions a10 l10 c10 k10 (fun _ _ _ _ _ _ us hl => match us, hl with | [_, _], _ => rfl) cfdAreFractions
  have D11 : DefIn K mg T MP.fdCheckChildren := def_in X G MP.fdCheckChildren sfdCheckChildren a11 l11 c11 k11 (fun _ _ _ _ _ _ us hl => match us, hl with | [_], _ => rfl) cfdCheckChildren
  have D12 : DefIn K mg T fdFamilies := def_in X G fdFamilies sfdFamilies a12 l12 c12 k12 (fun _ _ _ _ _ _ us hl => match us, hl with | [_, _], _ => rfl) cfdFamilies
  have D13 : DefIn K mg T MP.fdValueAt := def_in X G MP.fdValueAt sfdValueAt a13 l13 c13 k13 (fun _ _ _ _ _ _ us hl => match us, hl with | [_, _], _ => rfl) cfdValueAt
  have D14 : DefIn K mg T fdJudgeFamilies := def_in X G fdJudgeFamilies sfdJudgeFamilies a14 l14 c14 k14 (fun _ _ _ _ _ _ us hl => match us, hl with | [_, _, _], _ => rfl) cfdJudgeFamilies
  have D16 : DefIn K mg T MP.fdLawSame := def_in X G MP.fdLawSame sfdLawSame a16 l16 c16 k16 (fun _ _ _ _ _ _ us hl => match us, hl with | [_, _], _ => rfl) cfdLawSame
  have D17 : DefIn K mg T MP.fdLawChanged := def_in X G MP.fdLawChanged sfdLawChanged a17 l17 c17 k17 (fun _ _ _ _ _ _ us hl => match us, hl with | [_, _], _ => rfl) cfdLawChanged
  have D18 : DefIn K mg T MP.fdLawInts := def_in X G MP.fdLawInts sfdLawInts a18 l18 c18 k18 (fun _ _ _ _ _ _ us hl => match us, hl with | [_], _ => rfl) cfdLawInts
  have D19 : DefIn K mg T MP.fdLawExchanged := def_in X G MP.fdLawExchanged sfdLawExchanged a19 l19 c19 k19 (fun _ _ _ _ _ _ us hl => match us, hl with | [_, _, _], _ => rfl) cfdLawExchanged
  have D20 : DefIn K mg T MP.fdLawCut := def_in X G MP.fdLawCut sfdLawCut a20 l20 c20 k20 (fun _ _ _ _ _ _ us hl => match us, hl with | [_, _], _ => rfl) cfdLawCut
  have D21 : DefIn K mg T MP.fdLawTurnedAbout := def_in X G MP.fdLawTurnedAbout sfdLawTurnedAbout a21 l21 c21 k21 (fun _ _ _ _ _ _ us hl => match us, hl with | [_, _], _ => rfl) cfdLawTurnedAbout
  have D22 : DefIn K mg T MP.fdLawOdd := def_in X G MP.fdLawOdd sfdLawOdd a22 l22 c22 k22 (fun _ _ _ _ _ _ us hl => match us, hl with | [_, _], _ => rfl) cfdLawOdd
  have D23 : DefIn K mg T MP.fdLawGcd := def_in X G MP.fdLawGcd sfdLawGcd a23 l23 c23 k23 (fun _ _ _ _ _ _ us hl => match us, hl with | [_, _], _ => rfl) cfdLawGcd
  have D24 : DefIn K mg T MP.fdLawOf := def_in X G MP.fdLawOf sfdLawOf a24 l24 c24 k24 (fun _ _ _ _ _ _ us hl => match us, hl with | [_, _], _ => rfl) cfdLawOf
  have D25 : DefIn K mg T MP.fdLawAdd := def_in X G MP.fdLawAdd sfdLawAdd a25 l25 c25 k25 (fun _ _ _ _ _ _ us hl => match us, hl with | [_, _], _ => rfl) cfdLawAdd
  have D26 : DefIn K mg T MP.fdLawMul := def_in X G MP.fdLawMul sfdLawMul a26 l26 c26 k26 (fun _ _ _ _ _ _ us hl => match us, hl with | [_, _], _ => rfl) cfdLawMul
  have D27 : DefIn K mg T fdLawTotal := def_in X G fdLawTotal sfdLawTotal a27 l27 c27 k27 (fun _ _ _ _ _ _ us hl => match us, hl with | [_], _ => rfl) cfdLawTotal
  have D28 : DefIn K mg T MP.fdLawDot := def_in X G MP.fdLawDot sfdLawDot a28 l28 c28 k28 (fun _ _ _ _ _ _ us hl => match us, hl with | [_, _], _ => rfl) cfdLawDot
  have D29 : DefIn K mg T MP.fdLawParts := def_in X G MP.fdLawParts sfdLawParts a29 l29 c29 k29 (fun _ _ _ _ _ _ us hl => match us, hl with | [_, _, _], _ => rfl) cfdLawParts
  have D30 : DefIn K mg T MP.fdLawSumRow := def_in X G MP.fdLawSumRow sfdLawSumRow a30 l30 c30 k30 (fun _ _ _ _ _ _ us hl => match us, hl with | [_, _], _ => rfl) cfdLawSumRow
  have D31 : DefIn K mg T fdLawAccepts := def_in X G fdLawAccepts sfdLawAccepts a31 l31 c31 k31 (fun _ _ _ _ _ _ us hl => match us, hl with | [_, _, _], _ => rfl) cfdLawAccepts
  have D32 : DefIn K mg T fdLawUnfit := def_in X G fdLawUnfit sfdLawUnfit a32 l32 c32 k32 (fun _ _ _ _ _ _ us hl => match us, hl with | [_, _], _ => rfl) cfdLawUnfit
  have D33 : DefIn K mg T MP.fdLawNeighbour := def_in X G MP.fdLawNeighbour sfdLawNeighbour a33 l33 c33 k33 (fun _ _ _ _ _ _ us hl => match us, hl with | [_, _], _ => rfl) cfdLawNeighbour
  have D34 : DefIn K mg T fdLawToldNear := def_in X G fdLawToldNear sfdLawToldNear a34 l34 c34 k34 (fun _ _ _ _ _ _ us hl => match us, hl with | [_, _, _], _ => rfl) cfdLawToldNear
  have FN := fun_mk (st := sfdLawNext) l15 c15 k15
  have bN := FN.binds (ps := ["state", "limit"]) fun _ _ _ _ _ _ us hl => match us, hl with | [_, _], _ => rfl
  have FL := fun_mk (st := sfdLaw) l35 c35 k35
  have hN := cNext
  unfold chkD at hN
  simp only [Bool.and_eq_true, decide_eq_true_eq] at hN
  have hL := cLaw
  simp only [Bool.and_eq_true] at hL
  obtain ⟨⟨⟨⟨q1, q2⟩, q3⟩, q4⟩, q5⟩ := hL
  refine ⟨PySem.W.fnOf "law" "law" (defArgs sfdLaw) (defBody sfdLaw) (defScope sfdLaw) .none kV35 dc35 pm35 an35 cd35 ct35, fun s v => .of_eq rfl, fun base _ _ => ?_⟩
  have TXx : TX P w K mg base (xcOf C1 C2) T := by
    refine ⟨E, fun f fd _ hf => all_defs (show AllD K mg T T.fns from dcons D0 (dcons D1 (dcons D2 (dcons D3 (dcons D4 (dcons D5 (dcons D6 (dcons D7 (dcons D8 (dcons D9 (dcons D10 (dcons D11 (dcons D12 (dcons D13 (dcons D14 (dcons D16 (dcons D17 (dcons D18 (dcons D19 (dcons D20 (dcons D21 (dcons D22 (dcons D23 (dcons D24 (dcons D25 (dcons D26 (dcons D27 (dcons D28 (dcons D29 (dcons D30 (dcons D31 (dcons D32 (dcons D33 (dcons D34 (dnil))))))))))))))))))))))))))))))))))) f fd hf, (show AllG K mg T.gls from gcons (gint2 X G ga0 gm0) (gcons (gint2 X G ga1 gm1) (gnil))), bts, ⟨f15, _, _, PySem.W.mg_of X G a15, k15, bN, fun n => next_ok E bts FN (PySem.W.mg_of X G a15) k15 bN (okSc_by hN.1.1) hN.1.2 (n + 1)⟩⟩
  exact law_ok TXx FL (okSc_by q1) rfl rfl (rest := (defBody sfdLaw).drop 1) (by rfl) q2 q3 q4 q5 (fun ns _ => law_run ns)
end MP.K76
open PySem PySem.W PyProof.Rows
set_option maxHeartbeats 0 in
theorem PySem.Challenge.cw_chancewhole_k76_families_that_end_holds : PySem.Challenge.rw_chancewhole_k76_families_that_end.Holds := by
  w_on; o_law; k_head; (case hw => w_witness2)
  k_fill
  refine L2.walk_of (l := PySem.Challenge.rw_chancewhole_k76_families_that_end) (n := 63) (k := 23) (x := "script") (CX := fun w => L2.CX PySem.Challenge.rw_chancewhole_k76_families_that_end.prog w) (sp := fun w => MP.spLaw 63 _) rfl (by decide) rfl ⟨rfl, by decide, by decide⟩ (fun w h Y => PySem.W.kIn_of Y) ?F (fun _ _ a ns hl _ hS => ⟨a, ns, rfl, hS, hl, fun _ => rfl⟩) ?Z
  case F =>
    intro w mg fa h KX G hmg
    refine' MP.K76.all_mk KX G hmg ?a0 ?l0 ?c0 ?k0 ?a1 ?l1 ?c1 ?k1 ?a2 ?l2 ?c2 ?k2 ?a3 ?l3 ?c3 ?k3 ?a4 ?l4 ?c4 ?k4 ?a5 ?l5 ?c5 ?k5 ?a6 ?l6 ?c6 ?k6 ?a7 ?l7 ?c7 ?k7 ?a8 ?l8 ?c8 ?k8 ?a9 ?l9 ?c9 ?k9 ?a10 ?l10 ?c10 ?k10 ?a11 ?l11 ?c11 ?k11 ?a12 ?l12 ?c12 ?k12 ?a13 ?l13 ?c13 ?k13 ?a14 ?l14 ?c14 ?k14 ?a15 ?l15 ?c15 ?k15 ?a16 ?l16 ?c16 ?k16 ?a17 ?l17 ?c17 ?k17 ?a18 ?l18 ?c18 ?k18 ?a19 ?l19 ?c19 ?k19 ?a20 ?l20 ?c20 ?k20 ?a21 ?l21 ?c21 ?k21 ?a22 ?l22 ?c22 ?k22 ?a23 ?l23 ?c23 ?k23 ?a24 ?l24 ?c24 ?k24 ?a25 ?l25 ?c25 ?k25 ?a26 ?l26 ?c26 ?k26 ?a27 ?l27 ?c27 ?k27 ?a28 ?l28 ?c28 ?k28 ?a29 ?l29 ?c29 ?k29 ?a30 ?l30 ?c30 ?k30 ?a31 ?l31 ?c31 ?k31 ?a32 ?l32 ?c32 ?k32 ?a33 ?l33 ?c33 ?k33 ?a34 ?l34 ?c34 ?k34 ?a35 ?l35 ?c35 ?k35 ?e1a1 ?e1kp ?e1sb ?e1ty ?e1made ?e1hd ?e1hg ?e1hk ?e1ha ?e1hn ?e1ht ?e1hm ?e1ve ?e2a1 ?e2kp ?e2sb ?e2ty ?e2made ?e2hd ?e2hg ?e2hk ?e2ha ?e2hn ?e2ht ?e2hm ?e2ve ?s11 ?s12 ?s21 ?s22 ?zisinstance ?zlen ?zrange ?ztuple ?zint ?zlist ?zzip ?zsum ?zabs ?zstr ?zenumerate ?zmax ?zmin ?zdict ?zset ?zsorted ?zrepr ?zbool ?zValueError ?ga0 ?gm0 ?ga1 ?gm1
    (case a0 => k_is)
    (case l0 => k_is)
    (case c0 => k_is)
    (case k0 => k_is)
    (case a1 => k_is)
    (case l1 => k_is)
    (case c1 => k_is)
    (case k1 => k_is)
    (case a2 => k_is)
    (case l2 => k_is)
    (case c2 => k_is)
    (case k2 => k_is)
    (case a3 => k_is)
    (case l3 => k_is)
    (case c3 => k_is)
    (case k3 => k_is)
    (case a4 => k_is)
    (case l4 => k_is)
    (case c4 => k_is)
    (case k4 => k_is)
    (case a5 => k_is)
    (case l5 => k_is)
    (case c5 => k_is)
    (case k5 => k_is)
    (case a6 => k_is)
    (case l6 => k_is)
    (case c6 => k_is)
    (case k6 => k_is)
    (case a7 => k_is)
    (case l7 => k_is)
    (case c7 => k_is)
    (case k7 => k_is)
    (case a8 => k_is)
    (case l8 => k_is)
    (case c8 => k_is)
    (case k8 => k_is)
    (case a9 => k_is)
    (case l9 => k_is)
    (case c9 => k_is)
    (case k9 => k_is)
    (case a10 => k_is)
    (case l10 => k_is)
    (case c10 => k_is)
    (case k10 => k_is)
    (case a11 => k_is)
    (case l11 => k_is)
    (case c11 => k_is)
    (case k11 => k_is)
    (case a12 => k_is)
    (case l12 => k_is)
    (case c12 => k_is)
    (case k12 => k_is)
    (case a13 => k_is)
    (case l13 => k_is)
    (case c13 => k_is)
    (case k13 => k_is)
    (case a14 => k_is)
    (case l14 => k_is)
    (case c14 => k_is)
    (case k14 => k_is)
    (case a15 => k_is)
    (case l15 => k_is)
    (case c15 => k_is)
    (case k15 => k_is)
    (case a16 => k_is)
    (case l16 => k_is)
    (case c16 => k_is)
    (case k16 => k_is)
    (case a17 => k_is)
    (case l17 => k_is)
    (case c17 => k_is)
    (case k17 => k_is)
    (case a18 => k_is)
    (case l18 => k_is)
    (case c18 => k_is)
    (case k18 => k_is)
    (case a19 => k_is)
    (case l19 => k_is)
    (case c19 => k_is)
    (case k19 => k_is)
    (case a20 => k_is)
    (case l20 => k_is)
    (case c20 => k_is)
    (case k20 => k_is)
    (case a21 => k_is)
    (case l21 => k_is)
    (case c21 => k_is)
    (case k21 => k_is)
    (case a22 => k_is)
    (case l22 => k_is)
    (case c22 => k_is)
    (case k22 => k_is)
    (case a23 => k_is)
    (case l23 => k_is)
    (case c23 => k_is)
    (case k23 => k_is)
    (case a24 => k_is)
    (case l24 => k_is)
    (case c24 => k_is)
    (case k24 => k_is)
    (case a25 => k_is)
    (case l25 => k_is)
    (case c25 => k_is)
    (case k25 => k_is)
    (case a26 => k_is)
    (case l26 => k_is)
    (case c26 => k_is)
    (case k26 => k_is)
    (case a27 => k_is)
    (case l27 => k_is)
    (case c27 => k_is)
    (case k27 => k_is)
    (case a28 => k_is)
    (case l28 => k_is)
    (case c28 => k_is)
    (case k28 => k_is)
    (case a29 => k_is)
    (case l29 => k_is)
    (case c29 => k_is)
    (case k29 => k_is)
    (case a30 => k_is)
    (case l30 => k_is)
    (case c30 => k_is)
    (case k30 => k_is)
    (case a31 => k_is)
    (case l31 => k_is)
    (case c31 => k_is)
    (case k31 => k_is)
    (case a32 => k_is)
    (case l32 => k_is)
    (case c32 => k_is)
    (case k32 => k_is)
    (case a33 => k_is)
    (case l33 => k_is)
    (case c33 => k_is)
    (case k33 => k_is)
    (case a34 => k_is)
    (case l34 => k_is)
    (case c34 => k_is)
    (case k34 => k_is)
    (case a35 => k_is)
    (case l35 => k_is)
    (case c35 => k_is)
    (case k35 => k_is)
    (case e1a1 => k_is)
    (case e1kp => k_is)
    (case e1sb => k_is)
    (case e1ty => k_is)
    (case e1made => k_exc)
    (case e1hd => k_is)
    (case e1hg => k_is)
    (case e1hk => k_is)
    (case e1ha => k_is)
    (case e1hn => k_is)
    (case e1ht => k_is)
    (case e1hm => k_is)
    (case e1ve => k_is)
    (case e2a1 => k_is)
    (case e2kp => k_is)
    (case e2sb => k_is)
    (case e2ty => k_is)
    (case e2made => k_exc)
    (case e2hd => k_is)
    (case e2hg => k_is)
    (case e2hk => k_is)
    (case e2ha => k_is)
    (case e2hn => k_is)
    (case e2ht => k_is)
    (case e2hm => k_is)
    (case e2ve => k_is)
    (case s11 => first | rfl | k_is)
    (case s12 => first | rfl | k_is)
    (case s21 => first | rfl | k_is)
    (case s22 => first | rfl | k_is)
    (case zisinstance => k_is)
    (case zlen => k_is)
    (case zrange => k_is)
    (case ztuple => k_is)
    (case zint => k_is)
    (case zlist => k_is)
    (case zzip => k_is)
    (case zsum => k_is)
    (case zabs => k_is)
    (case zstr => k_is)
    (case zenumerate => k_is)
    (case zmax => k_is)
    (case zmin => k_is)
    (case zdict => k_is)
    (case zset => k_is)
    (case zsorted => k_is)
    (case zrepr => k_is)
    (case zbool => k_is)
    (case zValueError => k_is)
    (case ga0 => k_is)
    (case gm0 => k_is)
    (case ga1 => k_is)
    (case gm1 => k_is)
  case Z => exact fun w H s e s1 ⟨_, _, _, _, _, _, _, _, _, _, _, _, h⟩ => h
