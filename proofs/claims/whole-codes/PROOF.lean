import PyProof.Rows.All
import Wide.All
import OpenK.AllK
import Wide.FinOn
import HandS.ForMost
import HandS.Zip
import KE.GoesEnum
import HandS.SortOrd
import HandS.SortKw
import KE.SortData
import PyProof.ReprRoads
import PyProof.ListMulRoad
import PyProof.FactsAll.tuple_2
import HandS.Sort
import HandS.TupMul
import HandS.EndBits
import HandS.Walk
import HandS.Star
import HandS.Deep
import HandS.IsInst
import HandS.Style
import HandS.TupAny
import HandS.Evl
import PySem.Challenge.RW_codenests_k18_whole_codes_by_themselves
set_option Elab.async false
namespace Cn
/-! ### the mirror: what each def computes, over plain lists; none where the program would stop -/
abbrev Row := List Nat
abbrev Code := List (List Nat)
def mapO {α β : Type} (f : α → Option β) : List α → Option (List β)
  | [] => some []
  | x :: l => match f x with
    | none => none
    | some y => match mapO f l with
      | none => none
      | some r => some (y :: r)
def foldO {α β : Type} (f : β → α → Option β) : β → List α → Option β
  | b, [] => some b
  | b, x :: l => match f b x with
    | none => none
    | some c => foldO f c l
def addE (p a b : Nat) : Nat := (a + b) % p
def subE (p a b : Nat) : Nat := if b ≤ p then (a + (p - b)) % p else (((a : Int) - b) % (p : Int)).toNat
def zero (n : Nat) : Row := List.replicate n 0
def added (p : Nat) (a b : Row) : Row := List.zipWith (addE p) a b
def subd (p : Nat) (a b : Row) : Row := List.zipWith (subE p) a b
def scaled (p k : Nat) (r : Row) : Row := r.map fun e => (k * e) % p
def pivotFrom : Nat → Row → Option Nat
  | _, [] => none
  | i, e :: r => if e = 0 then pivotFrom (i + 1) r else some i
def pivot (r : Row) : Option Nat := pivotFrom 0 r
def inv (p x : Nat) : Option Nat := (List.range' 1 (p - 1)).find? fun o => x * o % p == 1
def small (e : Nat) : Option Nat := if e < 1000 then some e else none
def getE (r : Row) (c : Nat) : Option Nat := (r[c]?).bind small
/-- left without own's multiple -/
def off (p : Nat) (left own : Row) : Option Row := (pivot own).bind fun c => (getE left c).bind fun e => some (subd p left (scaled p e own))
def without (p : Nat) (row : Row) (base : List Row) : Option Row := foldO (off p) row base
def step (p : Nat) (found : List Row) (row : Row) : Option (List Row) :=
  (without p row found).bind fun left => match pivot left with
    | none => some found
    | some c => (getE left c).bind fun e => (inv p e).bind fun i => (mapO (fun own => off p own (scaled p i left)) found).bind fun f =>
      match pivot (scaled p i left) with
      | none => none
      | some _ => some (f ++ [scaled p i left])
def rowLe : Row → Row → Bool
  | [], _ => true
  | _ :: _, [] => false
  | a :: r, b :: s => if a = b then rowLe r s else decide (a < b)
def insR (x : Row) : List Row → List Row
  | [] => [x]
  | y :: l => if rowLe y x then x :: y :: l else y :: insR x l
def sortDown (l : List Row) : List Row := l.foldr insR []
def reduced (p : Nat) (rows : List Row) : Option Code := (foldO (step p) [] rows).bind fun f => some (sortDown f)
def isIn (p n : Nat) (code : Code) (row : Row) : Option Bool := (without p row code).bind fun r => some (decide (r = zero n))
def isWithin (p n : Nat) (one other : Code) : Option Bool := (mapO (isIn p n other) one).bind fun bs => some (bs.all id)
def gaussA (p n : Nat) : Nat → Nat
  | 0 => 1
  | k + 1 => gaussA p n k * (p ^ (n - k) - 1)
def gaussB (p : Nat) : Nat → Nat
  | 0 => 1
  | k + 1 => gaussB p k * (p ^ (k + 1) - 1)
def gauss (p n rank : Nat) : Nat := if rank > n then 0 else gaussA p n rank / gaussB p rank
def manyBehind (p n column chosen left : Nat) : Nat :=
  if left > n - column then 0 else p ^ (chosen * (n - column - left)) * gauss p (n - column) left
structure PvSt where
  cs : List Nat
  f : Nat
  l : Nat
def pvStep (p n rank : Nat) (s : PvSt) (c : Nat) : PvSt :=
  if s.l < (if s.cs.length = rank then 0 else s.f * manyBehind p n (c + 1) (s.cs.length + 1) (rank - s.cs.length - 1)) then ⟨s.cs ++ [c], s.f, s.l⟩
  else ⟨s.cs, s.f * p ^ s.cs.length, s.l - (if s.cs.length = rank then 0 else s.f * manyBehind p n (c + 1) (s.cs.length + 1) (rank - s.cs.length - 1))⟩
def pivotsAt (p n rank number : Nat) : PvSt := (List.range n).foldl (pvStep p n rank) ⟨[], 1, number⟩
def freeOf (n : Nat) (cs : List Nat) (k : Nat) : List Nat := (List.range' (cs.getD k 0 + 1) (n - (cs.getD k 0 + 1))).filter fun c => !cs.contains c
def freePlaces (n : Nat) (cs : List Nat) : List (Nat × Nat) := (List.range cs.length).flatMap fun k => (freeOf n cs k).map fun c => (k, c)
def unit (n k : Nat) : Row := (List.range n).map fun c => if k = c then 1 else 0
def fillStep (p : Nat) (s : List Row × Nat) (kc : Nat × Nat) : List Row × Nat := (s.1.set kc.1 ((s.1.getD kc.1 []).set kc.2 (s.2 % p)), s.2 / p)
def codeAt (p n rank number : Nat) : Code :=
  ((freePlaces n (pivotsAt p n rank number).cs).reverse.foldl (fillStep p) ((pivotsAt p n rank number).cs.map (unit n), (pivotsAt p n rank number).l)).1
def allCodes (p n rank : Nat) : List Code := (List.range (gauss p n rank)).map (codeAt p n rank)
def every (p n : Nat) : List Code := (List.range (n + 1)).flatMap (allCodes p n)
def common (p n : Nat) (one other : Code) : Option Code :=
  (reduced p (one.map (fun r => r ++ r) ++ other.map (fun r => r ++ zero n))).bind fun red => (mapO pivot red).bind fun _ =>
    reduced p ((red.filter fun r => decide (n ≤ (pivot r).getD 0)).map (List.drop n))
def joined (p : Nat) (one other : Code) : Option Code := reduced p (one ++ other)
def complement (n : Nat) (code : Code) : Option Code := (mapO pivot code).bind fun known => some (((List.range n).filter fun c => !known.contains c).map (unit n))
def combStep (p : Nat) (f : Row) (kr : Nat × Row) : Option Row := (small kr.1).bind fun k => some (added p f (scaled p k kr.2))
def combined (p n : Nat) (numbers : Row) (rows : List Row) : Option Row := foldO (combStep p) (zero n) (numbers.zip rows)
def codeLe : Code → Code → Bool
  | [], _ => true
  | _ :: _, [] => false
  | a :: r, b :: s => if a = b then codeLe r s else rowLe a b
def insC (x : Code) : List Code → List Code
  | [] => [x]
  | y :: l => if codeLe x y then x :: y :: l else y :: insC x l
def sortUp (l : List Code) : List Code := l.foldr insC []
def lift (p n : Nat) (low : Code) (base : List Row) (code : Code) : Option Code := (mapO (fun ns => combined p n ns base) code).bind fun cs => reduced p (low ++ cs)
def baseOf (p : Nat) (low high : Code) : Option Code := (mapO (fun r => without p r low) high).bind (reduced p)
def codesOfRank (p n : Nat) (low high : Code) (more : Nat) : Option (List Code) :=
  (baseOf p low high).bind fun base => (mapO (lift p n low base) (allCodes p base.length more)).bind fun l => some (sortUp l)
def allBetween (p n : Nat) (low high : Code) : Option (List Code) :=
  (mapO (codesOfRank p n low high) (List.range (high.length + 1 - low.length))).bind fun l => some l.flatten
def countBetween (p n : Nat) (low high : Code) (rank : Nat) : Option Nat :=
  (isWithin p n low high).bind fun b => some (if b = true then (if rank < low.length then 0 else gauss p (high.length - low.length) (rank - low.length)) else 0)
end Cn

set_option Elab.async false
set_option linter.all false
set_option maxRecDepth 100000
set_option maxHeartbeats 4000000
namespace XR
open PySem PySem.Spec PyProof.Rows L2
/-! enumerate over a tuple -/
theorem enumNew1 {v : Value} {o : Obj} {H : Heap → Prop} (B : Begins v o H) :
    Meets (Builtin.«enumerate.__new__» ⟨[.type "enumerate", v], []⟩) (fun _ R s => H s.heap ∧
      R (.ok (.ret (.ref (s.heap.push o).objs.size)))
        { s with heap := (s.heap.push o).push { cls := .type "enumerate", data := .fields #[.none, .bool false, .ref s.heap.objs.size, rawInt 0, .none, .none] } }) :=
  .of_wp fun prog w A R s hh => by
    obtain ⟨hp, gn, dr, tk, os⟩ := s
    obtain ⟨hv, hR⟩ := hh
    have hs := sub_enumerate
    have qi : ∀ {A' : Around} {E : Value → Shared → Prop} {Q : Value → Shared → Prop}, Q (.ref hp.objs.size) ⟨hp.push o, gn, dr, tk, os⟩ → wpAny (model prog w) A' (pyIter v) Q E ⟨hp, gn, dr, tk, os⟩ := fun q =>
      B.iter prog w _ _ ⟨hp, gn, dr, tk, os⟩ _ hv q
    wp_walk using qi
    refine wpAny_stack_any fun st => wpAny_pure ?_
    split
    · rename_i c _ _ _ _ _
      cases (c == Value.type "enumerate") <;> (wp_walk using qi; exact ⟨_, rfl, hR⟩)
    · wp_walk using qi
      exact ⟨_, rfl, hR⟩
section
variable {prog : Program} {w : World} {A : Around} {E : Value → Shared → Prop} {s : Shared}
theorem enum1 {v : Value} {o : Obj} {H : Heap → Prop} {Q : Value → Shared → Prop} (B : Begins v o H) (hv : H s.heap)
    (h : ∀ h', IsEnum h' (s.heap.objs.size + 1) s.heap.objs.size 0 .none → h'.get? s.heap.objs.size = some o →
      (∀ b ob, s.heap.get? b = some ob → h'.get? b = some ob) → Q (.ref (s.heap.objs.size + 1)) { s with heap := h' }) :
    wpAny (model prog w) A (call (.type "enumerate") [v]) Q E s := by
  refine callType_new F.called_enumerate (by decide) (F.typeCall_enumerate_1 v) (F.newCall_enumerate_1 v) (fun ob => F.args_object_init_2 ob v) F.entry_enumerate_new (enumNew1 B) ⟨hv, ?_⟩
  have hz : (s.heap.push o).objs.size = s.heap.objs.size + 1 := Heap.size_push ..
  show _ ∧ _
  rw [hz]
  have he : IsEnum ((s.heap.push o).push { cls := .type "enumerate", data := .fields #[.none, .bool false, .ref s.heap.objs.size, rawInt 0, .none, .none] }) (s.heap.objs.size + 1) s.heap.objs.size 0 .none := by
    have t := Heap.get?_push_size (s.heap.push o) (o := { cls := .type "enumerate", data := .fields #[.none, .bool false, .ref s.heap.objs.size, rawInt 0, .none, .none] }) rfl
    rw [hz] at t
    exact t
  exact ⟨⟨_, he, rfl⟩, h _ he (Heap.get?_push_of_some _ (Heap.get?_push_size _ B.free)) fun b ob x => Heap.get?_push_of_some _ (Heap.get?_push_of_some _ x)⟩
end
/-- a tuple's iterator that stands behind the last item -/
theorem drawsEnd {prog : Program} {w : World} {A : Around} (hh : A.handled = none) (it a i : Addr) (its : Array Value) (hi : its.size ≤ i) :
    Draws prog w A it [it, a] i (fun _ _ => True) (fun j h => j = i ∧ h.IsTupleIter it a j ∧ h.IsTuple a its) where
  live := fun _ _ st => by
    obtain ⟨_, ⟨o, ho, _⟩, _⟩ := st
    exact ⟨o, ho⟩
  frame := fun _ _ _ st hk => ⟨st.1, st.2.1.at fun o e => hk it (by simp) o e, st.2.2.at fun o e => hk a (by simp) o e⟩
  item := fun j s Q E hj st _ => absurd st.1 (Nat.ne_of_lt hj)
  done := fun s Q E st hE => wpAny_nextOf_tuple_end hh st.2.1 st.2.2 (Array.getElem?_eq_none hi) hE
/-- the tuple at a as it stands at each turn, each item in a new pair -/
def IteT (K : PySem.W.Frag) (a : Addr) : It where
  go i H := ∃ (xs : List V) (x : V), SqT K H a xs ∧ xs[i]? = some x
  yld i H v H' := ∃ T x, v = .ref T ∧ H T = none ∧ H' = upd H T (.tup [.int (i : Nat), x]) ∧ ∀ xs, SqT K H a xs → xs[i]? = some x
  stop i H := ∃ xs : List V, SqT K H a xs ∧ xs.length ≤ i
theorem turn_enumT {P : Program} {w : World} {K : PySem.W.Frag} {elts : List Expr} {kk : Nat} {tpos : Pos} (a e it : Addr) :
    Turn P w K (.Tuple elts kk tpos) (IteT K a) [e, it] e (fun i h => (∃ old, IsEnum h e it ((i : Nat) : Int) old) ∧ h.IsTupleIter it a i ∧ e ≠ it ∧ a ≠ it ∧ a ≠ e) where
  mem := List.mem_cons_self
  obj := fun i h st b hb => by
    obtain ⟨⟨old, he⟩, ⟨o, ho, hc, hd⟩, _⟩ := st
    rcases (show b = e ∨ b = it by simpa using hb) with z | z
    · subst z
      exact ⟨_, he, fun v q => nomatch q⟩
    · subst z
      exact ⟨o, ho, fun v q => by rw [hd] at q; cases q⟩
  keep := fun i h h' st k => by
    obtain ⟨⟨old, he⟩, hi, r⟩ := st
    exact ⟨⟨old, k e (by simp) _ he⟩, hi.at fun o q => k it (by simp) o q, r⟩
  item := by
    intro X hP hw hK hc i pins s σ H E I hf st hg
    subst hP hw hK
    obtain ⟨⟨old, he⟩, hit, hne, hai, hae⟩ := st
    obtain ⟨xs, x, hq, hx⟩ := hg
    obtain ⟨its, rv, p, hz⟩ := I.tuple hq
    obtain ⟨u, hu, ru⟩ := rv.get hx
    have hel : e < s.heap.objs.size := Heap.lt_size he
    have hil : it < s.heap.objs.size := by
      obtain ⟨_, q, _⟩ := hit
      exact Heap.lt_size q
    have hlt : i < its.toArray.size := by
      have := (List.getElem?_eq_some_iff.mp hu).1
      simpa using this
    refine wpAny_pyNext_enum_itemC (Draws.tuple (A := X.A.in1) (I.ok.hd hc) it a hai its.toArray) he ⟨hit, p⟩ hlt hne (by simp [hne, Ne.symm hae]) fun x' h' tk' hP' ho hs' hT hsz hk => ?_
    have ex : x' = u := by
      have q1 : its.toArray[i]? = some u := by simpa using hu
      rw [q1] at hP'
      exact (Option.some.inj hP').symm
    subst ex
    refine ⟨_, rfl, wpAny_letOwnedTupleGo_enum (s := { s with heap := h', toks := tk' + 1 }) ho fun h'' he' sb => ?_⟩
    have hT2 : h''.get? s.heap.objs.size = some { cls := .type "tuple", data := .seq #[.int ((i : Nat) : Int) tk', x'] } := (sb.2 _ (Nat.ne_of_gt hel)).trans hT
    have new : ObjOk X.prog X.w (upd H s.heap.objs.size (.tup [.int (i : Nat), x])) h'' s.heap.objs.size (.tup [.int (i : Nat), x]) :=
      ⟨by show 2 ≤ sizeLine; decide, [.int ((i : Nat) : Int) tk', x'], .cons ⟨_, rfl⟩ (.cons ru .nil), ⟨_, hT2, rfl, _, rfl⟩⟩
    have I1 : Inv X pins σ (upd H s.heap.objs.size (.tup [.int (i : Nat), x])) { s with heap := h'', toks := tk' + 1 } :=
      I.turnedNew (ch := [e, it]) (fun b ob hb q => (sb.2 b (fun z => hb (by simp [z]))).trans (hk b ob (fun z => hb (by simp [z])) (fun z => hb (by simp [z])) q)) hf (Nat.le_refl _) new
    refine ⟨.ref s.heap.objs.size, _, I1, rfl, ⟨_, x, rfl, I.hok.fresh (Nat.le_refl _), rfl, fun ys hy => by rw [I.tuple_inj hy hq]; exact hx⟩, ⟨⟨x', ?_⟩, hs'.1.at fun o q => (sb.2 it (Ne.symm hne)).trans q, hne, hai, hae⟩, fun b hb => ?_⟩
    · rw [show ((i + 1 : Nat) : Int) = (i : Int) + 1 by omega]
      exact he'
    · have hb' : b < s.heap.objs.size := by
        rcases (show b = e ∨ b = it by simpa using hb) with z | z <;> (subst z; assumption)
      rw [upd_ne (Nat.ne_of_lt hb')]
      exact (hf b hb).1
  done := by
    intro X hP hw hK hc i pins s σ H E I hf st hg
    subst hP hw hK
    obtain ⟨⟨old, he⟩, hit, hne, hai, hae⟩ := st
    obtain ⟨xs, hq, hx⟩ := hg
    obtain ⟨its, rv, p, hz⟩ := I.tuple hq
    obtain ⟨f0, f1, f2, f3, f4, f5⟩ := hf it (by simp)
    have hl := rv.length
    have he' : IsEnum s.heap e it ((i : Nat) : Int) old := he
    exact wpAny_pyNext_enum_endD (drawsEnd (A := X.A.in1) (I.ok.hd hc) it a i its.toArray (by rw [List.size_toArray]; omega)) he' ⟨rfl, hit, p⟩ fun h' eb => ⟨rfl, I.turned (t' := s.toks) (fun b o hb q => eb b o hb q) f0 f1 f3 f4 f5⟩
  self := fun A i s Q E st h => by
    obtain ⟨⟨_, he⟩, _⟩ := st
    exact wpAny_pyIter_enum he h
end XR
namespace XR
open PySem PySem.Spec PyProof.Rows L2
def iEnumT (K : PySem.W.Frag) (ta : TA) : TI := fun σ H R => ta σ H fun vs H1 => ∃ a xs, vs = [.ref a] ∧ SqT K H1 a xs ∧ R (IteT K a) H1
theorem pi_enumT {X : Cx} {e : Expr} {ta : TA} {p pos tpos : Pos} {elts : List Expr} {kk : Nat} (hg : Gl X "enumerate") (hm : X.mg "enumerate" = none) (ha : PA X [e] ta) (hs : starEach [e] X.env = [(false, eval e X.env)] := by rfl) :
    PI X (.Tuple elts kk tpos) (.Call (.Name "enumerate" p) [e] [] pos) (iEnumT X.K ta) := by
  refine ⟨fun pins s σ H R I h => Call_ (ld_blt I hg hm boot_enumerate (PyProof.Rows.callWith_type1 (thn (ha.run pos pins s σ H _ I h) fun us s1 z => ?_) hs rfl))⟩
  obtain ⟨vs, H1, I1, r1, a, xs, rfl, hq, q⟩ := z
  obtain ⟨u, rfl, ru⟩ := vals1 r1
  obtain rfl : u = Value.ref a := ru
  obtain ⟨its, rv, p', hz⟩ := I1.tuple hq
  have hal : a < s1.heap.objs.size := by
    obtain ⟨o, ho, _⟩ := id p'
    exact Heap.lt_size ho
  refine enum1 (begins_tuple a its.toArray) p' fun h' he hit hk => wpAny_pyIter_enum he ?_
  have I2 : Inv X pins σ H1 { s1 with heap := h' } := I1.kept (t' := s1.toks) hk
  refine ⟨s1.heap.objs.size + 1, [s1.heap.objs.size + 1, s1.heap.objs.size], _, _, H1, rfl, I2, turn_enumT a (s1.heap.objs.size + 1) s1.heap.objs.size, ⟨⟨.none, he⟩, ⟨_, hit, rfl, rfl⟩, Nat.succ_ne_self _, Nat.ne_of_lt hal, Nat.ne_of_lt (Nat.lt_succ_of_lt hal)⟩, fun b hb => ?_, q⟩
  have hle : s1.heap.objs.size ≤ b := by
    rcases (show b = s1.heap.objs.size + 1 ∨ b = s1.heap.objs.size by simpa using hb) with z | z <;> (rw [z]; first | exact Nat.le_refl _ | exact Nat.le_add_right _ _)
  exact I1.fpOk hle (I1.hok.fresh hle)
/-- a loop over enumerate of a tuple: the turn gets the pair at a new place T -/
theorem for_enumT {K : PySem.W.Frag} {a : Addr} {xs : List V} {g : TG} {tb : TS} {D : Ends} {σ : L2.St} {H : Hp} (Pv : Nat → L2.St → Hp → Prop) (h0 : Pv 0 σ H) (hq : ∀ i σ H, Pv i σ H → SqT K H a xs)
    (hs : ∀ (i : Nat) (x : V) (T : Addr) (σ : L2.St) (H : Hp), xs[i]? = some x → Pv i σ H → H T = none → g (.ref T) σ (upd H T (.tup [.int (i : Nat), x])) fun σ2 H2 => tb { D with nx := Pv (i + 1), ct := Pv (i + 1), bk := D.nx } σ2 H2) (hd : ∀ σ H, Pv xs.length σ H → D.nx σ H) :
    ∃ W : Nat → Nat → L2.St → Hp → Prop, (∃ m, W 0 m σ H) ∧ ∀ i m σ H, W i m σ H →
      ((IteT K a).stop i H ∧ D.nx σ H) ∨ ((IteT K a).go i H ∧ ∃ N : L2.St → Hp → Prop, (∀ σ' H', N σ' H' → ∃ m', m' < m ∧ W (i + 1) m' σ' H') ∧ ∀ v H', (IteT K a).yld i H v H' → g v σ H' fun σ2 H2 => tb { D with nx := N, ct := N, bk := D.nx } σ2 H2) := by
  refine ⟨fun i m σ H => m = xs.length - i ∧ i ≤ xs.length ∧ Pv i σ H, ⟨xs.length, rfl, Nat.zero_le _, h0⟩, ?_⟩
  rintro i m σ H ⟨rfl, hi, p⟩
  have q := hq i σ H p
  by_cases hlt : i < xs.length
  · refine .inr ⟨⟨xs, xs[i], q, List.getElem?_eq_getElem hlt⟩, Pv (i + 1), fun σ' H' p' => ⟨xs.length - (i + 1), by omega, rfl, hlt, p'⟩, fun v H' y => ?_⟩
    obtain ⟨T, x', rfl, hT, rfl, f1⟩ := y
    exact hs i x' T σ H (f1 xs q) p hT
  · obtain rfl : i = xs.length := by omega
    exact .inl ⟨⟨xs, q, Nat.le_refl _⟩, hd σ H p⟩
end XR

set_option Elab.async false
set_option linter.all false
set_option maxRecDepth 100000
set_option maxHeartbeats 4000000
namespace XR
open PySem PySem.Spec PyProof.Rows L2
/-! sorted over data of any depth -/
theorem dpAll_len {K : PySem.W.Frag} {H : Hp} : ∀ {xs : List V} {ds : List PyData}, DpAll K H xs ds → xs.length = ds.length
  | _, _, .nil => rfl
  | _, _, .cons _ h => congrArg (· + 1) (dpAll_len h)
theorem dpAll_zip {K : PySem.W.Frag} {H : Hp} : ∀ {xs : List V} {ds : List PyData}, DpAll K H xs ds → ∀ b ∈ xs.zip ds, Dp K H b.1 b.2
  | _, _, .nil, b, h => by cases h
  | _, _, .cons (v := v) (d := d) hd ht, b, h => by
    rcases List.mem_cons.mp h with e | h
    · rw [e]
      exact hd
    · exact dpAll_zip ht b h
theorem dpAll_of {K : PySem.W.Frag} {H : Hp} : ∀ bs : List (V × PyData), (∀ b ∈ bs, Dp K H b.1 b.2) → DpAll K H (bs.map (·.1)) (bs.map (·.2))
  | [], _ => .nil
  | b :: bs, h => .cons (h b List.mem_cons_self) (dpAll_of bs fun c hc => h c (List.mem_cons_of_mem _ hc))
theorem zip_fst : ∀ {xs : List V} {ds : List PyData}, xs.length = ds.length → (xs.zip ds).map (·.1) = xs
  | [], _, _ => rfl
  | x :: xs, [], h => by cases h
  | x :: xs, d :: ds, h => congrArg (x :: ·) (zip_fst (by simpa using h))
theorem zip_snd : ∀ {xs : List V} {ds : List PyData}, xs.length = ds.length → (xs.zip ds).map (·.2) = ds
  | [], [], _ => rfl
  | [], _ :: _, h => by cases h
  | x :: xs, [], h => by cases h
  | x :: xs, d :: ds, h => congrArg (d :: ·) (zip_snd (by simpa using h))
theorem each_vals : ∀ {xs : List V} {vs : List Value} {ds : List PyData}, Vals xs vs → xs.length = ds.length → PySem.W.EachIs (fun (v : Value) (b : V × PyData) => RelV b.1 v) vs (xs.zip ds)
  | _, _, [], .nil, _ => .nil
  | _, _, _ :: _, .nil, h => by cases h
  | _, _, [], .cons _ _, h => by cases h
  | _, _, d :: ds, .cons r rs, h => .cons r (each_vals rs (by simpa using h))
theorem vals_each : ∀ {vs : List Value} {bs : List (V × PyData)}, PySem.W.EachIs (fun (v : Value) (b : V × PyData) => RelV b.1 v) vs bs → Vals (bs.map (·.1)) vs
  | _, _, .nil => .nil
  | _, _, .cons r h => .cons r (vals_each h)
theorem each_reads : ∀ {h : Heap} {xs : List V} {vs : List Value} {ds : List PyData} {as : List Addr}, xs.length = ds.length → ReadsAll h vs ds as → PySem.W.EachIs (fun (v : Value) (b : V × PyData) => ∃ as, Reads h v b.2 as) vs (xs.zip ds)
  | _, [], _, [], _, _, .nil => .nil
  | _, _ :: _, _, [], _, h, .nil => by cases h
  | _, [], _, _ :: _, _, h, .cons _ _ => by cases h
  | _, _ :: _, _, _ :: _, _, h, .cons r rs => .cons ⟨_, r⟩ (each_reads (by simpa using h) rs)
/-- what is asked of the items -/
structure SortOk (ds : List PyData) : Prop where
  al : PySem.W.AllAlike ds
  so : PySem.W.Sortable ds
  dp : ∀ d ∈ ds, d.depth ≤ 60
def srt (rev : Bool) (ds : List PyData) : List PyData := ds.mergeSort (PySem.W.dataLe rev id)
def rSortedD (K : PySem.W.Frag) (rev : Bool) : List V → Hp → VK → Prop := fun vs H Q => ∃ (a : Addr) (xs : List V) (ds : List PyData), vs = [V.ref a] ∧ SqL K H a xs ∧ DpAll K H xs ds ∧ SortOk ds ∧
  ∀ p ys, H p = none → DpAll K H ys (srt rev ds) → Q (.ref p) (upd H p (.lst ys))
theorem srt_map (rev : Bool) (bs : List (V × PyData)) : (bs.mergeSort (PySem.W.dataLe rev (·.2))).map (·.2) = srt rev (bs.map (·.2)) :=
  PySem.W.sort_maps (r := PySem.W.dataLe rev (·.2)) (s := PySem.W.dataLe rev id) (fun b : V × PyData => b.2) fun _ _ _ _ => rfl
section
variable {X : Cx}
theorem sortedEnd {pins : List (Addr × Obj)} {s : Shared} {σ : L2.St} {H : Hp} {Q : VK} {rev : Bool} {its : List Value} {xs : List V} {ds : List PyData} {out : List Value} (I : Inv X pins σ H s) (hd : DpAll X.K H xs ds) (hz : its.length ≤ sizeLine) (hl : its.length = ds.length) (hlen : out.length = (xs.zip ds).length)
    (eo : PySem.W.EachIs (fun (v : Value) (b : V × PyData) => RelV b.1 v) out ((xs.zip ds).mergeSort (PySem.W.dataLe rev (·.2)))) (q : ∀ p ys, H p = none → DpAll X.K H ys (srt rev ds) → Q (.ref p) (upd H p (.lst ys))) :
    EP X pins σ Q (.ref (s.heap.objs.size + 1)) { s with heap := PyProof.Rows.sortedAll s.heap its (List.toArray out) } := by
  have hx := dpAll_len hd
  obtain ⟨ep, he'⟩ := PyProof.Rows.sortedAll_at s.heap its out.toArray
  have e2 : DpAll X.K H (((xs.zip ds).mergeSort (PySem.W.dataLe rev (·.2))).map (·.1)) (srt rev ds) := by
    have h1 := dpAll_of ((xs.zip ds).mergeSort (PySem.W.dataLe rev (·.2))) (fun b hb => dpAll_zip hd b ((List.mergeSort_perm _ _).mem_iff.mp hb))
    rw [srt_map, zip_snd hx] at h1
    exact h1
  refine ⟨.ref _, upd H (s.heap.objs.size + 1) (.lst _), I.laid (t' := s.toks) (fun _ _ => PyProof.Rows.sortedAll_old) (Nat.le_succ _) ⟨?_, out, ep, vals_each eo, he'⟩, rfl, q _ _ (I.hok.fresh (Nat.le_succ _)) e2⟩
  rw [List.length_map, List.length_mergeSort, ← hlen, hlen, List.length_zip, hx, Nat.min_self, ← hl]
  exact hz
theorem cr_sortedD (hu : X.A.units + 64 < cLine) : CallR X (.builtin "sorted") (rSortedD X.K false) := by
  intro pins s σ H vs us Q I r h
  obtain ⟨a, xs, ds, rfl, hs, hd, ok, q⟩ := h
  obtain ⟨its, rv, hl, hz⟩ := I.list hs
  obtain ⟨u, rfl, ru⟩ := vals1 r
  obtain rfl : u = Value.ref a := ru
  have hx := dpAll_len hd
  obtain ⟨as, hr⟩ := Dp.readsAll I ds _ its hd rv
  have e3 := zip_snd hx
  refine PySem.W.sorted_data (enc := fun b : V × PyData => b.2) hl.isList (each_vals rv hx) (each_reads hx hr) (by rw [e3]; exact ok.al) (by rw [e3]; exact ok.so) ?_ (fun b hb => ?_) fun out hlen eo => sortedEnd I hd (by rw [← rv.length]; exact hz) (by rw [← rv.length]; exact hx) hlen eo q
  · rw [List.length_zip, hx, Nat.min_self, ← hx]
    exact hz
  · have hm : b.2 ∈ ds := by
      rw [← e3]
      exact List.mem_map_of_mem hb
    have h60 := ok.dp _ hm
    show X.A.units + 2 + b.2.depth < cLine
    omega
theorem cr_sortedRD (hu : X.A.units + 64 < cLine) : CallRK X (.builtin "sorted") ["reverse"] (fun vs zs H Q => zs = [V.bl true] ∧ rSortedD X.K true vs H Q) := by
  intro pins s σ H vs zs us ws Q I r rz h
  obtain ⟨rfl, a, xs, ds, rfl, hs, hd, ok, q⟩ := h
  obtain ⟨its, rv, hl, hz⟩ := I.list hs
  obtain ⟨u, rfl, ru⟩ := vals1 r
  obtain ⟨w', rfl, rw'⟩ := vals1 rz
  obtain rfl : u = Value.ref a := ru
  obtain rfl : w' = Value.bool true := rw'
  have hx := dpAll_len hd
  obtain ⟨as, hr⟩ := Dp.readsAll I ds _ its hd rv
  have e3 := zip_snd hx
  refine PySem.W.sorted_rev_data (b := true) (enc := fun b : V × PyData => b.2) hl.isList (each_vals rv hx) (each_reads hx hr) (by rw [e3]; exact ok.al) (by rw [e3]; exact ok.so) ?_ (fun b hb => ?_) fun out hlen eo => sortedEnd I hd (by rw [← rv.length]; exact hz) (by rw [← rv.length]; exact hx) hlen eo q
  · rw [List.length_zip, hx, Nat.min_self, ← hx]
    exact hz
  · have hm : b.2 ∈ ds := by
      rw [← e3]
      exact List.mem_map_of_mem hb
    have h60 := ok.dp _ hm
    show X.A.units + 2 + b.2.depth < cLine
    omega
/-! of less than two items -/
theorem swoNo : SrtO.Swo fun (_ _ : Value) => false := ⟨fun _ _ h => (by cases h), fun _ _ _ _ _ => rfl⟩
def rSorted1 (K : PySem.W.Frag) : List V → Hp → VK → Prop := fun vs H Q => ∃ (a : Addr) (xs : List V), vs = [V.ref a] ∧ SqL K H a xs ∧ xs.length < 2 ∧ ∀ p, H p = none → Q (.ref p) (upd H p (.lst xs))
theorem permShort {α : Type} : ∀ {a b : List α}, a.Perm b → b.length < 2 → a = b
  | a, [], h, _ => h.eq_nil
  | a, [x], h, _ => List.perm_singleton.mp h
  | a, x :: y :: r, h, hl => absurd hl (by simp)
theorem cr_sorted1 : CallR X (.builtin "sorted") (rSorted1 X.K) := by
  intro pins s σ H vs us Q I r h
  obtain ⟨a, xs, rfl, hs, h2, q⟩ := h
  obtain ⟨its, rv, hl, hz⟩ := I.list hs
  obtain ⟨u, rfl, ru⟩ := vals1 r
  obtain rfl : u = Value.ref a := ru
  have hle := rv.length
  refine SrtO.sorted_ord swoNo hl.isList (by rw [← rv.length]; exact hz) (fun h3 => by omega) fun out h1 hb => ?_
  obtain rfl : out = its := permShort hb.perm (by omega)
  obtain ⟨ep, he'⟩ := PyProof.Rows.sortedAll_at s.heap out out.toArray
  exact ⟨.ref _, upd H (s.heap.objs.size + 1) (.lst xs), I.laid (t' := s.toks) (fun _ _ => PyProof.Rows.sortedAll_old) (Nat.le_succ _) ⟨hz, out, ep, rv, he'⟩, rfl, q _ (I.hok.fresh (Nat.le_succ _))⟩
/-- a list of less than two items, or items that can be sorted -/
def rSortedC (K : PySem.W.Frag) : List V → Hp → VK → Prop := fun vs H Q => rSorted1 K vs H Q ∨ rSortedD K false vs H Q
theorem cr_sortedC (hu : X.A.units + 64 < cLine) : CallR X (.builtin "sorted") (rSortedC X.K) := cr_sorted1.or (cr_sortedD hu)
end
end XR

set_option Elab.async false
set_option linter.all false
set_option maxRecDepth 100000
set_option maxHeartbeats 4000000
namespace XR
open PySem PySem.Spec PyProof.Rows L2
open AutoSeq1 (wpAny_loadPart')
section
variable {X : Cx}
/-! a range of one number, as a value; the range object walked -/
theorem cr_range1 : CallR X (.type "range") (fun vs H Q => ∃ j, vs = [V.int j] ∧ ∀ p, H p = none → Q (.ref p) (upd H p (.rng 0 j))) := by
  intro pins s σ H vs us Q I r h
  obtain ⟨j, rfl, q⟩ := h
  obtain ⟨u, rfl, t, rfl⟩ := vals1 r
  refine call_range_1 ⟨.ref s.heap.objs.size, upd H s.heap.objs.size (.rng 0 j), I.laid (t' := s.toks + 1 + 1) (fun b o e => Heap.get?_push_of_some _ e) (Nat.le_refl _) ?_, rfl, q _ (I.hok.fresh (Nat.le_refl _))⟩
  exact ⟨s.toks, t, s.toks + 1, Heap.get?_push_size _ rfl⟩
def iRngV (te : TE) : TI := fun σ H R => te σ H fun x H1 => ∃ r lo hi, x = .ref r ∧ H1 r = some (.rng lo hi) ∧ (-(2 ^ 62) ≤ lo ∧ lo < 2 ^ 62 ∧ -(2 ^ 62) ≤ hi ∧ hi < 2 ^ 62) ∧ R (Itr lo (hi - lo).toNat) H1
theorem pi_rngV {tg e : Expr} {te : TE} (he : PE X e te) : PI X tg e (iRngV te) := by
  refine ⟨fun pins s σ H R I h => thn (he.run pins s σ H _ I h) fun v s1 z => ?_⟩
  obtain ⟨x, H1, I1, rx, r, lo, hi, rfl, hr, ⟨b1, b2, b3, b4⟩, q⟩ := z
  obtain rfl : v = Value.ref r := rx
  obtain ⟨t, u, v', ho⟩ := I1.hok r _ hr
  refine wpAny_pyIter_range (show IsRange s1.heap r lo hi 1 t u v' from ho) (small_one b1 b2 b3 b4) ?_
  refine ⟨s1.heap.objs.size, [s1.heap.objs.size], _, _, H1, rfl, I1.kept (t' := s1.toks) fun b o e => Heap.get?_push_of_some _ e, turn_range _ lo (hi - lo).toNat, ?_, fun b hb => ?_, q⟩
  · have e1 : lo + ((0 : Nat) : Int) * 1 = lo := by simp
    have e2 : (((hi - lo).toNat : Nat) : Int) - ((0 : Nat) : Int) = Builtin.Range.rangeSize lo hi 1 := by
      rw [rangeSize_one]
      split <;> omega
    show IsRangeIter _ _ (lo + ((0 : Nat) : Int) * 1) ((((hi - lo).toNat : Nat) : Int) - ((0 : Nat) : Int)) 1
    rw [e1, e2]
    exact Heap.get?_push_size _ rfl
  · obtain rfl : b = s1.heap.objs.size := by simpa using hb
    exact I1.fpOk (Nat.le_refl _) (I1.hok.fresh (Nat.le_refl _))
/-! a *= b, a //= b -/
theorem ip_mul : PIp X .Mult (rI CMul fun i j => .int (i * j)) := iop_mul
theorem ip_fdiv : PIp X .FloorDiv (rI CDiv fun i j => .int (i / j)) := iop_fdiv
/-! repr of a list of ints: where no repr is under way -/
def rReprL (K : PySem.W.Frag) : List V → Hp → VK → Prop := fun vs H Q => ∃ (a : Addr) (ns : List Int), vs = [V.ref a] ∧ SqL K H a (ns.map V.int) ∧ (∀ n ∈ ns, n.natAbs.log2 < 1920) ∧ (PyData.list (ns.map PyData.int)).shown.length ≤ sizeLine ∧ Q (.str (PyData.list (ns.map PyData.int)).shown) H
theorem dpInts {K : PySem.W.Frag} {H : Hp} : ∀ ns : List Int, DpAll K H (ns.map V.int) (ns.map PyData.int)
  | [] => .nil
  | n :: ns => .cons (.int n) (dpInts ns)
theorem noDictInts : ∀ ns : List Int, PyData.hasDictAll (ns.map PyData.int) = false
  | [] => by simp only [List.map_nil, PyData.hasDictAll]
  | n :: ns => by simp only [List.map_cons, PyData.hasDictAll, PyData.hasDict, noDictInts ns, Bool.or_self]
theorem cr_reprL (hg : X.A.guards = some []) (hu : X.A.units + 4 < cLine) : CallR X (.builtin "repr") (rReprL X.K) := by
  intro pins s σ H vs us Q I r h
  obtain ⟨a, ns, rfl, hs, hn, hz, q⟩ := h
  obtain ⟨u, rfl, ru⟩ := vals1 r
  obtain rfl : u = Value.ref a := ru
  obtain ⟨as, hr⟩ := Dp.reads I (.list (ns.map .int)) (.ref a) (.ref a) (.lst hs (dpInts ns)) rfl
  have hd : (PyData.list (ns.map PyData.int)).depth ≤ 1 := by
    have e := PySem.W.depth_ints ns
    simp only [PyData.depth, e]
    omega
  have hno : (PyData.list (ns.map PyData.int)).hasDict = false := by
    simp only [PyData.hasDict]
    exact noDictInts ns
  refine repr_of_reads' hr ?_ (fun e => by rw [hno] at e; cases e) hg (by omega) (fun _ _ e => e) (fun h' u tk hk => ?_) hz
  · simp only [PyData.showable]
    exact PyData.showableAll_ints ns hn
  · exact ⟨.str _, H, I.kept (t' := tk) hk, ⟨u, rfl⟩, q⟩
/-! a tuple times 0, 1, .. -/
theorem tupMul1 (l : Addr) (items : Array Value) (n : Nat) (dd : Option Addr) (sl : Array (Option Value)) (u : Tok) :
    Meets (Builtin.«tuple.__mul__» ⟨[.ref l, .int 1 u], []⟩) (fun _ R s => s.heap.get? l = some { cls := .type "tuple", dict := dd, data := .seq items n, slots := sl } ∧ R (.ok (.ret (.ref l))) s) :=
  .of_wp fun prog w A R s h => by
    obtain ⟨hp, g, d, tk, os⟩ := s
    obtain ⟨hl, h⟩ := h
    have f1 := AutoSeq1.idx_int
    wp_walk using wpAny_loadPart' hl
    exact ⟨_, rfl, h⟩
theorem tupMul0 (l : Addr) (items : Array Value) (n : Nat) (dd : Option Addr) (sl : Array (Option Value)) (u : Tok) (hi : items.isEmpty = false) :
    Meets (Builtin.«tuple.__mul__» ⟨[.ref l, .int 0 u], []⟩) (fun _ R s => s.heap.get? l = some { cls := .type "tuple", dict := dd, data := .seq items n, slots := sl } ∧
      R (.ok (.ret (Value.ref s.heap.objs.size))) { s with heap := s.heap.push { cls := Value.type "tuple", data := Data.seq #[] }, toks := s.toks }) :=
  .of_wp fun prog w A R s h => by
    obtain ⟨hp, g, d, tk, os⟩ := s
    obtain ⟨hl, h⟩ := h
    have f1 := AutoSeq1.idx_int
    wp_walk using wpAny_loadPart' hl
    exact ⟨_, rfl, h⟩
def rRepA (K : PySem.W.Frag) : R2 := fun x y H Q => ∃ l k xs, x = .ref l ∧ y = .int k ∧ SqT K H l xs ∧ xs ≠ [] ∧ 0 ≤ k ∧ k ≤ 1000 ∧ xs.length ≤ 1000 ∧ ∀ p H', Same H H' → SqT K H' p (List.replicate k.toNat xs).flatten → Q (.ref p) H'
theorem sameNew {H : Hp} {p : Addr} {o : HO} (h : H p = none) : Same H (upd H p o) := fun b x e => by
  rw [upd_ne (ne_of_none e h)]
  exact e
theorem op_repA : OpR X (binaryOp .Mult) (rRepA X.K) := by
  intro pins s σ H x y v u Q I rx ry h
  obtain ⟨l, k, xs, rfl, rfl, hT, hne, h1, h2, hz, q⟩ := h
  by_cases k2 : 2 ≤ k
  · exact op_repT pins s σ H _ _ v u Q I rx ry ⟨l, k, xs, rfl, rfl, hT, hne, k2, h2, hz, fun p hp => q p _ (sameNew hp) (.inl (.inl upd_same))⟩
  · obtain rfl : v = Value.ref l := rx
    obtain ⟨t, rfl⟩ := ry
    obtain ⟨its, r, ⟨⟨cls, dd, data, sl⟩, ho, hc, n, hd⟩, hs⟩ := I.tuple hT
    simp only at hc hd
    subst hc hd
    have hi : its.toArray.isEmpty = false := by
      cases its with
      | nil => exact absurd (List.eq_nil_of_length_eq_zero r.length) hne
      | cons a b => rfl
    by_cases k1 : k = 1
    · subst k1
      have e : (List.replicate (1 : Int).toNat xs).flatten = xs := by
        show (List.replicate 1 xs).flatten = xs
        simp
      refine wpAny_binaryOp_repeat_ref (T := "tuple") (U := "int") (by decide) ⟨_, ho, rfl⟩ (fun s' => typeIs_int s' 1 t) noFill_tuple_mul F.fills_int_mul F.slot_int_rmul repeat_tuple F.slot_int_index.lookup
        (call_meets F.slot_int_rmul (typeIs_int s 1 t) F.entry_int_rmul (F.args_int_rmul_2 _ _) (int_rmul_tuple 1 t l its.toArray n dd sl)
          ⟨ho, rfl, ⟨_, ho, rfl⟩, call_meets F.slot_tuple_mul ⟨_, ho, rfl⟩ F.entry_tuple_mul (F.args_tuple_mul_2 _ _) (tupMul1 l its.toArray n dd sl t) ⟨ho, ?_⟩⟩)
      exact ⟨.ref l, H, I, rfl, q l H (Same.refl H) (by rw [e]; exact hT)⟩
    · obtain rfl : k = 0 := by omega
      refine wpAny_binaryOp_repeat_ref (T := "tuple") (U := "int") (by decide) ⟨_, ho, rfl⟩ (fun s' => typeIs_int s' 0 t) noFill_tuple_mul F.fills_int_mul F.slot_int_rmul repeat_tuple F.slot_int_index.lookup
        (call_meets F.slot_int_rmul (typeIs_int s 0 t) F.entry_int_rmul (F.args_int_rmul_2 _ _) (int_rmul_tuple 0 t l its.toArray n dd sl)
          ⟨ho, rfl, ⟨_, ho, rfl⟩, call_meets F.slot_tuple_mul ⟨_, ho, rfl⟩ F.entry_tuple_mul (F.args_tuple_mul_2 _ _) (tupMul0 l its.toArray n dd sl t hi) ⟨ho, ?_⟩⟩)
      refine ⟨.ref s.heap.objs.size, _, I.laid (t' := s.toks) (o := .tup []) (fun b ob q => Heap.get?_push_of_some _ q) (Nat.le_refl _) ?_, rfl, q _ _ (sameNew (I.hok.fresh (Nat.le_refl _))) (.inl (.inl upd_same))⟩
      exact ⟨Nat.zero_le _, [], .nil, IsTup.new _ _⟩
end
end XR

set_option Elab.async false
set_option linter.all false
set_option maxRecDepth 100000
set_option maxHeartbeats 4000000
namespace XR
open PySem PySem.Spec PyProof.Rows L2
/-! the law's own call: its body may ask what runs around it -/
section
variable {P : Program} {w : World} {K : PySem.W.Frag} {mg : Str → Option Value} {base : Heap}
theorem body_at {x qual : Str} {st : Stmt} {f : Addr} {fd : FuncData} {N ps : List Str} {k : Nat} (F : Fun K x qual st f fd) (S : FnScope N ps (defScope st)) {A : Around} {outer : List Env} {s : Shared} {H : Hp} {args : Args} {us : List Value} {vs : List V} {Q : VK} {E : XK}
    (hr : Room (k + 1) A) (e0 : Env0 P w K mg base A outer s H) (hb : BindsTo s fd args (ps.zip us)) (r : Vals vs us) (hl : vs.length = ps.length)
    (hbody : ∀ cdv : Value, Room k (A.deeper (envOfC qual (defScope st) s.heap.objs.size f cdv)) →
      ∃ t, PSs (cxOf CX0 P w K mg base N qual (defScope st) f cdv A outer s H E).nox (defBody st) t ∧ t { nx := fun _ H' => Q .non H', rt := Q } (start N vs) H) :
    codeAny (model P w) A (.call (.ref f) args) (CR CX0 outer P w H s Q E) s := by
  obtain ⟨oc, od, kV, doc, pm, an, cdv, ct, osl, rfl, lk, hcd⟩ := F.ex
  have old : ∀ b o, base.get? b = some o → s.heap.get? b = some o := fun b o e => (e0.bs b o e).1
  have hkin : K.In s.heap := e0.mod.kin.keeps old
  obtain ⟨t, ht, hq⟩ := hbody cdv (hr.deeper _)
  have pk : ∀ y ∈ ps.zip us, (defScope st).names.lookup y.1 = some .local ∨ ((defScope st).names.lookup y.1 = some .cell ∧ ((cellsFrom (s.heap.objs.size + 1) (defScope st).names []).lookup y.1).isSome = true) := by
    rintro ⟨n, v⟩ hy
    rcases S.par n (List.of_mem_zip hy).1 with q | q
    · exact .inl q
    · exact .inr ⟨q, PySem.W.cellsFrom_some _ _ _ (.inl q)⟩
  refine codeAny_call_function hr.depth (hkin _ _ lk) rfl S.co S.gen rfl (PySem.W.codeRec_of hkin hcd) (hb _ _ _ _ (wpAny_newFunctionEnv_cells S.kind pk fun env he s1 z => ?_))
  subst he
  refine ⟨(e0.mod.nolimit.keeps old).keeps z.toInCall.keep, codeAny_func ?_⟩
  have I := inv_start (CX := CX0) (E := E) (qual := qual) (f := f) (cd := cdv) S hr.hd e0 hl r z
  refine wpAny_mono (ht.nox.run [] s1 (start N vs) H _ I hq) (fun fl s' hs => ?_) fun _ _ q => q
  cases fl with
  | brk => exact hs.elim fun _ q => q.elim fun _ q => q.2.elim
  | cont => exact hs.elim fun _ q => q.elim fun _ q => q.2.elim
  | next =>
    obtain ⟨σ', H', J, q⟩ := hs
    exact ⟨V.non, H', J.os, J.bare, J.base, J.hok, rfl, q⟩
  | ret u =>
    obtain ⟨v, σ', H', J, rv, q⟩ := hs
    exact ⟨v, H', J.os, J.bare, J.base, J.hok, rv, q⟩
/-- the script's place as the layer tracks it: locked, or one of the written part -/
theorem script_track {mb : Str → Option Value} {a : Addr} {s : Shared} {vs : List Value} {ns : List Int} (X : K.In s.heap) (ha : s.heap.get? a = some { cls := .type "list", data := .seq vs.toArray }) (hi : IntsAre vs ns) (hl : ns.length ≤ sizeLine) :
    ∃ H : Hp, (∀ b, H b ≠ none → b = a ∧ K.lookup a = none ∧ H b = some (.frz { cls := .type "list", data := .seq vs.toArray } (.lst (ns.map V.int)))) ∧ SqL K H a (ns.map V.int) ∧ HOk P w H s.heap := by
  have rv := vals_ints hi
  have lv := hi.length
  cases hk : K.lookup a with
  | some o =>
    have e := X a o hk
    rw [ha] at e
    cases e
    exact ⟨fun _ => none, fun b z => absurd rfl z, .inr ⟨_, vs.toArray, _, hk, rfl, rfl, rfl, by rw [List.size_toArray, lv]; exact hl, by simpa using rv⟩, fun b u z => nomatch z⟩
  | none =>
    have at_ : ∀ b, (if b = a then some (HO.frz { cls := .type "list", data := .seq vs.toArray } (.lst (ns.map V.int))) else none) ≠ none → b = a := fun b z => by
      by_cases hb : b = a
      · exact hb
      · rw [if_neg hb] at z
        exact absurd rfl z
    refine ⟨fun b => if b = a then some (HO.frz { cls := .type "list", data := .seq vs.toArray } (.lst (ns.map V.int))) else none, fun b z => ⟨at_ b z, rfl, if_pos (at_ b z)⟩, .inl (.inr ⟨_, if_pos rfl⟩), fun b u z => ?_⟩
    have hb : b = a := at_ b (by rw [show (if b = a then some (HO.frz { cls := .type "list", data := .seq vs.toArray } (.lst (ns.map V.int))) else none) = some u from z]; simp)
    subst hb
    cases (if_pos rfl).symm.trans z
    exact ⟨ha, by rw [List.length_map]; exact hl, vs, _, rv, ha⟩
theorem law_at {l : PySem.W.OpenLaw} {mb : Str → Option Value} {qual x : Str} {st : Stmt} {fa a : Addr} {fd : FuncData} {N : List Str} {k : Nat} {s₁ : Shared} {vs : List Value} {ns : List Int}
    (KX : K.In s₁.heap) (hns : s₁.heap.Ns mainGlobals mg) (hb : s₁.heap.Ns builtinsNs mb) (hbb : ∀ x : Str, x ≠ "__name__" → mb x = bootBuiltins x) (hlim : s₁.heap.NoLimit) (hg : s₁.gens = #[])
    (ha : s₁.heap.get? a = some { cls := .type "list", data := .seq vs.toArray }) (hi : IntsAre vs ns) (hl : ns.length ≤ sizeLine) (hr : Room (k + 1) callerA)
    (F : Fun K "law" qual st fa fd) (S : FnScope N [x] (defScope st)) (hbind : ∀ (s : Shared) (u : Value), BindsTo s fd ⟨[u], []⟩ [(x, u)])
    (hbody : ∀ (base : Heap) (H : Hp) (cdv : Value), K.In base → base.Ns mainGlobals mg → SqL K H a (ns.map V.int) → Room k (callerA.deeper (envOfC qual (defScope st) s₁.heap.objs.size fa cdv)) →
      ∃ t, PSs (cxOf CX0 P w K mg base N qual (defScope st) fa cdv callerA [] s₁ H E0).nox (defBody st) t ∧ t { nx := fun _ H' => V.non = .bl true, rt := fun v _ => v = .bl true } (start N [.ref a]) H) :
    codeAny (model P w) callerA (.call (.ref fa) ⟨[.ref a], []⟩) (fun r s' => r = .ok (.ret (.bool true)) ∧ OldK s₁.heap s'.heap ∧ s'.os = s₁.os ∧ AllBare s'.gens) s₁ := by
  obtain ⟨H, hO, hS, hok⟩ := script_track (P := P) (w := w) (mb := mb) KX ha hi hl
  have plainB : ∀ {b : Addr} {o : Obj}, s₁.heap.get? b = some o → (∀ ys n, o.data ≠ .seq ys n) → (hidT s₁.heap H).get? b = some o := fun {b o} e no => hidT_get e (by
    cases q : H b with
    | none => rfl
    | some u =>
      obtain ⟨rfl, _, _⟩ := hO b (by rw [q]; simp)
      rw [ha] at e
      cases e
      exact absurd rfl (no _ _))
  have ns_ : ∀ {b : Addr} {m : Str → Option Value}, s₁.heap.Ns b m → (hidT s₁.heap H).Ns b m := fun ⟨o, es, ep, e, d, r⟩ => ⟨o, es, ep, plainB e (fun _ _ c => by rw [d] at c; cases c), d, r⟩
  have hK : K.In (hidT s₁.heap H) := fun b o e => hidT_get (KX b o e) (by
    cases q : H b with
    | none => rfl
    | some u =>
      obtain ⟨rfl, q2, _⟩ := hO b (by rw [q]; simp)
      rw [q2] at e
      cases e)
  have hM : Mod K mg (hidT s₁.heap H) := ⟨hK, ns_ hns, ⟨mb, ns_ hb, hbb⟩, hlim.elim fun mc q => ⟨mc, ns_ q.1, q.2⟩⟩
  have e0 : Env0 P w K mg (hidT s₁.heap H) callerA [] s₁ H := ⟨rfl, hM, fun b o e => of_hidT e, Nat.le_of_eq (hidT_size _ _), trivial, fun b z => absurd (show b ∈ ([] : List Addr) from z) (by simp), hok, .of_eq hg⟩
  refine codeAny_mono (body_at (vs := [.ref a]) (us := [.ref a]) (Q := fun v _ => v = .bl true) (E := E0) F S hr e0 (hbind s₁ (.ref a)) (.cons rfl .nil) rfl fun cdv hrd => hbody _ H cdv hK (ns_ hns) hS hrd) fun r s' h => ?_
  match r, h with
  | .ok (.ret u), h =>
    obtain ⟨v, H', os, bare, un, hok', rvu, rfl⟩ := h
    obtain rfl : u = Value.bool true := rvu
    refine ⟨rfl, OldK.of_keep fun b o e => ?_, os, bare⟩
    cases q : H b with
    | none => exact un.keep b o e q (by intro z; exact absurd (show b ∈ ([] : List Addr) from z) (by simp)) (by simp)
    | some u =>
      obtain ⟨_, _, z⟩ := hO b (by rw [q]; simp)
      have e1 := (hok b _ z).1
      rw [e] at e1
      cases e1
      exact (hok' b _ (un.frzs b _ _ z)).1
  | .error _, h => exact False.elim h
  | .ok .next, h => exact False.elim h
  | .ok .brk, h => exact False.elim h
  | .ok .cont, h => exact False.elim h
end
end XR

set_option Elab.async false
set_option linter.all false
set_option maxRecDepth 100000
set_option maxHeartbeats 4000000
namespace Cn
open PySem PySem.Spec PyProof.Rows L2 XR
/-! two lists, item by item -/
def All2 {α β : Type} (R : α → β → Prop) (xs : List α) (ys : List β) : Prop := xs.length = ys.length ∧ ∀ (i : Nat) (x : α) (y : β), xs[i]? = some x → ys[i]? = some y → R x y
section
variable {α β γ : Type} {R S : α → β → Prop}
theorem All2.nil : All2 R [] [] := ⟨rfl, fun i x y h => by simp at h⟩
theorem All2.mono {xs : List α} {ys : List β} (h : All2 R xs ys) (m : ∀ x y, R x y → S x y) : All2 S xs ys := ⟨h.1, fun i x y a b => m x y (h.2 i x y a b)⟩
theorem All2.cons {x : α} {y : β} {xs : List α} {ys : List β} (r : R x y) (h : All2 R xs ys) : All2 R (x :: xs) (y :: ys) := ⟨by simp [h.1], fun i a b ha hb => by
  cases i with
  | zero =>
    cases Option.some.inj ha
    cases Option.some.inj hb
    exact r
  | succ i => exact h.2 i a b ha hb⟩
theorem All2.tail {x : α} {y : β} {xs : List α} {ys : List β} (h : All2 R (x :: xs) (y :: ys)) : R x y ∧ All2 R xs ys := ⟨h.2 0 x y rfl rfl, by simpa using h.1, fun i a b ha hb => h.2 (i + 1) a b ha hb⟩
theorem All2.append : ∀ {xs xs' : List α} {ys ys' : List β}, All2 R xs ys → All2 R xs' ys' → All2 R (xs ++ xs') (ys ++ ys')
  | [], _, [], _, _, h => h
  | [], _, _ :: _, _, h, _ => by simp [All2] at h
  | _ :: _, _, [], _, h, _ => by simp [All2] at h
  | x :: xs, _, y :: ys, _, h, h' => .cons h.tail.1 (h.tail.2.append h')
theorem All2.one {x : α} {y : β} (r : R x y) : All2 R [x] [y] := .cons r .nil
theorem All2.snoc {x : α} {y : β} {xs : List α} {ys : List β} (h : All2 R xs ys) (r : R x y) : All2 R (xs ++ [x]) (ys ++ [y]) := h.append (.one r)
/-- the item that stands beside -/
theorem All2.at {xs : List α} {ys : List β} (h : All2 R xs ys) {i : Nat} {x : α} (a : xs[i]? = some x) : ∃ y, ys[i]? = some y ∧ R x y := by
  have hi := (List.getElem?_eq_some_iff.mp a).1
  have hj : i < ys.length := by rw [← h.1]; exact hi
  exact ⟨ys[i], List.getElem?_eq_getElem hj, h.2 i x _ a (List.getElem?_eq_getElem hj)⟩
theorem All2.at' {xs : List α} {ys : List β} (h : All2 R xs ys) {i : Nat} {y : β} (a : ys[i]? = some y) : ∃ x, xs[i]? = some x ∧ R x y := by
  have hi := (List.getElem?_eq_some_iff.mp a).1
  have hj : i < xs.length := by rw [h.1]; exact hi
  exact ⟨xs[i], List.getElem?_eq_getElem hj, h.2 i _ y (List.getElem?_eq_getElem hj) a⟩
theorem All2.map {f : β → α} (r : ∀ y, R (f y) y) : ∀ ys : List β, All2 R (ys.map f) ys
  | [] => .nil
  | y :: ys => .cons (r y) (All2.map r ys)
theorem All2.rev {xs : List α} {ys : List β} (h : All2 R xs ys) : All2 R xs.reverse ys.reverse := by
  refine ⟨by simp [h.1], fun i x y a b => ?_⟩
  have hx := (List.getElem?_eq_some_iff.mp a).1
  rw [List.length_reverse] at hx
  have hl := h.1
  rw [List.getElem?_reverse hx] at a
  rw [List.getElem?_reverse (by omega)] at b
  rw [← hl] at b
  exact h.2 _ x y a b
theorem All2.drop {xs : List α} {ys : List β} (h : All2 R xs ys) (k : Nat) : All2 R (xs.drop k) (ys.drop k) :=
  ⟨by simp [h.1], fun i x y a b => h.2 (k + i) x y (by rw [List.getElem?_drop] at a; exact a) (by rw [List.getElem?_drop] at b; exact b)⟩
theorem All2.take {xs : List α} {ys : List β} (h : All2 R xs ys) (k : Nat) : All2 R (xs.take k) (ys.take k) := by
  refine ⟨by simp [h.1], fun i x y a b => ?_⟩
  by_cases hk : i < k
  · rw [List.getElem?_take_of_lt hk] at a b
    exact h.2 i x y a b
  · rw [List.getElem?_eq_none (by simp; omega)] at a
    cases a
end
/-! what evaluates to what, all that stood standing -/
def EvP (te : TE) (σ : L2.St) (H : Hp) (R : V → Hp → Prop) : Prop := ∀ H1, Same H H1 → ∀ Q : VK, (∀ v H2, Same H1 H2 → R v H2 → Q v H2) → te σ H1 Q
def EvT (tt : TT) (σ : L2.St) (H : Hp) (b : Bool) : Prop := ∀ H1, Same H H1 → ∀ Q : Bool → Hp → Prop, (∀ H2, Same H1 H2 → Q b H2) → tt σ H1 Q
/-- a promise's end: a value of which R holds -/
def Ret (R : V → Hp → Prop) (H : Hp) (Q : VK) : Prop := ∀ v H2, Same H H2 → R v H2 → Q v H2
theorem sNew {H : Hp} {p : Addr} {o : HO} (h : H p = none) : Same H (upd H p o) := sameNew h
theorem sMut {H H' : Hp} {p : Addr} {o : HO} (e : Same H H') (h : H p = none) : Same H (upd H' p o) := fun a u ha => by
  rw [upd_ne (ne_of_none ha h)]
  exact e a u ha
theorem sTup {K : PySem.W.Frag} {H H' : Hp} {a : Addr} {xs : List V} (e : Same H H') (h : SqT K H a xs) : SqT K H' a xs := by
  rcases h with (h | ⟨o, h⟩) | h
  · exact .inl (.inl (e _ _ h))
  · exact .inl (.inr ⟨o, e _ _ h⟩)
  · exact .inr h
theorem fl {n : Nat} (h : n ≤ 100000) : n ≤ sizeLine := Nat.le_trans h (by decide)
theorem flt {n : Nat} (h : n < 100000) : n < sizeLine := Nat.lt_of_lt_of_le h (by decide)
/-! a comprehension -/
def outOf {β : Type} (n : Nat) (keep : Nat → Bool) (f : Nat → β) : List β := ((List.range n).filter keep).map f
theorem outOf_succ {β : Type} (n : Nat) (keep : Nat → Bool) (f : Nat → β) : outOf (n + 1) keep f = outOf n keep f ++ if keep n = true then [f n] else [] := by
  unfold outOf
  rw [List.range_succ, List.filter_append, List.map_append]
  cases h : keep n <;> simp [h]
theorem outOf_len {β : Type} (n : Nat) (keep : Nat → Bool) (f : Nat → β) : (outOf n keep f).length ≤ n := by
  unfold outOf
  rw [List.length_map]
  have h := List.length_filter_le keep (List.range n)
  rw [List.length_range] at h
  exact h
section
variable {J : It} {n : Nat} {G : Hp → Prop} {Y : Nat → Hp → V → Hp → Prop} {β : Type}
/-- R stands when things come, and when a list grows: it speaks of tuples -/
structure Stays {β : Type} (R : V → β → Hp → Prop) : Prop where
  same : ∀ v b H H', Same H H' → R v b H → R v b H'
  lst : ∀ v b H D acc acc', H D = some (.lst acc) → R v b H → R v b (upd H D (.lst acc'))
theorem lcP (w : Walk J n G Y) {g : TG} {tt : TT} {te : TE} {vs : List Nat} {σ : L2.St} {H1 : Hp} (hn : n < 100000) (hG : ∀ H, Same H1 H → G H) (keep : Nat → Bool) (f : Nat → β) (R : V → β → Hp → Prop) (hR : Stays R)
    (ht : ∀ i x H H' (P : L2.St → Hp → Prop), i < n → Same H1 H → Y i H x H' → (∀ σ2 H2, wipe σ2 vs = wipe σ vs → Same H H2 → EvT tt σ2 H2 (keep i) → (keep i = true → EvP te σ2 H2 fun v H => R v (f i) H) → P σ2 H2) → g x (wipe σ vs) H' P)
    {Qd : Addr → Hp → Prop} (q : ∀ D ys H', H1 D = none → Same H1 H' → H' D = some (.lst ys) → All2 (fun v b => R v b H') ys (outOf n keep f) → Qd D H') (D : Addr) (hD : H1 D = none) :
    ∃ W : Nat → Nat → Hp → Prop, (∃ m, W 0 m (upd H1 D (.lst []))) ∧ ∀ i m H, W i m H →
      (J.stop i H ∧ Qd D H) ∨ (J.go i H ∧ ∃ Nx : Hp → Prop, (∀ H', Nx H' → ∃ m', m' < m ∧ W (i + 1) m' H') ∧ ∀ x H', J.yld i H x H' → g x (wipe σ vs) H' fun σ2 H2 => wipe σ2 vs = wipe σ vs ∧ tt σ2 H2 fun b H3 =>
        if b = true then te σ2 H3 fun y H4 => ∃ acc, H4 D = some (.lst acc) ∧ acc.length < sizeLine ∧ Nx (upd H4 D (.lst (acc ++ [y]))) else Nx H3) := by
  refine lc_it w (Qd := fun H => Qd D H) (fun i H => Same H1 H ∧ ∃ ys, H D = some (.lst ys) ∧ All2 (fun v b => R v b H) ys (outOf i keep f)) ⟨sNew hD, [], upd_same, .nil⟩ (fun i H _ p => hG H p.1) (fun i x H H' hi p y => ?_) fun H p => ?_
  · obtain ⟨p1, ys, p2, p3⟩ := p
    refine ht i x H H' _ hi p1 y fun σ2 H2 e s2 h3 h4 => ⟨e, h3 H2 (Same.refl _) _ fun H3 s3 => ?_⟩
    rw [outOf_succ]
    cases hk : keep i with
    | true =>
      refine iteT (h4 hk H3 s3 _ fun v H4 s4 r => ?_)
      have pD := s4 _ _ (s3 _ _ (s2 _ _ p2))
      refine ⟨ys, pD, ?_, ?_, ys ++ [v], upd_same, ?_⟩
      · have := outOf_len i keep f
        exact flt (by rw [p3.1]; omega)
      · exact sMut (p1.trans (s2.trans (s3.trans s4))) hD
      · rw [if_pos rfl]
        exact (p3.mono fun v' b r' => hR.lst _ _ _ _ _ _ pD (hR.same _ _ _ _ (s2.trans (s3.trans s4)) r')).snoc (hR.lst _ _ _ _ _ _ pD r)
    | false =>
      refine iteF ⟨p1.trans (s2.trans s3), ys, s3 _ _ (s2 _ _ p2), ?_⟩
      simpa using p3.mono fun v b r => hR.same v b _ _ (s2.trans s3) r
  · obtain ⟨p1, ys, p2, p3⟩ := p
    exact q D ys H hD p1 p2 p3
theorem yes_ev {σ : L2.St} {H : Hp} : EvT tYes σ H true := fun H1 _ Q q => q H1 (Same.refl _)
end
/-! the data: a row is a tuple of numbers, a code a tuple of rows -/
abbrev iv (x : Nat) : V := .int (x : Int)
section
variable {K : PySem.W.Frag} {H H' : Hp}
def RowV (K : PySem.W.Frag) (v : V) (r : List Nat) (H : Hp) : Prop := ∃ a, v = .ref a ∧ SqT K H a (r.map iv)
def CodeV (K : PySem.W.Frag) (v : V) (c : List (List Nat)) (H : Hp) : Prop := ∃ a vs, v = .ref a ∧ SqT K H a vs ∧ All2 (fun v r => RowV K v r H) vs c
/-- a list of rows, a list of codes -/
def RowsV (K : PySem.W.Frag) (v : V) (c : List (List Nat)) (H : Hp) : Prop := ∃ a vs, v = .ref a ∧ SqL K H a vs ∧ All2 (fun v r => RowV K v r H) vs c
def CodesV (K : PySem.W.Frag) (v : V) (l : List (List (List Nat))) (H : Hp) : Prop := ∃ a vs, v = .ref a ∧ SqL K H a vs ∧ All2 (fun v c => CodeV K v c H) vs l
theorem RowV.same {v : V} {r : List Nat} (e : Same H H') (h : RowV K v r H) : RowV K v r H' := by
  obtain ⟨a, rfl, h⟩ := h
  exact ⟨a, rfl, sTup e h⟩
theorem CodeV.same {v : V} {c : List (List Nat)} (e : Same H H') (h : CodeV K v c H) : CodeV K v c H' := by
  obtain ⟨a, vs, rfl, h, hh⟩ := h
  exact ⟨a, vs, rfl, sTup e h, hh.mono fun _ _ r => r.same e⟩
theorem RowsV.same {v : V} {c : List (List Nat)} (e : Same H H') (h : RowsV K v c H) : RowsV K v c H' := by
  obtain ⟨a, vs, rfl, h, hh⟩ := h
  exact ⟨a, vs, rfl, e.seq h, hh.mono fun _ _ r => r.same e⟩
theorem CodesV.same {v : V} {c : List (List (List Nat))} (e : Same H H') (h : CodesV K v c H) : CodesV K v c H' := by
  obtain ⟨a, vs, rfl, h, hh⟩ := h
  exact ⟨a, vs, rfl, e.seq h, hh.mono fun _ _ r => r.same e⟩
theorem tupLst {a D : Addr} {xs acc acc' : List V} (hD : H D = some (.lst acc)) (h : SqT K H a xs) : SqT K (upd H D (.lst acc')) a xs := by
  have ne : ∀ {o : HO}, H a = some o → (∀ z, o ≠ .lst z) → (upd H D (.lst acc')) a = some o := fun {o} e n => by
    rw [upd_ne]
    · exact e
    · intro z
      subst z
      rw [hD] at e
      exact n _ (Option.some.inj e).symm
  rcases h with (h | ⟨o, h⟩) | h
  · exact .inl (.inl (ne h (by intro z q; cases q)))
  · exact .inl (.inr ⟨o, ne h (by intro z q; cases q)⟩)
  · exact .inr h
theorem RowV.lst {v : V} {r : List Nat} {D : Addr} {acc acc' : List V} (hD : H D = some (.lst acc)) (h : RowV K v r H) : RowV K v r (upd H D (.lst acc')) := by
  obtain ⟨a, rfl, h⟩ := h
  exact ⟨a, rfl, tupLst hD h⟩
theorem CodeV.lst {v : V} {c : List (List Nat)} {D : Addr} {acc acc' : List V} (hD : H D = some (.lst acc)) (h : CodeV K v c H) : CodeV K v c (upd H D (.lst acc')) := by
  obtain ⟨a, vs, rfl, h, hh⟩ := h
  exact ⟨a, vs, rfl, tupLst hD h, hh.mono fun _ _ r => r.lst hD⟩
theorem rowStays : Stays (RowV K) := ⟨fun _ _ _ _ e h => h.same e, fun _ _ _ _ _ _ hD h => h.lst hD⟩
theorem codeStays : Stays (CodeV K) := ⟨fun _ _ _ _ e h => h.same e, fun _ _ _ _ _ _ hD h => h.lst hD⟩
theorem flatStays {β : Type} {f : β → V} : Stays (fun v b (_ : Hp) => v = f b) := ⟨fun _ _ _ _ _ h => h, fun _ _ _ _ _ _ _ h => h⟩
/-- values that are told -/
theorem all2_map {β : Type} {f : β → V} {H : Hp} : ∀ {ys : List V} {bs : List β}, All2 (fun v b => v = f b) ys bs → ys = bs.map f
  | [], [], _ => rfl
  | [], _ :: _, h => by simp [All2] at h
  | _ :: _, [], h => by simp [All2] at h
  | y :: ys, b :: bs, h => by
    rw [List.map_cons, ← h.tail.1, ← all2_map (H := H) h.tail.2]
/-! as data -/
def encR (r : List Nat) : PyData := .tuple (r.map fun (x : Nat) => PyData.int (x : Int))
def encC (c : List (List Nat)) : PyData := .tuple (c.map encR)
theorem dpNats : ∀ r : List Nat, DpAll K H (r.map iv) (r.map fun (x : Nat) => PyData.int (x : Int))
  | [] => .nil
  | x :: r => .cons (.int (x : Int)) (dpNats r)
theorem dpAll2 {β : Type} {R : V → β → Prop} {enc : β → PyData} (h : ∀ v b, R v b → Dp K H v (enc b)) : ∀ {vs : List V} {bs : List β}, All2 R vs bs → DpAll K H vs (bs.map enc)
  | [], [], _ => .nil
  | [], _ :: _, a => by simp [All2] at a
  | _ :: _, [], a => by simp [All2] at a
  | v :: vs, b :: bs, a => .cons (h v b a.tail.1) (dpAll2 h a.tail.2)
theorem RowV.dp {v : V} {r : List Nat} (h : RowV K v r H) : Dp K H v (encR r) := by
  obtain ⟨a, rfl, h⟩ := h
  exact .tup h (dpNats r)
theorem CodeV.dp {v : V} {c : List (List Nat)} (h : CodeV K v c H) : Dp K H v (encC c) := by
  obtain ⟨a, vs, rfl, h, hh⟩ := h
  exact .tup h (dpAll2 (fun _ _ r => r.dp) hh)
theorem RowsV.dp {v : V} {c : List (List Nat)} (h : RowsV K v c H) : Dp K H v (.list (c.map encR)) := by
  obtain ⟨a, vs, rfl, h, hh⟩ := h
  exact .lst h (dpAll2 (fun _ _ r => r.dp) hh)
theorem CodesV.dp {v : V} {c : List (List (List Nat))} (h : CodesV K v c H) : Dp K H v (.list (c.map encC)) := by
  obtain ⟨a, vs, rfl, h, hh⟩ := h
  exact .lst h (dpAll2 (fun _ _ r => r.dp) hh)
end
end Cn

set_option Elab.async false
set_option linter.all false
set_option maxRecDepth 100000
set_option maxHeartbeats 4000000
namespace Cn
open PySem PySem.Spec PyProof.Rows L2 XR
/-! the text by places -/
def topS (i : Nat) : Stmt := PySem.Challenge.pw_codenests_k18_whole_codes_by_themselves.main.body.getD i (.Pass ⟨0, 0, 0, 0⟩)
abbrev sIsNumber : Stmt := topS 5
abbrev sPower : Stmt := topS 6
abbrev sIsPrime : Stmt := topS 8
abbrev sInit : Stmt := inClass (topS 9) 0
abbrev sP : Stmt := inClass (topS 9) 2
abbrev sN : Stmt := inClass (topS 9) 3
abbrev sZero : Stmt := inClass (topS 9) 4
abbrev sUnits : Stmt := inClass (topS 9) 5
abbrev sInv : Stmt := inClass (topS 9) 6
/-! functions and methods that keep a promise -/
structure CallOk (P : Program) (w : World) (K : PySem.W.Frag) (mg : Str → Option Value) (base : Heap) (nm : Str) (k : Nat) (ps : List Str) (sp : Sp) : Prop where
  ex : ∃ f fd, FnOk P w K mg base CX0 k f fd ps sp ∧ mg nm = some (.ref f) ∧ PySem.W.keepIn K (.ref f) = true ∧ Binds K fd ps []
structure MethOk (P : Program) (w : World) (K : PySem.W.Frag) (mg : Str → Option Value) (base : Heap) (C : Addr) (m : Str) (k : Nat) (ps : List Str) (sp : Sp) : Prop where
  ex : ∃ f fd, FnOk P w K mg base CX0 k f fd ps sp ∧ Meth K C m f ∧ Binds K fd ps []
structure MakeOk (P : Program) (w : World) (K : PySem.W.Frag) (mg : Str → Option Value) (base : Heap) (C : Addr) (nm : Str) (k : Nat) (ps : List Str) (sp : Sp) : Prop where
  ex : ∃ f fd, FnOk P w K mg base CX0 k f fd ps sp ∧ Mk K C f ∧ mg nm = some (.ref C) ∧ Binds K fd ps []
section
variable {X : Cx} {nm : Str} {p pos apos : Pos} {e o : Expr} {es : List Expr} {t : TA} {to : TE} {k : Nat} {ps : List Str} {sp : Sp} {C : Addr}
theorem pcall (c : CallOk X.prog X.w X.K X.mg X.base nm k ps sp) (hr : Room k X.A) (ha : PA X (e :: es) t) (hg : Gl X nm := by rfl) (hdb : (nm == ("__debug__" : Str)) = false := by decide)
    (he : starEach (e :: es) X.env = (false, eval e X.env) :: starEach es X.env := by rfl) (hpl : (backTo pos (starEach es X.env)).any (·.1) = false := by rfl) : PE X (.Call (.Name nm p) (e :: es) [] pos) (tCall sp [] E0 t) := by
  obtain ⟨f, fd, F, hm, hk, hb⟩ := c.ex
  exact pe_call F hr hg hm hk hb .nil pass0 ha hdb he hpl
theorem pmake (c : MakeOk X.prog X.w X.K X.mg X.base C nm k ps sp) (hr : Room (k + 1) X.A) (ha : PA X (e :: es) t) (hg : Gl X nm := by rfl) (hdb : (nm == ("__debug__" : Str)) = false := by decide)
    (he : starEach (e :: es) X.env = (false, eval e X.env) :: starEach es X.env := by rfl) (hpl : (backTo pos (starEach es X.env)).any (·.1) = false := by rfl) : PE X (.Call (.Name nm p) (e :: es) [] pos) (tMake C sp [] E0 t) := by
  obtain ⟨f, fd, F, M, hm, hb⟩ := c.ex
  exact pe_make M F hr hg hm hb .nil pass0 ha hdb he hpl
theorem pmeth0 {pl : Sem Bool} (he : PE X o to) (c : Cls X.K C) (m : MethOk X.prog X.w X.K X.mg X.base C nm k ps sp) (hr : Room k X.A)
    (ht : eval (.Call (.Attribute o nm apos) [] [] pos) X.env = (do
      let ov ← eval o X.env
      standAt apos.atName
      let (f, first) ← holding [ov] (getMethod ov nm pl)
      callWith pos f first (backTo pos (starEach [] X.env)) (backToKw pos (keywordEach [] X.env))) := by rfl) : PE X (.Call (.Attribute o nm apos) [] [] pos) (tMeth C nm sp [] E0 to tNil) := by
  obtain ⟨f, fd, F, M, hb⟩ := m.ex
  exact pe_meth0 he c M F hr hb .nil pass0 ht
theorem pmeth {pl : Sem Bool} (he : PE X o to) (c : Cls X.K C) (m : MethOk X.prog X.w X.K X.mg X.base C nm k ps sp) (hr : Room k X.A) (ha : PA X (e :: es) t)
    (hst : starEach (e :: es) X.env = (false, eval e X.env) :: starEach es X.env := by rfl) (hpl : (backTo pos (starEach es X.env)).any (·.1) = false := by rfl)
    (ht : eval (.Call (.Attribute o nm apos) (e :: es) [] pos) X.env = (do
      let ov ← eval o X.env
      standAt apos.atName
      let (f, first) ← holding [ov] (getMethod ov nm pl)
      callWith pos f first (backTo pos (starEach (e :: es) X.env)) (backToKw pos (keywordEach [] X.env))) := by rfl) : PE X (.Call (.Attribute o nm apos) (e :: es) [] pos) (tMeth C nm sp [] E0 to t) := by
  obtain ⟨f, fd, F, M, hb⟩ := m.ex
  exact pe_meth he c M F hr hb .nil pass0 ha hst hpl ht
end
/-! rules that name the written part: for the blocks of comprehensions -/
section
variable {X : Cx} {K : PySem.W.Frag}
def rTupOf (K : PySem.W.Frag) : List V → Hp → VK → Prop := fun xs H Q => ∃ p ys, xs = [.ref p] ∧ ((SqL K H p ys ∧ ∀ l, H l = none → Q (.ref l) (upd H l (.tup ys))) ∨ (SqT K H p ys ∧ Q (.ref p) H))
theorem tupOfK (hK : X.K = K) : CallR X (.type "tuple") (rTupOf K) := by
  subst hK
  exact call_tuple_of
def rLstOf (K : PySem.W.Frag) : List V → Hp → VK → Prop := fun xs H Q => ∃ p ys, xs = [.ref p] ∧ (SqL K H p ys ∨ SqT K H p ys) ∧ ∀ l, H l = none → Q (.ref l) (upd H l (.lst ys))
theorem lstOfK (hK : X.K = K) : CallR X (.type "list") (rLstOf K) := by
  subst hK
  exact call_list_of
def rLenK (K : PySem.W.Frag) : List V → Hp → VK → Prop := fun xs H Q => ∃ p ys, xs = [.ref p] ∧ (SqL K H p ys ∨ SqT K H p ys) ∧ Q (.int ys.length) H
theorem lenK (hK : X.K = K) : CallR X (.builtin "len") (rLenK K) := by
  subst hK
  exact call_len_seq
theorem fldK {e : Expr} {ta : TE} {f : Str} {pos : Pos} (hK : X.K = K) (he : PE X e ta) (hb : attributeBase e f X.env (eval e X.env) = eval e X.env) : PE X (.Attribute e f pos) (tFld K ta f) := by
  subst hK
  exact pe_fld he hb
theorem ixtK (hK : X.K = K) : IxR X (rIxT K) := by
  subst hK
  exact ix_tup
theorem ixlK (hK : X.K = K) : IxR X (rIxL K) := by
  subst hK
  exact ix_list
theorem slAK (hK : X.K = K) : SlR X (rSlA K) := by
  subst hK
  exact sl_tupA
theorem notInK (hK : X.K = K) : OpR X (compareOp .NotIn) (rIn K true) := by
  subst hK
  exact op_notIn_seq
theorem starK {e : Expr} {es : List Expr} {p : Pos} {te : TE} {t : TA} (hK : X.K = K) (he : PE X e te) (ht : PA X es t) (hs : starEach (.Starred e p :: es) X.env = (true, eval e X.env) :: starEach es X.env := by rfl) : PA X (.Starred e p :: es) (StX.tStar K te t) := by
  subst hK
  exact StX.pa_star he ht hs
theorem tupG {es : List Expr} {k : Nat} {pos : Pos} {t : TGs} {n : Nat} (hK : X.K = K) (hc : X.calm = true) (h : PGs X es t) (hn : (assignEach es X.env).length = n := by rfl) (hst : (assignEach es X.env).findIdx? (·.1) = none := by rfl) : PG X (.Tuple es k pos) (gTup K n t) := by
  subst hK hn
  exact pg_tup hc h rfl hst
theorem listI {tg l : Expr} {tl : TE} (hK : X.K = K) (hl : PE X l tl) : PI X tg l (iList K tl) := by
  subst hK
  exact pi_list hl
theorem tupI {tg l : Expr} {tl : TE} (hK : X.K = K) (hl : PE X l tl) : PI X tg l (iTup K tl) := by
  subst hK
  exact pi_tup hl
end
/-! a ground at g -/
def gf (p n : Nat) : List (Str × V) := putF "length" (iv n) (putF "prime" (iv p) [])
theorem gn : ¬ (("prime" : Str) = "length") := by decide +kernel
theorem gf_p (p n : Nat) : (gf p n).lookup ("prime" : Str) = some (iv p) := by
  unfold gf
  rw [lookup_putF, if_neg gn, lookup_putF, if_pos rfl]
theorem gf_n (p n : Nat) : (gf p n).lookup ("length" : Str) = some (iv n) := by
  unfold gf
  rw [lookup_putF, if_pos rfl]
theorem gf_no (p n : Nat) {m : Str} (h1 : ¬ m = "length") (h2 : ¬ m = "prime") : (gf p n).lookup m = none := by
  unfold gf
  rw [lookup_putF, if_neg h1, lookup_putF, if_neg h2]
  all_goals rfl
def GroundAt (C : Addr) (v : V) (p n : Nat) (H : Hp) : Prop := ∃ g dx, v = .ref g ∧ H g = some (.ins C dx (gf p n))
theorem GroundAt.same {C : Addr} {v : V} {p n : Nat} {H H' : Hp} (e : Same H H') (h : GroundAt C v p n H) : GroundAt C v p n H' := by
  obtain ⟨g, dx, rfl, h⟩ := h
  exact ⟨g, dx, rfl, e _ _ h⟩
/-- what the top has left, but the program's defs -/
structure Txt (K : PySem.W.Frag) (mg : Str → Option Value) (C : Addr) : Prop where
  cl : Cls K C
  nP : NoAttr K C "prime"
  nL : NoAttr K C "length"
  mC : mg "Ground" = some (.ref C)
  isi : mg "isinstance" = none
  int : mg "int" = none
  bool : mg "bool" = none
  range : mg "range" = none
  tuple : mg "tuple" = none
  zip : mg "zip" = none
  enumerate : mg "enumerate" = none
  sorted : mg "sorted" = none
  all : mg "all" = none
  len : mg "len" = none
  list : mg "list" = none
  abs : mg "abs" = none
  max : mg "max" = none
  min : mg "min" = none
  repr : mg "repr" = none
section
variable {P : Program} {w : World} {K : PySem.W.Frag} {mg : Str → Option Value} {base : Heap} {C : Addr}
/-! is_number -/
def spIsNumber : Sp := fun vs H Q _ => ∃ n : Nat, vs = [iv n] ∧ Q (.bl true) H
theorem scIsNumber : FnScope ["value"] ["value"] (defScope sIsNumber) := ⟨rfl, rfl, rfl, by decide +kernel, rfl, by decide +kernel, by decide +kernel⟩
theorem ok_is_number {f : Addr} {fd : FuncData} (F : Fun K "is_number" "is_number" sIsNumber f fd) (T : Txt K mg C) : FnOk P w K mg base CX0 1 f fd ["value"] spIsNumber := by
  refine F.ok scIsNumber (fun vs H Q E h => ?_) (fun cdv A outer s H vs Q E hr h => ?_)
  · obtain ⟨n, rfl, _⟩ := h
    rfl
  · obtain ⟨n, rfl, q⟩ := h
    refine ⟨_, pss_one (ps_ret (pe_and (pe_callB call_isi (by rfl) T.isi boot_isinstance (pa_cons (pv 0) (pa_cons (pe_bltn (v := .ty "int") (by rfl) T.int boot_int rfl) pa_nil)))
      (pe_and (pe_not (pe_callB call_isi (by rfl) T.isi boot_isinstance (pa_cons (pv 0) (pa_cons (pe_bltn (v := .ty "bool") (by rfl) T.bool boot_bool rfl) pa_nil))))
      (pe_one (pe_cmpR op_ge (pv 0) pe_int (nomark _)))))), ?_⟩
    refine ⟨_, rfl, _, _, _, _, true, rfl, .ty "int", .base (.int _), kit_ty (by decide +kernel), true, rfl, iteT ?_⟩
    refine ⟨_, rfl, _, _, _, _, false, rfl, .ty "bool", .base (.int _), kit_ty (by decide +kernel), false, rfl, true, rfl, iteT ?_⟩
    refine ⟨_, rfl, _, _, rfl, rfl, ?_⟩
    have e : decide ((0 : Int) ≤ (n : Int)) = true := decide_eq_true (by omega)
    show Q (V.bl (decide ((0 : Int) ≤ (n : Int)))) H
    rw [e]
    exact q
/-! power -/
def spPower : Sp := fun vs H Q _ => ∃ b m : Nat, vs = [iv b, iv m] ∧ b ≤ 13 ∧ m ≤ 16 ∧ Q (iv (b ^ m)) H
theorem scPower : FnScope ["number", "many", "found", "lap"] ["number", "many"] (defScope sPower) := ⟨rfl, rfl, rfl, by decide +kernel, rfl, by decide +kernel, by decide +kernel⟩
theorem powBound {b m : Nat} (hb : b ≤ 13) (hm : m ≤ 16) : ((b ^ m : Nat) : Int) < 2 ^ 64 := by
  have h1 : b ^ m ≤ 13 ^ m := Nat.pow_le_pow_left hb m
  have h2 : 13 ^ m ≤ 13 ^ 16 := Nat.pow_le_pow_right (by decide) hm
  have h3 : (13 : Nat) ^ 16 < 2 ^ 64 := by decide
  have h4 : b ^ m < 2 ^ 64 := by omega
  exact_mod_cast h4
theorem ok_power {f : Addr} {fd : FuncData} (F : Fun K "power" "power" sPower f fd) (T : Txt K mg C) : FnOk P w K mg base CX0 1 f fd ["number", "many"] spPower := by
  refine F.ok scPower (fun vs H Q E h => ?_) (fun cdv A outer s H vs Q E hr h => ?_)
  · obtain ⟨b, m, rfl, _⟩ := h
    rfl
  · obtain ⟨b, m, rfl, hb, hm, q⟩ := h
    refine ⟨_, pss_cons (ps_set (i := 2) scPower.nd rfl (.inl rfl) pe_int)
      (pss_cons (ps_for PassesOwn.never rfl (pi_range1 (by rfl) T.range (pa_cons (pv 1) pa_nil)) (pg_name (i := 3) scPower.nd rfl (.inl rfl)) (pss_one (ps_aug (i := 2) scPower.nd rfl (.inl rfl) (pv 0) ip_mul)))
      (pss_one (ps_ret (pv 2)))), ?_⟩
    refine ⟨_, rfl, (m : Int), rfl, by omega, by omega, for_range (n := m) (fun i σ H' => H' = H ∧ ∃ y, σ = [some (iv b), some (iv m), some (iv (b ^ i)), y]) ⟨rfl, none, rfl⟩ ?_ ?_⟩
    · rintro i σ H' hi ⟨rfl, y, rfl⟩
      refine ⟨_, rfl, _, rfl, _, _, rfl, rfl, .inl ⟨?_, powBound hb (by omega)⟩, rfl, some (iv i), ?_⟩
      · have : (0 : Int) ≤ ((b ^ i : Nat) : Int) := Int.natCast_nonneg _
        omega
      · have e : ((b ^ i : Nat) : Int) * (b : Int) = ((b ^ (i + 1) : Nat) : Int) := by rw [Nat.pow_succ, Int.natCast_mul]
        show [some (iv b), some (iv m), some (V.int (((b ^ i : Nat) : Int) * (b : Int))), some (V.int (0 + (i : Int)))] = _
        rw [e, Int.zero_add]
    · rintro σ H' ⟨rfl, y, rfl⟩
      exact ⟨_, rfl, q⟩
/-! is_prime -/
def PrimeOk (n : Nat) : Prop := 2 ≤ n ∧ n ≤ 13 ∧ ∀ d, 2 ≤ d → d * d ≤ n → n % d ≠ 0
def spIsPrime : Sp := fun vs H Q _ => ∃ n : Nat, vs = [iv n] ∧ PrimeOk n ∧ Q (.bl true) H
theorem scIsPrime : FnScope ["value", "factor"] ["value"] (defScope sIsPrime) := ⟨rfl, rfl, rfl, by decide +kernel, rfl, by decide +kernel, by decide +kernel⟩
theorem ok_is_prime {f : Addr} {fd : FuncData} (F : Fun K "is_prime" "is_prime" sIsPrime f fd) (c1 : CallOk P w K mg base "is_number" 1 ["value"] spIsNumber) : FnOk P w K mg base CX0 2 f fd ["value"] spIsPrime := by
  refine F.ok scIsPrime (fun vs H Q E h => ?_) (fun cdv A outer s H vs Q E hr h => ?_)
  · obtain ⟨n, rfl, _⟩ := h
    rfl
  · obtain ⟨n, rfl, ⟨h2, h13, hp⟩, q⟩ := h
    refine ⟨_, pss_cons (ps_if (PW.pt (pw_or (pt_not (pt_val (pcall c1 hr (pa_cons (pv 0) pa_nil)))) (pw_or1 (pt_cmpR op_lt (pv 0) pe_int (nomark _))))) (pss_one ps_never) pss_nil)
      (pss_cons (ps_set (i := 1) scIsPrime.nd rfl (.inl rfl) pe_int)
      (pss_cons (ps_while PassesOwn.never (pt_cmpR op_le (pe_op op_mul (pv 1) (pv 1)) (pv 0) (nomark _))
        (pss_cons (ps_if (pt_cmpR op_eq (pe_op op_mod (pv 0) (pv 1)) pe_int (nomark _)) (pss_one ps_never) pss_nil)
        (pss_one (ps_aug (i := 1) scIsPrime.nd rfl (.inl rfl) pe_int ip_add))))
      (pss_one (ps_ret pe_bl)))), ?_⟩
    refine ⟨_, rfl, n, rfl, true, rfl, iteF ⟨_, rfl, _, _, rfl, rfl, _, rfl, ?_⟩⟩
    rw [decide_eq_false (by omega)]
    refine iteF ⟨fun m σ H' => H' = H ∧ ∃ d : Nat, 2 ≤ d ∧ d ≤ 14 ∧ m = n + 1 - d ∧ σ = [some (iv n), some (iv d)], ⟨n + 1 - 2, rfl, 2, Nat.le_refl _, by decide, rfl, rfl⟩, ?_⟩
    rintro m σ H' ⟨rfl, d, hd, hd2, rfl, rfl⟩
    refine ⟨_, rfl, _, rfl, _, _, rfl, rfl, ?_, ?_⟩
    · exact .inl ⟨by omega, by omega⟩
    refine ⟨_, rfl, _, _, rfl, rfl, _, rfl, ite2 (fun e => ?_) (fun e => q)⟩
    have e1 : d * d ≤ n := by
      have e2 := of_decide_eq_true e
      exact_mod_cast e2
    refine ⟨fun σ' H'' => H'' = H' ∧ σ' = [some (iv n), some (iv (d + 1))], fun σ' H'' z => ?_, ?_⟩
    · obtain ⟨rfl, rfl⟩ := z
      have h3 : d ≤ n := Nat.le_trans (Nat.le_mul_self d) e1
      exact ⟨n + 1 - (d + 1), by omega, rfl, d + 1, by omega, by omega, rfl, rfl⟩
    · refine ⟨_, rfl, _, rfl, _, _, rfl, rfl, ?_, rfl, _, rfl, ?_⟩
      · show (0 : Int) < (d : Int)
        omega
      · refine ite2 (fun z => absurd (of_decide_eq_true z) fun z => ?_) (fun _ => ?_)
        · have z1 : (n : Int) % (d : Int) = 0 := V.int.inj z
          have z2 : n % d = 0 := by exact_mod_cast z1
          exact hp d hd e1 z2
        · exact ⟨_, rfl, _, _, rfl, rfl, rfl, rfl⟩
/-! Ground's __init__ -/
def spInit (C : Addr) : Sp := fun vs H Q _ => ∃ (x dx : Addr) (p n : Nat), vs = [.ref x, iv p, iv n] ∧ PrimeOk p ∧ H x = some (.ins C dx []) ∧ ∀ H', (∀ b o, H b = some o → b ≠ x → H' b = some o) → H' x = some (.ins C dx (gf p n)) → Q .non H'
theorem scInit : FnScope ["self", "p", "n"] ["self", "p", "n"] (defScope sInit) := ⟨rfl, rfl, rfl, by decide +kernel, rfl, by decide +kernel, by decide +kernel⟩
theorem ok_init {f : Addr} {fd : FuncData} (F : Fun K "__init__" "Ground.__init__" sInit f fd) (T : Txt K mg C) (c1 : CallOk P w K mg base "is_number" 1 ["value"] spIsNumber) (c2 : CallOk P w K mg base "is_prime" 2 ["value"] spIsPrime) :
    FnOk P w K mg base CX0 3 f fd ["self", "p", "n"] (spInit C) := by
  refine F.ok scInit (fun vs H Q E h => ?_) (fun cdv A outer s H vs Q E hr h => ?_)
  · obtain ⟨x, dx, p, n, rfl, _⟩ := h
    rfl
  · obtain ⟨x, dx, p, n, rfl, hp, hx, q⟩ := h
    refine ⟨_, pss_cons (ps_if (pt_not (pt_val (pcall c2 hr (pa_cons (pv 1) pa_nil)))) (pss_one ps_never) pss_nil)
      (pss_cons (ps_if (pt_not (pt_val (pcall c1 (hr.mono (by decide)) (pa_cons (pv 2) pa_nil)))) (pss_one ps_never) pss_nil)
      (pss_cons (ps_fld (pv 0) (pv 1) rfl) (pss_one (ps_fld (pv 0) (pv 2) rfl)))), ?_⟩
    refine ⟨_, rfl, p, rfl, hp, true, rfl, iteF ⟨_, rfl, n, rfl, true, rfl, iteF ?_⟩⟩
    refine ⟨_, rfl, _, rfl, x, C, dx, [], rfl, hx, T.cl, T.nP, (by show 0 < 1000; decide), ?_⟩
    refine ⟨_, rfl, _, rfl, x, C, dx, _, rfl, upd_same, T.cl, T.nL, (by show 1 < 1000; decide), ?_⟩
    refine q _ (fun b o e hb => ?_) upd_same
    rw [upd_ne hb, upd_ne hb]
    exact e
/-! p, n -/
def spP (C : Addr) : Sp := fun vs H Q _ => ∃ (g : V) (p n : Nat), vs = [g] ∧ GroundAt C g p n H ∧ Q (iv p) H
def spN (C : Addr) : Sp := fun vs H Q _ => ∃ (g : V) (p n : Nat), vs = [g] ∧ GroundAt C g p n H ∧ Q (iv n) H
theorem scP : FnScope ["self"] ["self"] (defScope sP) := ⟨rfl, rfl, rfl, by decide +kernel, rfl, by decide +kernel, by decide +kernel⟩
theorem scN : FnScope ["self"] ["self"] (defScope sN) := ⟨rfl, rfl, rfl, by decide +kernel, rfl, by decide +kernel, by decide +kernel⟩
theorem ok_p {f : Addr} {fd : FuncData} (F : Fun K "p" "Ground.p" sP f fd) (T : Txt K mg C) : FnOk P w K mg base CX0 1 f fd ["self"] (spP C) := by
  refine F.ok scP (fun vs H Q E h => ?_) (fun cdv A outer s H vs Q E hr h => ?_)
  · obtain ⟨g, p, n, rfl, _⟩ := h
    rfl
  · obtain ⟨_, p, n, rfl, ⟨g, dx, rfl, hg⟩, q⟩ := h
    exact ⟨_, pss_one (ps_ret (pe_fld (pv 0) rfl)), _, rfl, g, C, dx, _, _, rfl, hg, T.cl, T.nP, gf_p _ _, q⟩
theorem ok_n {f : Addr} {fd : FuncData} (F : Fun K "n" "Ground.n" sN f fd) (T : Txt K mg C) : FnOk P w K mg base CX0 1 f fd ["self"] (spN C) := by
  refine F.ok scN (fun vs H Q E h => ?_) (fun cdv A outer s H vs Q E hr h => ?_)
  · obtain ⟨g, p, n, rfl, _⟩ := h
    rfl
  · obtain ⟨_, p, n, rfl, ⟨g, dx, rfl, hg⟩, q⟩ := h
    exact ⟨_, pss_one (ps_ret (pe_fld (pv 0) rfl)), _, rfl, g, C, dx, _, _, rfl, hg, T.cl, T.nL, gf_n _ _, q⟩
theorem use_p {g : V} {p n : Nat} {H : Hp} {σ : L2.St} {E : XK} {Q : VK} (h : GroundAt C g p n H) (q : Q (iv p) H) : ∃ a dx fs, g = V.ref a ∧ H a = some (.ins C dx fs) ∧ fs.lookup ("p" : Str) = none ∧ tNil σ H fun vs H2 => spP C (g :: (vs ++ [])) H2 Q E := by
  obtain ⟨a, dx, rfl, hg⟩ := id h
  exact ⟨a, dx, _, rfl, hg, gf_no _ _ (by decide +kernel) (by decide +kernel), _, p, n, rfl, h, q⟩
theorem use_n {g : V} {p n : Nat} {H : Hp} {σ : L2.St} {E : XK} {Q : VK} (h : GroundAt C g p n H) (q : Q (iv n) H) : ∃ a dx fs, g = V.ref a ∧ H a = some (.ins C dx fs) ∧ fs.lookup ("n" : Str) = none ∧ tNil σ H fun vs H2 => spN C (g :: (vs ++ [])) H2 Q E := by
  obtain ⟨a, dx, rfl, hg⟩ := id h
  exact ⟨a, dx, _, rfl, hg, gf_no _ _ (by decide +kernel) (by decide +kernel), _, p, n, rfl, h, q⟩
/-! zero -/
def spZero (K : PySem.W.Frag) (C : Addr) : Sp := fun vs H Q _ => ∃ (g : V) (p n : Nat), vs = [g] ∧ GroundAt C g p n H ∧ n ≤ 100 ∧ Ret (fun v => RowV K v (zero n)) H Q
theorem scZero : FnScope ["self"] ["self"] (defScope sZero) := ⟨rfl, rfl, rfl, by decide +kernel, rfl, by decide +kernel, by decide +kernel⟩
theorem zero_map (n : Nat) : (List.replicate n [V.int 0]).flatten = (zero n).map iv := by
  unfold zero
  induction n with
  | zero => rfl
  | succ n ih => rw [List.replicate_succ, List.replicate_succ, List.flatten_cons, List.map_cons, ih]; rfl
theorem ok_zero {f : Addr} {fd : FuncData} (F : Fun K "zero" "Ground.zero" sZero f fd) (T : Txt K mg C) : FnOk P w K mg base CX0 1 f fd ["self"] (spZero K C) := by
  refine F.ok scZero (fun vs H Q E h => ?_) (fun cdv A outer s H vs Q E hr h => ?_)
  · obtain ⟨g, p, n, rfl, _⟩ := h
    rfl
  · obtain ⟨_, p, n, rfl, ⟨g, dx, rfl, hg⟩, hn, q⟩ := h
    refine ⟨_, pss_one (ps_ret (pe_op op_repA (pe_tup (pa_cons pe_int pa_nil)) (pe_fld (pv 0) rfl))), ?_⟩
    refine ⟨fl (by decide), fun t ht => ?_⟩
    refine ⟨_, rfl, g, C, dx, _, _, rfl, sNew ht _ _ hg, T.cl, T.nL, gf_n _ _, ?_⟩
    refine ⟨t, (n : Int), [V.int 0], rfl, rfl, .inl (.inl upd_same), by simp, by omega, by omega, by decide, fun p' H' e' hT => ?_⟩
    refine q _ _ ((sNew ht).trans e') ⟨p', rfl, ?_⟩
    rw [show (n : Int).toNat = n from rfl, zero_map] at hT
    exact hT
end
end Cn

set_option Elab.async false
set_option linter.all false
set_option maxRecDepth 100000
set_option maxHeartbeats 4000000
namespace Cn
open PySem PySem.Spec PyProof.Rows L2 XR
abbrev sAdded : Stmt := topS 11
abbrev sScaled : Stmt := topS 12
abbrev sSubtracted : Stmt := topS 13
abbrev sCombined : Stmt := topS 14
abbrev sPivot : Stmt := topS 15
/-! lists -/
theorem outOf_all {β : Type} (n : Nat) (f : Nat → β) : outOf n (fun _ => true) f = (List.range n).map f := by
  unfold outOf
  rw [List.filter_eq_self.mpr (fun _ _ => rfl)]
theorem range_getD {β : Type} (l : List β) (d : β) : (List.range l.length).map (fun i => l.getD i d) = l := by
  refine List.ext_getElem (by simp) fun i h1 h2 => ?_
  simp [h2]
theorem zipWith_range {α β γ : Type} (f : α → β → γ) (a : List α) (b : List β) (da : α) (db : β) : (List.range (min a.length b.length)).map (fun i => f (a.getD i da) (b.getD i db)) = List.zipWith f a b := by
  refine List.ext_getElem (by simp) fun i h1 h2 => ?_
  have h3 : i < a.length := by simp at h1; omega
  have h4 : i < b.length := by simp at h1; omega
  simp [h3, h4]
theorem getD_of {α : Type} {l : List α} {i : Nat} {x d : α} (h : l[i]? = some x) : l.getD i d = x := by
  rw [List.getD_eq_getElem?_getD, h]
  rfl
theorem drop_at {α : Type} {l : List α} {i : Nat} {x : α} (h : l[i]? = some x) : l.drop i = x :: l.drop (i + 1) := by
  obtain ⟨h1, h2⟩ := List.getElem?_eq_some_iff.mp h
  rw [List.drop_eq_getElem_cons h1, h2]
section
variable {K : PySem.W.Frag} {a b : Addr} {xs ys : List V}
theorem walk_zipT {n : Nat} (hn : n = min xs.length ys.length) : Walk (RZ.ItzT K a b) n (fun H => SqT K H a xs ∧ SqT K H b ys) (YPair (fun i => xs[i]?) (fun i => ys[i]?)) := by
  subst hn
  refine ⟨fun i _ hi q => ⟨xs, ys, xs[i]'(by omega), ys[i]'(by omega), q.1, q.2, List.getElem?_eq_getElem _, List.getElem?_eq_getElem _⟩, fun _ q => ⟨xs, ys, q.1, q.2, by omega⟩, fun i H v H' _ q y => ?_⟩
  obtain ⟨T, x, z, h1, h2, h3, h4, h5⟩ := y
  exact ⟨T, x, z, h1, h2, h3, h4 xs q.1, h5 ys q.2⟩
theorem walk_enumT : Walk (IteT K a) xs.length (fun H => SqT K H a xs) (YPair (fun i => some (.int (i : Nat))) (fun i => xs[i]?)) := by
  refine ⟨fun i _ hi q => ⟨xs, xs[i], q, List.getElem?_eq_getElem hi⟩, fun _ q => ⟨xs, q, Nat.le_refl _⟩, fun i H v H' _ q y => ?_⟩
  obtain ⟨T, x, h1, h2, h3, h4⟩ := y
  exact ⟨T, .int (i : Nat), x, h1, h2, h3, rfl, h4 xs q⟩
end
theorem iv_at {r : List Nat} {i : Nat} {x : V} (h : (r.map iv)[i]? = some x) : ∃ y, r[i]? = some y ∧ x = iv y := by
  rw [List.getElem?_map] at h
  cases e : r[i]? with
  | none =>
    rw [e] at h
    cases h
  | some y =>
    rw [e] at h
    exact ⟨y, rfl, (Option.some.inj h).symm⟩
theorem iv_of {r : List Nat} {i : Nat} {y : Nat} (h : r[i]? = some y) : (r.map iv)[i]? = some (iv y) := by
  rw [List.getElem?_map, h]
  rfl
theorem addE_int (p a b : Nat) : ((a : Int) + (b : Int)) % (p : Int) = ((addE p a b : Nat) : Int) := by
  unfold addE
  push_cast
  rfl
theorem mulE_int (p a b : Nat) : ((a : Int) * (b : Int)) % (p : Int) = ((a * b % p : Nat) : Int) := by
  push_cast
  rfl
theorem subE_int {p : Nat} (hp : 0 < p) (a b : Nat) : ((a : Int) - (b : Int)) % (p : Int) = ((subE p a b : Nat) : Int) := by
  have h0 : (0 : Int) < (p : Int) := by omega
  unfold subE
  split
  · rename_i h
    have e : ((a + (p - b) : Nat) : Int) = ((a : Int) - (b : Int)) + (p : Int) := by omega
    rw [Int.natCast_emod, e, Int.add_emod_right]
  · rw [Int.toNat_of_nonneg (Int.emod_nonneg _ (by omega))]
section
variable {P : Program} {w : World} {K : PySem.W.Frag} {mg : Str → Option Value} {base : Heap} {C : Addr}
/-! units -/
def spUnits (K : PySem.W.Frag) (C : Addr) : Sp := fun vs H Q _ => ∃ (g : V) (p n : Nat), vs = [g] ∧ GroundAt C g p n H ∧ n ≤ 100 ∧ Ret (fun v => CodeV K v ((List.range n).map (unit n))) H Q
theorem scUnits : FnScope ["self", "k", "column"] ["self"] (defScope sUnits) := ⟨rfl, rfl, rfl, by decide +kernel, rfl, by decide +kernel, by decide +kernel⟩
theorem ok_units {f : Addr} {fd : FuncData} (F : Fun K "units" "Ground.units" sUnits f fd) (T : Txt K mg C) : FnOk P w K mg base CX0 1 f fd ["self"] (spUnits K C) := by
  refine F.ok scUnits (fun vs H Q E h => ?_) (fun cdv A outer s H vs Q E hr h => ?_)
  · obtain ⟨g, p, n, rfl, _⟩ := h
    rfl
  · obtain ⟨_, p, n, rfl, ⟨g, dx, rfl, hg⟩, hn, q⟩ := h
    refine ⟨_, pss_one (ps_ret (pe_callTy call_tuple_of (by rfl) T.tuple boot_tuple (pa_cons
      (pe_lc (own := [("k", 1)]) (g := gName 1) (tt := tYes) rfl scUnits.nd (pi_range1 (by rfl) T.range (pa_cons (pe_fld (pv 0) rfl) pa_nil)) (blkOk_by (N := ["self", "k", "column"]) (sc := defScope sUnits) (by decide +kernel))
        (fun _ _ _ _ _ => pg_name (i := 1) scUnits.nd rfl (Or.inr rfl)) (fun _ _ _ _ _ => pts_nil)
        (fun _ _ _ _ _ => by exact (pe_callTy (tupOfK (K := K) rfl) (by rfl) T.tuple boot_tuple (pa_cons
          (pe_lc (own := [("column", 2)]) (g := gName 2) (tt := tYes) rfl scUnits.nd (pi_range1 (by rfl) T.range (pa_cons (fldK (K := K) rfl (pv 0) rfl) pa_nil)) (blkOk_by (by rfl))
            (fun _ _ _ _ _ => pg_name (i := 2) scUnits.nd rfl (Or.inl rfl)) (fun _ _ _ _ _ => pts_nil)
            (fun _ _ _ _ _ => pe_callTy call_int1 (by rfl) T.int boot_int (pa_cons (pe_cmpR op_eq (pv 1) (pv 2) (nomark _)) pa_nil))) pa_nil)))) pa_nil))), ?_⟩
    refine ⟨_, rfl, g, C, dx, _, _, rfl, hg, T.cl, T.nL, gf_n _ _, n, rfl, by omega, by omega, ?_⟩
    refine lcP (walk_range (lo := 0) (n := n)) (by omega) (fun _ _ => trivial) (fun _ => true) (unit n) (RowV K) rowStays (fun i x H1 H2 P' hi s1 hy k => ?_) (fun D ys H' hD e hDl ha => ?_)
    · obtain ⟨rfl, rfl⟩ := hy
      refine k _ _ rfl (Same.refl _) yes_ev fun _ H3 s3 Q' q' => ?_
      refine ⟨_, rfl, g, C, dx, _, _, rfl, s3 _ _ (s1 _ _ hg), T.cl, T.nL, gf_n _ _, n, rfl, by omega, by omega, ?_⟩
      refine lcP (walk_range (lo := 0) (n := n)) (by omega) (fun _ _ => trivial) (fun _ => true) (fun c => if i = c then 1 else 0) (fun v b _ => v = iv b) flatStays (fun c y H4 H5 P'' hc s4 hy k' => ?_) (fun D' ys' H' hD' e' hDl' ha' => ?_)
      · obtain ⟨rfl, rfl⟩ := hy
        refine k' _ _ rfl (Same.refl _) yes_ev fun _ H6 s6 Q'' q'' => ?_
        refine ⟨_, rfl, _, rfl, rfl, .inr ⟨_, rfl, ?_⟩⟩
        refine q'' _ _ (Same.refl _) ?_
        by_cases hic : i = c
        · subst hic
          simp
        · have : ¬ V.int (0 + (i : Int)) = V.int (0 + (c : Int)) := fun z => hic (by have := V.int.inj z; omega)
          simp [hic]
          omega
      · have ey := all2_map (H := H') ha'
        subst ey
        refine ⟨D', _, rfl, .inl ⟨SqL.of hDl', fun l hl => q' _ _ (e'.trans (sNew hl)) ⟨l, rfl, ?_⟩⟩⟩
        rw [outOf_all]
        exact .inl (.inl upd_same)
    · refine ⟨D, _, rfl, .inl ⟨SqL.of hDl, fun l hl => q _ _ (e.trans (sNew hl)) ⟨l, ys, rfl, .inl (.inl upd_same), ?_⟩⟩⟩
      rw [outOf_all] at ha
      exact ha.mono fun _ _ r => r.same (sNew hl)
/-! inverse_of -/
theorem inv_spec {p x i : Nat} (h : inv p x = some i) : ∃ j, i = 1 + j ∧ j < p - 1 ∧ x * (1 + j) % p = 1 ∧ ∀ k, k < j → ¬ x * (1 + k) % p = 1 := by
  unfold inv at h
  rw [List.find?_eq_some_iff_getElem] at h
  obtain ⟨h1, j, hj, h2, h3⟩ := h
  have e : ∀ k (hk : k < (List.range' 1 (p - 1)).length), (List.range' 1 (p - 1))[k] = 1 + k := fun k hk => by simp
  rw [List.length_range'] at hj
  refine ⟨j, by rw [← h2, e], hj, ?_, fun k hk z => ?_⟩
  · rw [← e j (by simpa using hj), h2]
    exact eq_of_beq h1
  · have q := h3 k hk
    rw [e k] at q
    rw [z] at q
    simp at q
def spInv (C : Addr) : Sp := fun vs H Q _ => ∃ (g : V) (p n x i : Nat), vs = [g, iv x] ∧ GroundAt C g p n H ∧ 0 < p ∧ p ≤ 1000 ∧ x < 1000 ∧ inv p x = some i ∧ Q (iv i) H
theorem scInv : FnScope ["self", "number", "other"] ["self", "number"] (defScope sInv) := ⟨rfl, rfl, rfl, by decide +kernel, rfl, by decide +kernel, by decide +kernel⟩
theorem ok_inv {f : Addr} {fd : FuncData} (F : Fun K "inverse_of" "Ground.inverse_of" sInv f fd) (T : Txt K mg C) : FnOk P w K mg base CX0 1 f fd ["self", "number"] (spInv C) := by
  refine F.ok scInv (fun vs H Q E h => ?_) (fun cdv A outer s H vs Q E hr h => ?_)
  · obtain ⟨g, p, n, x, i, rfl, _⟩ := h
    rfl
  · obtain ⟨_, p, n, x, i, rfl, ⟨g, dx, rfl, hg⟩, h0, hp, hx, hi, q⟩ := h
    obtain ⟨j, rfl, hj, h1, h2⟩ := inv_spec hi
    refine ⟨_, pss_cons (ps_for PassesOwn.never rfl (pi_range2 (by rfl) T.range (pa_cons pe_int (pa_cons (pe_fld (pv 0) rfl) pa_nil))) (pg_name (i := 2) scInv.nd rfl (.inl rfl))
        (pss_one (ps_if (pt_cmpR op_eq (pe_op op_mod (pe_op op_mul (pv 1) (pv 2)) (pe_fld (pv 0) rfl)) pe_int (nomark _)) (pss_one (ps_ret (pv 2))) pss_nil)))
      (pss_one (ps_ret pe_non)), ?_⟩
    refine ⟨_, rfl, g, C, dx, _, _, rfl, hg, T.cl, T.nP, gf_p _ _, 1, p, rfl, ⟨by omega, by omega, by omega, by omega⟩, ?_⟩
    have en : ((p : Int) - 1).toNat = p - 1 := by omega
    refine for_range (lo := 1) (n := ((p : Int) - 1).toNat) (fun i σ H' => H' = H ∧ i ≤ j ∧ ∃ y, σ = [some (.ref g), some (iv x), y]) ⟨rfl, Nat.zero_le _, none, rfl⟩ ?_ ?_
    · rintro k σ H' hk ⟨rfl, hkj, y, rfl⟩
      refine ⟨_, rfl, _, rfl, _, _, rfl, rfl, .inl ⟨by omega, by omega⟩, ?_⟩
      refine ⟨_, rfl, g, C, dx, _, _, rfl, hg, T.cl, T.nP, gf_p _ _, _, _, rfl, rfl, by omega, rfl, _, rfl, ?_⟩
      have e1 : (x : Int) * (1 + (k : Int)) % (p : Int) = ((x * (1 + k) % p : Nat) : Int) := by push_cast; rfl
      refine ite2 (fun z => ?_) (fun z => ?_)
      · have z1 : (x : Int) * (1 + (k : Int)) % (p : Int) = 1 := V.int.inj (of_decide_eq_true z)
        rw [e1] at z1
        have z2 : x * (1 + k) % p = 1 := by exact_mod_cast z1
        by_cases hkj' : k < j
        · exact absurd z2 (h2 k hkj')
        · obtain rfl : k = j := by omega
          refine ⟨_, rfl, ?_⟩
          have e2 : V.int (1 + (k : Int)) = iv (1 + k) := by
            show V.int (1 + (k : Int)) = V.int ((1 + k : Nat) : Int)
            rw [Int.natCast_add]
            rfl
          show Q (V.int (1 + (k : Int))) _
          rw [e2]
          exact q
      · refine ⟨rfl, ?_, _, rfl⟩
        by_cases hkj' : k < j
        · omega
        · obtain rfl : k = j := by omega
          refine absurd (decide_eq_true ?_) z
          show V.int ((x : Int) * (1 + (k : Int)) % (p : Int)) = V.int 1
          rw [e1, h1]
          rfl
    · rintro σ H' ⟨rfl, hkj, y, rfl⟩
      omega
/-! added, subtracted -/
def spZipE (K : PySem.W.Frag) (C : Addr) (f : Nat → List Nat → List Nat → List Nat) : Sp := fun vs H Q _ => ∃ (g v1 v2 : V) (p n : Nat) (r1 r2 : List Nat), vs = [g, v1, v2] ∧ GroundAt C g p n H ∧ 0 < p ∧ RowV K v1 r1 H ∧ RowV K v2 r2 H ∧ r1.length ≤ 1000 ∧ Ret (fun v => RowV K v (f p r1 r2)) H Q
theorem scAdded : FnScope ["ground", "one", "other", "left", "right"] ["ground", "one", "other"] (defScope sAdded) := ⟨rfl, rfl, rfl, by decide +kernel, rfl, by decide +kernel, by decide +kernel⟩
theorem scSubtracted : FnScope ["ground", "one", "other", "left", "right"] ["ground", "one", "other"] (defScope sSubtracted) := ⟨rfl, rfl, rfl, by decide +kernel, rfl, by decide +kernel, by decide +kernel⟩
theorem ok_added {f : Addr} {fd : FuncData} (F : Fun K "added" "added" sAdded f fd) (T : Txt K mg C) (mP : MethOk P w K mg base C "p" 1 ["self"] (spP C)) : FnOk P w K mg base CX0 2 f fd ["ground", "one", "other"] (spZipE K C added) := by
  refine F.ok scAdded (fun vs H Q E h => ?_) (fun cdv A outer s H vs Q E hr h => ?_)
  · obtain ⟨g, v1, v2, p, n, r1, r2, rfl, _⟩ := h
    rfl
  · obtain ⟨g, _, _, p, n, r1, r2, rfl, hg, h0, ⟨a1, rfl, hr1⟩, ⟨a2, rfl, hr2⟩, hl, q⟩ := h
    refine ⟨_, pss_one (ps_ret (pe_callTy call_tuple_of (by rfl) T.tuple boot_tuple (pa_cons
      (pe_lc (own := [("left", 3), ("right", 4)]) (tt := tYes) rfl scAdded.nd (RZ.pi_zipA (by rfl) T.zip (pa_cons (pv 1) (pa_cons (pv 2) pa_nil))) (blkOk_by (N := ["ground", "one", "other", "left", "right"]) (sc := defScope sAdded) (by decide +kernel))
        (fun _ _ _ _ _ => by exact (tupG (n := 2) (K := K) rfl rfl (pgs_cons (pg_name (i := 3) scAdded.nd rfl (.inl rfl)) (pgs_cons (pg_name (i := 4) scAdded.nd rfl (.inl rfl)) pgs_nil)))) (fun _ _ _ _ _ => pts_nil)
        (fun _ _ _ _ _ => by exact (pe_op op_mod (pe_op op_add (pv 3) (pv 4)) (pmeth0 (pv 0) T.cl mP hr)))) pa_nil))), ?_⟩
    refine ⟨_, rfl, _, rfl, a1, a2, _, _, rfl, .inr ⟨hr1, hr2, ?_⟩⟩
    refine lcP (walk_zipT (n := min r1.length r2.length) (by simp)) (by omega) (fun H1 e => ⟨sTup e hr1, sTup e hr2⟩) (fun _ => true) (fun i => addE p (r1.getD i 0) (r2.getD i 0)) (fun v b _ => v = iv b) flatStays (fun i x H1 H2 P' hi s1 hy k => ?_) (fun D ys H' hD e hDl ha => ?_)
    · obtain ⟨U, x, y, rfl, hU, rfl, hx, hy⟩ := hy
      obtain ⟨x, ex, rfl⟩ := iv_at hx
      obtain ⟨y, ey, rfl⟩ := iv_at hy
      refine ⟨U, [iv x, iv y], rfl, .inl (.inl upd_same), rfl, _, _, rfl, _, _, rfl, rfl, k _ _ rfl (sNew hU) yes_ev fun _ H3 s3 Q' q' => ?_⟩
      refine ⟨_, rfl, _, rfl, _, _, rfl, rfl, ?_⟩
      refine ⟨_, rfl, use_p (hg.same ((s1.trans (sNew hU)).trans s3)) ⟨_, _, rfl, rfl, by omega, ?_⟩⟩
      refine q' _ _ (Same.refl _) ?_
      show V.int (((x : Int) + (y : Int)) % (p : Int)) = iv (addE p (r1.getD i 0) (r2.getD i 0))
      rw [getD_of ex, getD_of ey]
      exact congrArg V.int (addE_int p x y)
    · have ey := all2_map (H := H') ha
      subst ey
      refine ⟨D, _, rfl, .inl ⟨SqL.of hDl, fun l hl => q _ _ (e.trans (sNew hl)) ⟨l, rfl, .inl (.inl ?_)⟩⟩⟩
      rw [outOf_all, zipWith_range]
      exact upd_same
theorem ok_subtracted {f : Addr} {fd : FuncData} (F : Fun K "subtracted" "subtracted" sSubtracted f fd) (T : Txt K mg C) (mP : MethOk P w K mg base C "p" 1 ["self"] (spP C)) : FnOk P w K mg base CX0 2 f fd ["ground", "one", "other"] (spZipE K C subd) := by
  refine F.ok scSubtracted (fun vs H Q E h => ?_) (fun cdv A outer s H vs Q E hr h => ?_)
  · obtain ⟨g, v1, v2, p, n, r1, r2, rfl, _⟩ := h
    rfl
  · obtain ⟨g, _, _, p, n, r1, r2, rfl, hg, h0, ⟨a1, rfl, hr1⟩, ⟨a2, rfl, hr2⟩, hl, q⟩ := h
    refine ⟨_, pss_one (ps_ret (pe_callTy call_tuple_of (by rfl) T.tuple boot_tuple (pa_cons
      (pe_lc (own := [("left", 3), ("right", 4)]) (tt := tYes) rfl scSubtracted.nd (RZ.pi_zipA (by rfl) T.zip (pa_cons (pv 1) (pa_cons (pv 2) pa_nil))) (blkOk_by (N := ["ground", "one", "other", "left", "right"]) (sc := defScope sSubtracted) (by decide +kernel))
        (fun _ _ _ _ _ => by exact (tupG (n := 2) (K := K) rfl rfl (pgs_cons (pg_name (i := 3) scSubtracted.nd rfl (.inl rfl)) (pgs_cons (pg_name (i := 4) scSubtracted.nd rfl (.inl rfl)) pgs_nil)))) (fun _ _ _ _ _ => pts_nil)
        (fun _ _ _ _ _ => by exact (pe_op op_mod (pe_op op_sub (pv 3) (pv 4)) (pmeth0 (pv 0) T.cl mP hr)))) pa_nil))), ?_⟩
    refine ⟨_, rfl, _, rfl, a1, a2, _, _, rfl, .inr ⟨hr1, hr2, ?_⟩⟩
    refine lcP (walk_zipT (n := min r1.length r2.length) (by simp)) (by omega) (fun H1 e => ⟨sTup e hr1, sTup e hr2⟩) (fun _ => true) (fun i => subE p (r1.getD i 0) (r2.getD i 0)) (fun v b _ => v = iv b) flatStays (fun i x H1 H2 P' hi s1 hy k => ?_) (fun D ys H' hD e hDl ha => ?_)
    · obtain ⟨U, x, y, rfl, hU, rfl, hx, hy⟩ := hy
      obtain ⟨x, ex, rfl⟩ := iv_at hx
      obtain ⟨y, ey, rfl⟩ := iv_at hy
      refine ⟨U, [iv x, iv y], rfl, .inl (.inl upd_same), rfl, _, _, rfl, _, _, rfl, rfl, k _ _ rfl (sNew hU) yes_ev fun _ H3 s3 Q' q' => ?_⟩
      refine ⟨_, rfl, _, rfl, _, _, rfl, rfl, ?_⟩
      refine ⟨_, rfl, use_p (hg.same ((s1.trans (sNew hU)).trans s3)) ⟨_, _, rfl, rfl, by omega, ?_⟩⟩
      refine q' _ _ (Same.refl _) ?_
      show V.int (((x : Int) - (y : Int)) % (p : Int)) = iv (subE p (r1.getD i 0) (r2.getD i 0))
      rw [getD_of ex, getD_of ey]
      exact congrArg V.int (subE_int h0 x y)
    · have ey := all2_map (H := H') ha
      subst ey
      refine ⟨D, _, rfl, .inl ⟨SqL.of hDl, fun l hl => q _ _ (e.trans (sNew hl)) ⟨l, rfl, .inl (.inl ?_)⟩⟩⟩
      rw [outOf_all, zipWith_range]
      exact upd_same
/-! scaled -/
def spScaled (K : PySem.W.Frag) (C : Addr) : Sp := fun vs H Q _ => ∃ (g v : V) (p n k : Nat) (r : List Nat), vs = [g, iv k, v] ∧ GroundAt C g p n H ∧ 0 < p ∧ k < 1000 ∧ RowV K v r H ∧ r.length ≤ 1000 ∧ Ret (fun v => RowV K v (scaled p k r)) H Q
theorem scScaled : FnScope ["ground", "number", "row", "entry"] ["ground", "number", "row"] (defScope sScaled) := ⟨rfl, rfl, rfl, by decide +kernel, rfl, by decide +kernel, by decide +kernel⟩
theorem ok_scaled {f : Addr} {fd : FuncData} (F : Fun K "scaled" "scaled" sScaled f fd) (T : Txt K mg C) (mP : MethOk P w K mg base C "p" 1 ["self"] (spP C)) : FnOk P w K mg base CX0 2 f fd ["ground", "number", "row"] (spScaled K C) := by
  refine F.ok scScaled (fun vs H Q E h => ?_) (fun cdv A outer s H vs Q E hr h => ?_)
  · obtain ⟨g, v, p, n, k, r, rfl, _⟩ := h
    rfl
  · obtain ⟨g, _, p, n, k, r, rfl, hg, h0, hk, ⟨a, rfl, ha⟩, hl, q⟩ := h
    refine ⟨_, pss_one (ps_ret (pe_callTy call_tuple_of (by rfl) T.tuple boot_tuple (pa_cons
      (pe_lc (own := [("entry", 3)]) (g := gName 3) (tt := tYes) rfl scScaled.nd (pi_tup (pv 2)) (blkOk_by (N := ["ground", "number", "row", "entry"]) (sc := defScope sScaled) (by decide +kernel))
        (fun _ _ _ _ _ => pg_name (i := 3) scScaled.nd rfl (.inl rfl)) (fun _ _ _ _ _ => pts_nil)
        (fun _ _ _ _ _ => by exact (pe_op op_mod (pe_op op_mul (pv 1) (pv 3)) (pmeth0 (pv 0) T.cl mP hr)))) pa_nil))), ?_⟩
    refine ⟨_, rfl, a, rfl, ⟨_, ha⟩, ?_⟩
    refine lcP (walk_tup (xs := r.map iv)) (by simp; omega) (fun H1 e => sTup e ha) (fun _ => true) (fun i => k * r.getD i 0 % p) (fun v b _ => v = iv b) flatStays (fun i x H1 H2 P' hi s1 hy k' => ?_) (fun D ys H' hD e hDl hh => ?_)
    · obtain ⟨rfl, hx⟩ := hy
      obtain ⟨y, ey, rfl⟩ := iv_at hx
      refine k' _ _ rfl (Same.refl _) yes_ev fun _ H3 s3 Q' q' => ?_
      refine ⟨_, rfl, _, rfl, _, _, rfl, rfl, .inl ⟨by omega, by omega⟩, ?_⟩
      refine ⟨_, rfl, use_p (hg.same (s1.trans s3)) ⟨_, _, rfl, rfl, by omega, ?_⟩⟩
      refine q' _ _ (Same.refl _) ?_
      show V.int (((k : Int) * (y : Int)) % (p : Int)) = iv (k * r.getD i 0 % p)
      rw [getD_of ey]
      exact congrArg V.int (mulE_int p k y)
    · have ey := all2_map (H := H') hh
      subst ey
      refine ⟨D, _, rfl, .inl ⟨SqL.of hDl, fun l hl => q _ _ (e.trans (sNew hl)) ⟨l, rfl, .inl (.inl ?_)⟩⟩⟩
      have e2 : outOf (r.map iv).length (fun _ => true) (fun i => k * r.getD i 0 % p) = scaled p k r := by
        rw [outOf_all, List.length_map]
        unfold scaled
        have e3 := congrArg (List.map fun e => k * e % p) (range_getD r 0)
        rw [List.map_map] at e3
        exact e3
      rw [e2]
      exact upd_same
/-! pivot -/
def pivV : Option Nat → V
  | none => .non
  | some c => iv c
def spPivot (K : PySem.W.Frag) : Sp := fun vs H Q _ => ∃ (v : V) (r : List Nat), vs = [v] ∧ RowV K v r H ∧ ∀ H', Same H H' → Q (pivV (pivot r)) H'
theorem scPivot : FnScope ["row", "column", "entry"] ["row"] (defScope sPivot) := ⟨rfl, rfl, rfl, by decide +kernel, rfl, by decide +kernel, by decide +kernel⟩
theorem ok_pivot {f : Addr} {fd : FuncData} (F : Fun K "pivot" "pivot" sPivot f fd) (T : Txt K mg C) : FnOk P w K mg base CX0 1 f fd ["row"] (spPivot K) := by
  refine F.ok scPivot (fun vs H Q E h => ?_) (fun cdv A outer s H vs Q E hr h => ?_)
  · obtain ⟨v, r, rfl, _⟩ := h
    rfl
  · obtain ⟨_, r, rfl, ⟨a, rfl, ha⟩, q⟩ := h
    refine ⟨_, pss_cons (ps_for PassesOwn.never rfl (pi_enumT (by rfl) T.enumerate (pa_cons (pv 0) pa_nil)) (pg_tup rfl (pgs_cons (pg_name (i := 1) scPivot.nd rfl (.inl rfl)) (pgs_cons (pg_name (i := 2) scPivot.nd rfl (.inl rfl)) pgs_nil)))
        (pss_one (ps_if (pt_cmpR op_ne (pv 2) pe_int (nomark _)) (pss_one (ps_ret (pv 1))) pss_nil)))
      (pss_one (ps_ret pe_non)), ?_⟩
    refine ⟨_, rfl, a, _, rfl, ha, for_enumT (xs := r.map iv) (fun i σ H' => Same H H' ∧ pivotFrom i (r.drop i) = pivot r ∧ ∃ y1 y2, σ = [some (.ref a), y1, y2]) ⟨Same.refl _, rfl, none, none, rfl⟩ (fun i σ H' p => sTup p.1 ha) ?_ ?_⟩
    · rintro i x U σ H' hx ⟨e, hp, y1, y2, rfl⟩ hU
      obtain ⟨y, ey, rfl⟩ := iv_at hx
      refine ⟨U, [.int (i : Nat), iv y], rfl, .inl (.inl upd_same), rfl, _, _, rfl, _, _, rfl, rfl, ?_⟩
      refine ⟨_, rfl, rfl, _, rfl, ?_⟩
      rw [drop_at ey] at hp
      by_cases h0 : y = 0
      · subst h0
        refine iteF ⟨e.trans (sNew hU), ?_, _, _, rfl⟩
        rw [← hp]
        simp [pivotFrom]
      · have hne : (!decide (V.int (y : Int) = V.int 0)) = true := by
          have : ¬ V.int (y : Int) = V.int 0 := fun z => h0 (by have := V.int.inj z; omega)
          simp [this]
        refine ite2 (fun _ => ⟨_, rfl, ?_⟩) (fun z => absurd hne z)
        have e3 : pivot r = some i := by
          rw [← hp]
          simp [pivotFrom, h0]
        have e4 := q _ (e.trans (sNew (o := .tup [.int (i : Nat), iv y]) hU))
        rw [e3] at e4
        exact e4
    · rintro σ H' ⟨e, hp, y1, y2, rfl⟩
      have e3 : pivot r = none := by
        rw [← hp, List.length_map, List.drop_length]
        rfl
      have e4 := q _ e
      rw [e3] at e4
      exact e4
/-! combined -/
theorem foldO_at {α β : Type} {f : β → α → Option β} {l : List α} {i : Nat} {x : α} {b r : β} (hx : l[i]? = some x) (h : foldO f b (l.drop i) = some r) : ∃ c, f b x = some c ∧ foldO f c (l.drop (i + 1)) = some r := by
  rw [drop_at hx] at h
  unfold foldO at h
  cases e : f b x with
  | none =>
    rw [e] at h
    cases h
  | some c =>
    rw [e] at h
    exact ⟨c, rfl, h⟩
theorem foldO_end {α β : Type} {f : β → α → Option β} {l : List α} {b r : β} (h : foldO f b (l.drop l.length) = some r) : b = r := by
  rw [List.drop_length] at h
  exact Option.some.inj h
def spCombined (K : PySem.W.Frag) (C : Addr) : Sp := fun vs H Q _ => ∃ (g v1 v2 : V) (p n : Nat) (ns : List Nat) (rows : List (List Nat)) (res : List Nat), vs = [g, v1, v2] ∧ GroundAt C g p n H ∧ 0 < p ∧ n ≤ 100 ∧ RowV K v1 ns H ∧ CodeV K v2 rows H ∧ (∀ r ∈ rows, r.length ≤ 100) ∧ combined p n ns rows = some res ∧ Ret (fun v => RowV K v res) H Q
theorem scCombined : FnScope ["ground", "numbers", "rows", "found", "number", "row"] ["ground", "numbers", "rows"] (defScope sCombined) := ⟨rfl, rfl, rfl, by decide +kernel, rfl, by decide +kernel, by decide +kernel⟩
theorem small_spec {e k : Nat} (h : small e = some k) : k = e ∧ e < 1000 := by
  unfold small at h
  split at h
  · exact ⟨(Option.some.inj h).symm, by assumption⟩
  · cases h
theorem added_len (p : Nat) (a b : List Nat) : (added p a b).length ≤ a.length := by
  unfold added
  rw [List.length_zipWith]
  omega
theorem subd_len (p : Nat) (a b : List Nat) : (subd p a b).length ≤ a.length := by
  unfold subd
  rw [List.length_zipWith]
  omega
theorem ok_combined {f : Addr} {fd : FuncData} (F : Fun K "combined" "combined" sCombined f fd) (T : Txt K mg C) (mZ : MethOk P w K mg base C "zero" 1 ["self"] (spZero K C)) (cA : CallOk P w K mg base "added" 2 ["ground", "one", "other"] (spZipE K C added)) (cS : CallOk P w K mg base "scaled" 2 ["ground", "number", "row"] (spScaled K C)) :
    FnOk P w K mg base CX0 3 f fd ["ground", "numbers", "rows"] (spCombined K C) := by
  refine F.ok scCombined (fun vs H Q E h => ?_) (fun cdv A outer s H vs Q E hr h => ?_)
  · obtain ⟨g, v1, v2, p, n, ns, rows, res, rfl, _⟩ := h
    rfl
  · obtain ⟨g, _, _, p, n, ns, rows, res, rfl, hg, h0, hn, ⟨a1, rfl, h1⟩, ⟨a2, vr, rfl, h2, hrows⟩, hlen, hres, q⟩ := h
    refine ⟨_, pss_cons (ps_set (i := 3) scCombined.nd rfl (.inl rfl) (pmeth0 (pv 0) T.cl mZ (hr.mono (by decide))))
      (pss_cons (ps_for PassesOwn.never rfl (RZ.pi_zipA (by rfl) T.zip (pa_cons (pv 1) (pa_cons (pv 2) pa_nil))) (pg_tup rfl (pgs_cons (pg_name (i := 4) scCombined.nd rfl (.inl rfl)) (pgs_cons (pg_name (i := 5) scCombined.nd rfl (.inl rfl)) pgs_nil)))
        (pss_one (ps_set (i := 3) scCombined.nd rfl (.inl rfl) (pcall cA hr (pa_cons (pv 0) (pa_cons (pv 3) (pa_cons (pcall cS hr (pa_cons (pv 0) (pa_cons (pv 4) (pa_cons (pv 5) pa_nil)))) pa_nil)))))))
      (pss_one (ps_ret (pv 3)))), ?_⟩
    obtain ⟨ga, dx, rfl, hga⟩ := id hg
    refine ⟨_, rfl, ga, dx, _, rfl, hga, gf_no _ _ (by decide +kernel) (by decide +kernel), _, p, n, rfl, hg, hn, fun z H1 e1 hz => ?_⟩
    refine ⟨_, rfl, _, rfl, a1, a2, _, _, rfl, .inr ⟨sTup e1 h1, sTup e1 h2, ?_⟩⟩
    refine for_it (walk_zipT (n := min ns.length vr.length) (by simp)) (fun i σ H' => Same H1 H' ∧ ∃ st v y4 y5, σ = [some (.ref ga), some (.ref a1), some (.ref a2), some v, y4, y5] ∧ RowV K v st H' ∧ st.length ≤ 100 ∧ foldO (combStep p) st ((ns.zip rows).drop i) = some res)
      ⟨Same.refl _, _, _, none, none, rfl, hz, by simp [zero]; omega, hres⟩ (fun i σ H' _ p' => ⟨sTup (e1.trans p'.1) h1, sTup (e1.trans p'.1) h2⟩) ?_ ?_
    · rintro i x σ H2 H3 hi ⟨e2, st, v, y4, y5, rfl, hv, hl, hf⟩ ⟨U, x, y, rfl, hU, rfl, hx, hy⟩
      obtain ⟨k, ek, rfl⟩ := iv_at hx
      obtain ⟨row, er, hrow⟩ := hrows.at hy
      have ez : (ns.zip rows)[i]? = some (k, row) := by
        rw [List.getElem?_zip_eq_some]
        exact ⟨ek, er⟩
      obtain ⟨c, hc, hf'⟩ := foldO_at ez hf
      have hc' : ∃ k', small k = some k' ∧ c = added p st (scaled p k' row) := by
        unfold combStep at hc
        cases e : small k with
        | none =>
          rw [e] at hc
          cases hc
        | some k' =>
          rw [e] at hc
          exact ⟨k', rfl, (Option.some.inj hc).symm⟩
      obtain ⟨k', hk', rfl⟩ := hc'
      obtain ⟨rfl, hk⟩ := small_spec hk'
      have sU := sNew (o := .tup [iv k', y]) hU
      have e3 := (e1.trans e2).trans sU
      refine ⟨U, [iv k', y], rfl, .inl (.inl upd_same), rfl, _, _, rfl, _, _, rfl, rfl, ?_⟩
      refine ⟨_, rfl, _, rfl, _, rfl, _, rfl, _, rfl, ?_⟩
      refine ⟨_, _, p, n, k', row, rfl, hg.same e3, h0, hk, hrow.same e3, by have := hlen row (List.mem_of_getElem? er); omega, fun v' H4 e4 hv' => ?_⟩
      refine ⟨_, _, _, p, n, st, _, rfl, hg.same (e3.trans e4), h0, (hv.same sU).same e4, hv', by omega, fun v'' H5 e5 hv'' => ?_⟩
      exact ⟨((e2.trans sU).trans e4).trans e5, _, v'', _, _, rfl, hv'', Nat.le_trans (added_len _ _ _) hl, hf'⟩
    · rintro σ H' ⟨e2, st, v, y4, y5, rfl, hv, hl, hf⟩
      have hnn : min ns.length vr.length = (ns.zip rows).length := by rw [List.length_zip, hrows.1]
      rw [hnn] at hf
      obtain rfl := foldO_end hf
      exact ⟨_, rfl, q _ _ (e1.trans e2) hv⟩
end
end Cn

set_option Elab.async false
set_option linter.all false
set_option maxRecDepth 100000
set_option maxHeartbeats 4000000
namespace Cn
open PySem PySem.Spec PyProof.Rows L2 XR
/-! the orders of rows and of codes -/
theorem rowLe_refl : ∀ a : Row, rowLe a a = true
  | [] => rfl
  | x :: a => by simp [rowLe, rowLe_refl a]
theorem rowLe_total : ∀ a b : Row, rowLe a b = true ∨ rowLe b a = true
  | [], b => .inl (by simp [rowLe])
  | x :: a, [] => .inr rfl
  | x :: a, y :: b => by
    by_cases h : x = y
    · subst h
      simpa [rowLe] using rowLe_total a b
    · have h' : ¬ y = x := fun e => h e.symm
      simp only [rowLe, if_neg h, if_neg h', decide_eq_true_eq]
      omega
theorem rowLe_anti : ∀ a b : Row, rowLe a b = true → rowLe b a = true → a = b
  | [], [], _, _ => rfl
  | [], y :: b, _, h => by simp [rowLe] at h
  | x :: a, [], h, _ => by simp [rowLe] at h
  | x :: a, y :: b, h1, h2 => by
    by_cases h : x = y
    · subst h
      simp only [rowLe, if_pos] at h1 h2
      rw [rowLe_anti a b h1 h2]
    · have h' : ¬ y = x := fun e => h e.symm
      simp only [rowLe, if_neg h, if_neg h', decide_eq_true_eq] at h1 h2
      omega
theorem rowLe_trans : ∀ a b c : Row, rowLe a b = true → rowLe b c = true → rowLe a c = true
  | [], _, _, _, _ => by simp [rowLe]
  | x :: a, [], _, h, _ => by simp [rowLe] at h
  | x :: a, y :: b, [], _, h => by simp [rowLe] at h
  | x :: a, y :: b, z :: c, h1, h2 => by
    by_cases e1 : x = y
    · subst e1
      by_cases e2 : x = z
      · subst e2
        simp only [rowLe, if_pos] at h1 h2 ⊢
        exact rowLe_trans a b c h1 h2
      · simp only [rowLe, if_neg e2] at h2 ⊢
        exact h2
    · simp only [rowLe, if_neg e1, decide_eq_true_eq] at h1
      by_cases e2 : y = z
      · subst e2
        simp only [rowLe, if_neg e1, decide_eq_true_eq]
        exact h1
      · simp only [rowLe, if_neg e2, decide_eq_true_eq] at h2
        have e3 : ¬ x = z := by omega
        simp only [rowLe, if_neg e3, decide_eq_true_eq]
        omega
theorem codeLe_refl : ∀ a : Code, codeLe a a = true
  | [] => rfl
  | x :: a => by simp [codeLe, codeLe_refl a]
theorem codeLe_total : ∀ a b : Code, codeLe a b = true ∨ codeLe b a = true
  | [], b => .inl (by simp [codeLe])
  | x :: a, [] => .inr rfl
  | x :: a, y :: b => by
    by_cases h : x = y
    · subst h
      simpa [codeLe] using codeLe_total a b
    · have h' : ¬ y = x := fun e => h e.symm
      simp only [codeLe, if_neg h, if_neg h']
      exact rowLe_total x y
theorem codeLe_anti : ∀ a b : Code, codeLe a b = true → codeLe b a = true → a = b
  | [], [], _, _ => rfl
  | [], y :: b, _, h => by simp [codeLe] at h
  | x :: a, [], h, _ => by simp [codeLe] at h
  | x :: a, y :: b, h1, h2 => by
    by_cases h : x = y
    · subst h
      simp only [codeLe, if_pos] at h1 h2
      rw [codeLe_anti a b h1 h2]
    · have h' : ¬ y = x := fun e => h e.symm
      simp only [codeLe, if_neg h, if_neg h'] at h1 h2
      exact absurd (rowLe_anti x y h1 h2) h
theorem codeLe_trans : ∀ a b c : Code, codeLe a b = true → codeLe b c = true → codeLe a c = true
  | [], _, _, _, _ => by simp [codeLe]
  | x :: a, [], _, h, _ => by simp [codeLe] at h
  | x :: a, y :: b, [], _, h => by simp [codeLe] at h
  | x :: a, y :: b, z :: c, h1, h2 => by
    by_cases e1 : x = y
    · subst e1
      by_cases e2 : x = z
      · subst e2
        simp only [codeLe, if_pos] at h1 h2 ⊢
        exact codeLe_trans a b c h1 h2
      · simp only [codeLe, if_neg e2] at h2 ⊢
        exact h2
    · simp only [codeLe, if_neg e1] at h1
      by_cases e2 : y = z
      · subst e2
        simp only [codeLe, if_neg e1]
        exact h1
      · simp only [codeLe, if_neg e2] at h2
        have h3 := rowLe_trans x y z h1 h2
        by_cases e3 : x = z
        · subst e3
          exact absurd (rowLe_anti x y h1 h2) e1
        · simp only [codeLe, if_neg e3]
          exact h3
theorem insR_perm (x : Row) : ∀ l : List Row, (insR x l).Perm (x :: l)
  | [] => .refl _
  | y :: l => by
    unfold insR
    split
    · exact .refl _
    · exact ((insR_perm x l).cons y).trans (.swap x y l)
theorem insR_pair (x : Row) : ∀ l : List Row, l.Pairwise (fun a b => rowLe b a = true) → (insR x l).Pairwise (fun a b => rowLe b a = true)
  | [], _ => by simp [insR]
  | y :: l, h => by
    obtain ⟨h1, h2⟩ := List.pairwise_cons.mp h
    unfold insR
    split
    · rename_i hy
      refine List.pairwise_cons.mpr ⟨fun z hz => ?_, h⟩
      rcases List.mem_cons.mp hz with e | hz
      · rw [e]
        exact hy
      · exact rowLe_trans z y x (h1 z hz) hy
    · rename_i hy
      refine List.pairwise_cons.mpr ⟨fun z hz => ?_, insR_pair x l h2⟩
      rcases List.mem_cons.mp ((insR_perm x l).mem_iff.mp hz) with e | hz
      · rw [e]
        exact (rowLe_total x y).resolve_right hy
      · exact h1 z hz
theorem sortDown_perm : ∀ l : List Row, (sortDown l).Perm l
  | [] => .refl _
  | x :: l => (insR_perm x (sortDown l)).trans ((sortDown_perm l).cons x)
theorem sortDown_pair : ∀ l : List Row, (sortDown l).Pairwise (fun a b => rowLe b a = true)
  | [] => .nil
  | x :: l => insR_pair x _ (sortDown_pair l)
theorem insC_perm (x : Code) : ∀ l : List Code, (insC x l).Perm (x :: l)
  | [] => .refl _
  | y :: l => by
    unfold insC
    split
    · exact .refl _
    · exact ((insC_perm x l).cons y).trans (.swap x y l)
theorem insC_pair (x : Code) : ∀ l : List Code, l.Pairwise (fun a b => codeLe a b = true) → (insC x l).Pairwise (fun a b => codeLe a b = true)
  | [], _ => by simp [insC]
  | y :: l, h => by
    obtain ⟨h1, h2⟩ := List.pairwise_cons.mp h
    unfold insC
    split
    · rename_i hy
      refine List.pairwise_cons.mpr ⟨fun z hz => ?_, h⟩
      rcases List.mem_cons.mp hz with e | hz
      · rw [e]
        exact hy
      · exact codeLe_trans x y z hy (h1 z hz)
    · rename_i hy
      refine List.pairwise_cons.mpr ⟨fun z hz => ?_, insC_pair x l h2⟩
      rcases List.mem_cons.mp ((insC_perm x l).mem_iff.mp hz) with e | hz
      · rw [e]
        exact (codeLe_total x y).resolve_left hy
      · exact h1 z hz
theorem sortUp_perm : ∀ l : List Code, (sortUp l).Perm l
  | [] => .refl _
  | x :: l => (insC_perm x (sortUp l)).trans ((sortUp_perm l).cons x)
theorem sortUp_pair : ∀ l : List Code, (sortUp l).Pairwise (fun a b => codeLe a b = true)
  | [] => .nil
  | x :: l => insC_pair x _ (sortUp_pair l)
theorem mergeDown (l : List Row) : l.mergeSort (fun a b => rowLe b a) = sortDown l :=
  List.Perm.eq_of_pairwise (le := fun a b => rowLe b a = true) (fun a b _ _ h1 h2 => (rowLe_anti b a h1 h2).symm) (List.pairwise_mergeSort (fun a b c h1 h2 => rowLe_trans c b a h2 h1) (fun a b => by simpa using rowLe_total b a) l) (sortDown_pair l) ((List.mergeSort_perm l _).trans (sortDown_perm l).symm)
theorem mergeUp (l : List Code) : l.mergeSort codeLe = sortUp l :=
  List.Perm.eq_of_pairwise (le := fun a b => codeLe a b = true) (fun a b _ _ h1 h2 => codeLe_anti a b h1 h2) (List.pairwise_mergeSort codeLe_trans (fun a b => by simpa using codeLe_total a b) l) (sortUp_pair l) ((List.mergeSort_perm l _).trans (sortUp_perm l).symm)
/-! as Python compares the data -/
open PySem.W in
theorem alikeNats : ∀ a b : List Nat, alikeAll (a.map fun (x : Nat) => PyData.int (x : Int)) (b.map fun (x : Nat) => PyData.int (x : Int)) = true
  | [], b => by cases b <;> simp [alikeAll]
  | x :: a, [] => by simp [alikeAll]
  | x :: a, y :: b => by simp [alikeAll, alike, alikeNats a b]
open PySem.W in
theorem alikeR (a b : Row) : alike (encR a) (encR b) = true := by
  simp only [encR, alike]
  exact alikeNats a b
open PySem.W in
theorem alikeRows : ∀ a b : Code, alikeAll (a.map encR) (b.map encR) = true
  | [], b => by cases b <;> simp [alikeAll]
  | x :: a, [] => by simp [alikeAll]
  | x :: a, y :: b => by simp [alikeAll, alikeR, alikeRows a b]
open PySem.W in
theorem alikeC (a b : Code) : alike (encC a) (encC b) = true := by
  simp only [encC, alike]
  exact alikeRows a b
theorem eqvNats : ∀ a b : List Nat, PyData.eqvAll (a.map fun (x : Nat) => PyData.int (x : Int)) (b.map fun (x : Nat) => PyData.int (x : Int)) = decide (a = b)
  | [], [] => by simp [PyData.eqvAll]
  | [], y :: b => by simp [PyData.eqvAll]
  | x :: a, [] => by simp [PyData.eqvAll]
  | x :: a, y :: b => by
    simp only [List.map_cons, PyData.eqvAll, PyData.eqv, eqvNats a b, List.cons.injEq]
    by_cases h : x = y
    · subst h
      simp
    · have : ((x : Int) == (y : Int)) = false := beq_eq_false_iff_ne.mpr (by omega)
      simp [h, this]
theorem eqvR (a b : Row) : PyData.eqv (encR a) (encR b) = decide (a = b) := by
  simp only [encR, PyData.eqv]
  exact eqvNats a b
theorem eqvRows : ∀ a b : Code, PyData.eqvAll (a.map encR) (b.map encR) = decide (a = b)
  | [], [] => by simp [PyData.eqvAll]
  | [], y :: b => by simp [PyData.eqvAll]
  | x :: a, [] => by simp [PyData.eqvAll]
  | x :: a, y :: b => by
    simp only [List.map_cons, PyData.eqvAll, eqvR, eqvRows a b, List.cons.injEq]
    by_cases h : x = y <;> simp [h]
theorem eqvC (a b : Code) : PyData.eqv (encC a) (encC b) = decide (a = b) := by
  simp only [encC, PyData.eqv]
  exact eqvRows a b
theorem eqvCodes : ∀ a b : List Code, PyData.eqvAll (a.map encC) (b.map encC) = decide (a = b)
  | [], [] => by simp [PyData.eqvAll]
  | [], y :: b => by simp [PyData.eqvAll]
  | x :: a, [] => by simp [PyData.eqvAll]
  | x :: a, y :: b => by
    simp only [List.map_cons, PyData.eqvAll, eqvC, eqvCodes a b, List.cons.injEq]
    by_cases h : x = y <;> simp [h]
open PySem.W in
theorem ltNats : ∀ a b : List Nat, PyProof.Rows.lexLt itemOrd (keyToksAll (a.map fun (x : Nat) => PyData.int (x : Int))) (keyToksAll (b.map fun (x : Nat) => PyData.int (x : Int))) = !rowLe b a
  | [], [] => by
    rw [rowLe_refl]
    exact lex_irrefl _
  | [], y :: b => by
    rw [List.map_cons, toks_all_cons]
    simp only [List.map_nil, keyToksAll]
    rw [lex_diff (O := itemOrd) (by simp)]
    rfl
  | x :: a, [] => by
    rw [List.map_cons, toks_all_cons]
    simp only [List.map_nil, keyToksAll]
    rw [lex_diff (O := itemOrd) (by simp)]
    rfl
  | x :: a, y :: b => by
    rw [List.map_cons, List.map_cons, dataLt_cons (by simp [alike]), ltNats a b, dataLt_int]
    simp only [PyData.eqv, beq_iff_eq]
    by_cases h : x = y
    · subst h
      simp [rowLe]
    · have h1 : ¬ (x : Int) = (y : Int) := by omega
      have h2 : ¬ y = x := fun e => h e.symm
      simp only [if_neg h1, rowLe, if_neg h2]
      by_cases h3 : x < y
      · have h4 : (x : Int) < (y : Int) := by omega
        have h5 : ¬ y < x := by omega
        simp [h4, h5]
      · have h4 : ¬ (x : Int) < (y : Int) := by omega
        have h5 : y < x := by omega
        simp [h4, h5]
open PySem.W in
theorem ltR (a b : Row) : dataLt (encR a) (encR b) = !rowLe b a := by
  unfold encR
  rw [dataLt_tuple]
  exact ltNats a b
open PySem.W in
theorem ltRows : ∀ a b : Code, PyProof.Rows.lexLt itemOrd (keyToksAll (a.map encR)) (keyToksAll (b.map encR)) = !codeLe b a
  | [], [] => by
    rw [codeLe_refl]
    exact lex_irrefl _
  | [], y :: b => by
    rw [List.map_cons, toks_all_cons]
    simp only [List.map_nil, keyToksAll]
    rw [lex_diff (O := itemOrd) (by simp)]
    rfl
  | x :: a, [] => by
    rw [List.map_cons, toks_all_cons]
    simp only [List.map_nil, keyToksAll]
    rw [lex_diff (O := itemOrd) (by simp)]
    rfl
  | x :: a, y :: b => by
    rw [List.map_cons, List.map_cons, dataLt_cons (alikeR x y), ltRows a b, ltR, eqvR]
    by_cases h : x = y
    · subst h
      simp [codeLe]
    · have h2 : ¬ y = x := fun e => h e.symm
      simp [codeLe, h, h2]
open PySem.W in
theorem ltC (a b : Code) : dataLt (encC a) (encC b) = !codeLe b a := by
  unfold encC
  rw [dataLt_tuple]
  exact ltRows a b
open PySem.W in
theorem srtDown (l : List Row) : srt true (l.map encR) = (sortDown l).map encR := by
  rw [← mergeDown]
  refine (sort_maps (r := fun a b => rowLe b a) (s := dataLe true id) encR fun a _ b _ => ?_).symm
  show rowLe b a = !dataLt (encR a) (encR b)
  rw [ltR, Bool.not_not]
open PySem.W in
theorem srtUp (l : List Code) : srt false (l.map encC) = (sortUp l).map encC := by
  rw [← mergeUp]
  refine (sort_maps (r := codeLe) (s := dataLe false id) encC fun a _ b _ => ?_).symm
  show codeLe a b = !dataLt (encC b) (encC a)
  rw [ltC, Bool.not_not]
/-! from the data back -/
section
variable {K : PySem.W.Frag} {H : Hp}
theorem nats_back : ∀ {r : List Nat} {xs : List V}, DpAll K H xs (r.map fun (x : Nat) => PyData.int (x : Int)) → xs = r.map iv
  | [], _, h => by
    cases h
    rfl
  | y :: r, _, h => by
    rw [List.map_cons] at h
    cases h with
    | cons h1 h2 =>
      cases h1
      rw [nats_back h2]
      rfl
theorem row_back {v : V} {r : List Nat} (h : Dp K H v (encR r)) : RowV K v r H := by
  unfold encR at h
  cases h with
  | tup h1 h2 =>
    rw [nats_back h2] at h1
    exact ⟨_, rfl, h1⟩
theorem rows_back : ∀ {xs : List V} {c : List (List Nat)}, DpAll K H xs (c.map encR) → All2 (fun v r => RowV K v r H) xs c
  | [], [], _ => .nil
  | x :: xs, y :: c, .cons h h2 => .cons (row_back h) (rows_back h2)
theorem code_back {v : V} {c : List (List Nat)} (h : Dp K H v (encC c)) : CodeV K v c H := by
  unfold encC at h
  cases h with
  | tup h1 h2 => exact ⟨_, _, rfl, h1, rows_back h2⟩
theorem codes_back : ∀ {xs : List V} {c : List (List (List Nat))}, DpAll K H xs (c.map encC) → All2 (fun v r => CodeV K v r H) xs c
  | [], [], _ => .nil
  | x :: xs, y :: c, .cons h h2 => .cons (code_back h) (codes_back h2)
end
theorem depthNats : ∀ r : List Nat, PyData.depthAll (r.map fun (x : Nat) => PyData.int (x : Int)) = 0
  | [] => by simp [PyData.depthAll]
  | x :: r => by simp [PyData.depthAll, PyData.depth, depthNats r]
theorem depthR (r : Row) : (encR r).depth = 1 := by
  simp only [encR, PyData.depth, depthNats]
theorem depthRows : ∀ c : Code, PyData.depthAll (c.map encR) ≤ 1
  | [] => by simp [PyData.depthAll]
  | x :: c => by
    have := depthRows c
    simp only [List.map_cons, PyData.depthAll, depthR]
    omega
theorem depthC (c : Code) : (encC c).depth ≤ 2 := by
  have := depthRows c
  simp only [encC, PyData.depth]
  omega
theorem depthCodes : ∀ c : List Code, PyData.depthAll (c.map encC) ≤ 2
  | [] => by simp [PyData.depthAll]
  | x :: c => by
    have := depthCodes c
    have := depthC x
    simp only [List.map_cons, PyData.depthAll]
    omega
theorem layNats : ∀ r : List Nat, PyData.canLayAll0 (r.map fun (x : Nat) => PyData.int (x : Int)) = true
  | [] => by simp [PyData.canLayAll0]
  | x :: r => by simp [PyData.canLayAll0, PyData.canLay0, layNats r]
theorem layR (r : Row) : (encR r).canLay0 = true := by
  simp only [encR, PyData.canLay0, layNats]
theorem layRows : ∀ c : Code, PyData.canLayAll0 (c.map encR) = true
  | [] => by simp [PyData.canLayAll0]
  | x :: c => by simp [PyData.canLayAll0, layR, layRows c]
theorem layC (c : Code) : (encC c).canLay0 = true := by
  simp only [encC, PyData.canLay0, layRows]
theorem layCodes : ∀ c : List Code, PyData.canLayAll0 (c.map encC) = true
  | [] => by simp [PyData.canLayAll0]
  | x :: c => by simp [PyData.canLayAll0, layC, layCodes c]
theorem shapedOf {d : PyData} (h1 : d.canLay0 = true) (h2 : d.depth ≤ 64) : SeqAt.shaped d = true := by
  show (d.canLay0 && decide (d.depth ≤ 64)) = true
  rw [h1, Bool.true_and]
  exact decide_eq_true h2
theorem shR (r : Row) : SeqAt.shaped (encR r) = true := shapedOf (layR r) (by rw [depthR]; decide)
theorem shC (c : Code) : SeqAt.shaped (encC c) = true := shapedOf (layC c) (Nat.le_trans (depthC c) (by decide))
theorem shCodes (l : List Code) : SeqAt.shaped (.list (l.map encC)) = true := shapedOf (by simp only [PyData.canLay0, layCodes]) (by have := depthCodes l; simp only [PyData.depth]; omega)
theorem sortOkR {l : List Row} (h : ∀ r ∈ l, r ≠ []) : SortOk (l.map encR) where
  al := PySem.W.AllAlike.of alikeR
  so := .inl fun d hd => by
    obtain ⟨r, hr, rfl⟩ := List.mem_map.mp hd
    cases r with
    | nil => exact absurd rfl (h _ hr)
    | cons x r => exact ⟨_, _, rfl⟩
  dp := fun d hd => by
    obtain ⟨r, hr, rfl⟩ := List.mem_map.mp hd
    rw [depthR]
    decide
theorem sortOkC {l : List Code} (h : ∀ r ∈ l, r ≠ []) : SortOk (l.map encC) where
  al := PySem.W.AllAlike.of alikeC
  so := .inl fun d hd => by
    obtain ⟨r, hr, rfl⟩ := List.mem_map.mp hd
    cases r with
    | nil => exact absurd rfl (h _ hr)
    | cons x r => exact ⟨_, _, rfl⟩
  dp := fun d hd => by
    obtain ⟨r, hr, rfl⟩ := List.mem_map.mp hd
    exact Nat.le_trans (depthC r) (by decide)
end Cn

set_option Elab.async false
set_option linter.all false
set_option maxRecDepth 100000
set_option maxHeartbeats 4000000
namespace Cn
open PySem PySem.Spec PyProof.Rows L2 XR
abbrev sWithout : Stmt := topS 17
abbrev sReduced : Stmt := topS 18
abbrev sCodeOf : Stmt := topS 20
abbrev sPivots : Stmt := topS 21
abbrev sRest : Stmt := topS 22
abbrev sIsIn : Stmt := topS 23
abbrev sIsWithin : Stmt := topS 24
theorem pi_or {X : Cx} {tg l : Expr} {w1 w2 : TI} (h1 : PI X tg l w1) (h2 : PI X tg l w2) : PI X tg l (fun σ H R => w1 σ H R ∨ w2 σ H R) :=
  ⟨fun pins s σ H R I h => h.elim (h1.run pins s σ H R I) (h2.run pins s σ H R I)⟩
/-! the mirror's bits -/
theorem getE_spec {left : Row} {c e : Nat} (h : getE left c = some e) : left[c]? = some e ∧ e < 1000 := by
  unfold getE at h
  cases e2 : left[c]? with
  | none =>
    rw [e2] at h
    cases h
  | some k =>
    rw [e2] at h
    obtain ⟨rfl, hk⟩ := small_spec (show small k = some e from h)
    exact ⟨rfl, hk⟩
theorem off_spec {p : Nat} {left own r : Row} (h : off p left own = some r) : ∃ c e, pivot own = some c ∧ left[c]? = some e ∧ e < 1000 ∧ r = subd p left (scaled p e own) := by
  unfold off at h
  cases e1 : pivot own with
  | none =>
    rw [e1] at h
    cases h
  | some c =>
    rw [e1] at h
    simp only [Option.bind_some] at h
    cases e2 : getE left c with
    | none =>
      rw [e2] at h
      cases h
    | some e =>
      rw [e2] at h
      exact ⟨c, e, rfl, (getE_spec e2).1, (getE_spec e2).2, (Option.some.inj h).symm⟩
theorem foldO_len {p : Nat} : ∀ {base : List Row} {row res : Row}, foldO (off p) row base = some res → res.length ≤ row.length
  | [], row, res, h => by
    cases h
    exact Nat.le_refl _
  | own :: base, row, res, h => by
    unfold foldO at h
    cases e : off p row own with
    | none =>
      rw [e] at h
      cases h
    | some c =>
      rw [e] at h
      obtain ⟨_, k, _, _, _, rfl⟩ := off_spec e
      exact Nat.le_trans (foldO_len h) (subd_len _ _ _)
theorem without_len {p : Nat} {row res : Row} {base : List Row} (h : without p row base = some res) : res.length ≤ row.length := foldO_len h
theorem scaled_len (p k : Nat) (r : Row) : (scaled p k r).length = r.length := by
  unfold scaled
  rw [List.length_map]
theorem mapO_len {α β : Type} {f : α → Option β} : ∀ {l : List α} {r : List β}, mapO f l = some r → r.length = l.length
  | [], r, h => by
    cases h
    rfl
  | x :: l, r, h => by
    unfold mapO at h
    cases e : f x with
    | none =>
      rw [e] at h
      cases h
    | some y =>
      rw [e] at h
      simp only at h
      cases e2 : mapO f l with
      | none =>
        rw [e2] at h
        cases h
      | some r' =>
        rw [e2] at h
        cases h
        simp [mapO_len e2]
theorem mapO_at {α β : Type} {f : α → Option β} : ∀ {l : List α} {r : List β}, mapO f l = some r → ∀ (i : Nat) (x : α), l[i]? = some x → ∃ y, f x = some y ∧ r[i]? = some y
  | [], r, h, i, x, hx => by simp at hx
  | x :: l, r, h, i, z, hz => by
    unfold mapO at h
    cases e : f x with
    | none =>
      rw [e] at h
      cases h
    | some y =>
      rw [e] at h
      simp only at h
      cases e2 : mapO f l with
      | none =>
        rw [e2] at h
        cases h
      | some r' =>
        rw [e2] at h
        cases h
        cases i with
        | zero =>
          cases hz
          exact ⟨y, e, rfl⟩
        | succ i => exact mapO_at e2 i z hz
theorem pivotFrom_ne {r : Row} : ∀ {i c : Nat}, pivotFrom i r = some c → r ≠ [] := by
  intro i c h e
  subst e
  cases h
theorem pivot_ne {r : Row} {c : Nat} (h : pivot r = some c) : r ≠ [] := pivotFrom_ne h
theorem off_ne {p : Nat} {left own r : Row} (h : off p left own = some r) (hl : left ≠ []) : r ≠ [] := by
  obtain ⟨c, e, h1, h2, h3, rfl⟩ := off_spec h
  have ho := pivot_ne h1
  cases left with
  | nil => exact absurd rfl hl
  | cons a l =>
    cases own with
    | nil => exact absurd rfl ho
    | cons b o => simp [subd, scaled]
/-- one row more -/
theorem step_spec {p : Nat} {found : List Row} {row : Row} {res : List Row} (h : step p found row = some res) : ∃ left, without p row found = some left ∧
    ((pivot left = none ∧ res = found) ∨ ∃ c e i f d, pivot left = some c ∧ left[c]? = some e ∧ e < 1000 ∧ inv p e = some i ∧ mapO (fun own => off p own (scaled p i left)) found = some f ∧ pivot (scaled p i left) = some d ∧ res = f ++ [scaled p i left]) := by
  unfold step at h
  cases e1 : without p row found with
  | none =>
    rw [e1] at h
    cases h
  | some left =>
    rw [e1] at h
    refine ⟨left, rfl, ?_⟩
    simp only [Option.bind_some] at h
    cases e2 : pivot left with
    | none =>
      rw [e2] at h
      exact .inl ⟨rfl, (Option.some.inj h).symm⟩
    | some c =>
      rw [e2] at h
      simp only at h
      cases e3 : getE left c with
      | none =>
        rw [e3] at h
        cases h
      | some e =>
        rw [e3] at h
        simp only [Option.bind_some] at h
        cases e4 : inv p e with
        | none =>
          rw [e4] at h
          cases h
        | some i =>
          rw [e4] at h
          simp only [Option.bind_some] at h
          cases e5 : mapO (fun own => off p own (scaled p i left)) found with
          | none =>
            rw [e5] at h
            cases h
          | some f =>
            rw [e5] at h
            simp only [Option.bind_some] at h
            cases e6 : pivot (scaled p i left) with
            | none =>
              rw [e6] at h
              cases h
            | some d =>
              rw [e6] at h
              exact .inr ⟨c, e, i, f, d, rfl, (getE_spec e3).1, (getE_spec e3).2, e4, e5, e6, (Option.some.inj h).symm⟩
theorem inv_lt {p x i : Nat} (h : inv p x = some i) : i < p := by
  obtain ⟨j, rfl, hj, _⟩ := inv_spec h
  omega
section
variable {P : Program} {w : World} {K : PySem.W.Frag} {mg : Str → Option Value} {base : Heap} {C : Addr}
/-! without -/
def spWithout (K : PySem.W.Frag) (C : Addr) : Sp := fun vs H Q _ => ∃ (g v1 v2 : V) (p n : Nat) (row : List Nat) (bs : List (List Nat)) (res : List Nat), vs = [g, v1, v2] ∧ GroundAt C g p n H ∧ 0 < p ∧ RowV K v1 row H ∧ row.length ≤ 1000 ∧ (CodeV K v2 bs H ∨ RowsV K v2 bs H) ∧ (∀ r ∈ bs, r.length ≤ 1000) ∧ without p row bs = some res ∧ Ret (fun v => RowV K v res) H Q
theorem scWithout : FnScope ["ground", "row", "base", "left", "own"] ["ground", "row", "base"] (defScope sWithout) := ⟨rfl, rfl, rfl, by decide +kernel, rfl, by decide +kernel, by decide +kernel⟩
theorem ok_without {f : Addr} {fd : FuncData} (F : Fun K "without" "without" sWithout f fd) (T : Txt K mg C) (cB : CallOk P w K mg base "subtracted" 2 ["ground", "one", "other"] (spZipE K C subd)) (cS : CallOk P w K mg base "scaled" 2 ["ground", "number", "row"] (spScaled K C)) (cP : CallOk P w K mg base "pivot" 1 ["row"] (spPivot K)) :
    FnOk P w K mg base CX0 3 f fd ["ground", "row", "base"] (spWithout K C) := by
  refine F.ok scWithout (fun vs H Q E h => ?_) (fun cdv A outer s H vs Q E hr h => ?_)
  · obtain ⟨g, v1, v2, p, n, row, bs, res, rfl, _⟩ := h
    rfl
  · obtain ⟨g, v1, v2, p, n, row, bs, res, rfl, hg, h0, hrow, hl, hb, hlen, hres, q⟩ := h
    refine ⟨_, pss_cons (ps_set (i := 3) scWithout.nd rfl (.inl rfl) (pv 1))
      (pss_cons (ps_for PassesOwn.never rfl (pi_or (pi_tup (pv 2)) (pi_list (pv 2))) (pg_name (i := 4) scWithout.nd rfl (.inl rfl))
        (pss_one (ps_set (i := 3) scWithout.nd rfl (.inl rfl) (pcall cB hr (pa_cons (pv 0) (pa_cons (pv 3) (pa_cons (pcall cS hr (pa_cons (pv 0) (pa_cons (pe_ix ix_tup (pv 3) (pcall cP (hr.mono (by decide)) (pa_cons (pv 4) pa_nil)) (fun _ _ => rfl)) (pa_cons (pv 4) pa_nil)))) pa_nil)))))))
      (pss_one (ps_ret (pv 3)))), ?_⟩
    refine ⟨_, rfl, ?_⟩
    have key : ∀ (J : It) (vs : List V) (G : Hp → Prop), Walk J vs.length G (YAt vs) → (∀ H', Same H H' → G H') → All2 (fun v r => RowV K v r H) vs bs →
        ∃ W : Nat → Nat → L2.St → Hp → Prop, (∃ m, W 0 m [some g, some v1, some v2, some v1, none] H) ∧ ∀ i m σ H, W i m σ H → (J.stop i H ∧ (tRet (tVar 3)) { nx := fun _ H' => Q .non H', rt := Q } σ H) ∨ (J.go i H ∧ ∃ N : L2.St → Hp → Prop, (∀ σ' H', N σ' H' → ∃ m', m' < m ∧ W (i + 1) m' σ' H') ∧
          ∀ x H', J.yld i H x H' → gName 4 x σ H' fun σ2 H2 => tAsg (tCall (spZipE K C subd) [] E0 (tCons (tVar 0) (tCons (tVar 3) (tCons (tCall (spScaled K C) [] E0 (tCons (tVar 0) (tCons (tOp (rIxT K) (tVar 3) (tCall (spPivot K) [] E0 (tCons (tVar 4) tNil))) (tCons (tVar 4) tNil)))) tNil)))) (gName 3) { nx := N, rt := Q, bk := fun σ H => (tRet (tVar 3)) { nx := fun _ H' => Q .non H', rt := Q } σ H, ct := N } σ2 H2) := by
      intro J vs G wk hG hvs
      refine for_it wk (D := { nx := fun σ H => (tRet (tVar 3)) { nx := fun _ H' => Q .non H', rt := Q } σ H, rt := Q }) (fun i σ H' => Same H H' ∧ ∃ st v y, σ = [some g, some v1, some v2, some v, y] ∧ RowV K v st H' ∧ st.length ≤ 1000 ∧ foldO (off p) st (bs.drop i) = some res) ⟨Same.refl _, row, v1, none, rfl, hrow, hl, hres⟩ (fun i σ H' _ p' => hG H' p'.1) ?_ ?_
      · rintro i x σ H1 H2 hi ⟨e1, st, v, y, rfl, hv, hst, hf⟩ ⟨rfl, hx⟩
        obtain ⟨own, eo, ho⟩ := hvs.at hx
        obtain ⟨r', hr', hf'⟩ := foldO_at eo hf
        obtain ⟨c, e, hc, he, he2, rfl⟩ := off_spec hr'
        refine ⟨_, rfl, _, rfl, _, rfl, ?_⟩
        obtain ⟨a, rfl, ha⟩ := id hv
        refine ⟨_, rfl, _, rfl, _, own, rfl, ho.same e1, fun H3 e3 => ?_⟩
        rw [hc]
        refine ⟨a, _, (c : Int), iv e, rfl, rfl, sTup e3 ha, atI_nat (iv_of he), ?_⟩
        refine ⟨_, rfl, _, _, p, n, e, own, rfl, hg.same (e1.trans e3), h0, he2, ho.same (e1.trans e3), hlen own (List.mem_of_getElem? eo), fun v' H4 e4 hv' => ?_⟩
        refine ⟨_, _, _, p, n, st, _, rfl, hg.same ((e1.trans e3).trans e4), h0, hv.same (e3.trans e4), hv', hst, fun v'' H5 e5 hv'' => ?_⟩
        exact ⟨((e1.trans e3).trans e4).trans e5, _, v'', _, rfl, hv'', Nat.le_trans (subd_len _ _ _) hst, hf'⟩
      · rintro σ H1 ⟨e1, st, v, y, rfl, hv, hst, hf⟩
        rw [hvs.1] at hf
        obtain rfl := foldO_end hf
        exact ⟨_, rfl, q _ _ e1 hv⟩
    rcases hb with ⟨a, vs, rfl, ha, hvs⟩ | ⟨a, vs, rfl, ha, hvs⟩
    · exact .inl ⟨_, rfl, a, rfl, ⟨_, ha⟩, key _ vs _ walk_tup (fun H' e => sTup e ha) hvs⟩
    · exact .inr ⟨_, rfl, a, rfl, ⟨_, ha⟩, key _ vs _ walk_list (fun H' e => e.seq ha) hvs⟩
end
end Cn

set_option Elab.async false
set_option linter.all false
set_option maxRecDepth 100000
set_option maxHeartbeats 4000000
namespace Cn
open PySem PySem.Spec PyProof.Rows L2 XR
theorem outOf_mapO {α β : Type} {f : α → Option β} {l : List α} {r : List β} {n : Nat} (d : β) (h : mapO f l = some r) (hn : n = l.length) : outOf n (fun _ => true) (fun i => r.getD i d) = r := by
  rw [outOf_all, hn, ← mapO_len h, range_getD]
theorem All2.mem {α β : Type} {R : α → β → Prop} {xs : List α} {ys : List β} (h : All2 R xs ys) {x : α} (hx : x ∈ xs) : ∃ y ∈ ys, R x y := by
  obtain ⟨i, hi⟩ := List.getElem?_of_mem hx
  obtain ⟨y, hy, r⟩ := h.at hi
  exact ⟨y, List.mem_of_getElem? hy, r⟩
section
variable {P : Program} {w : World} {K : PySem.W.Frag} {mg : Str → Option Value} {base : Heap} {C : Addr}
/-! reduced -/
def spReduced (K : PySem.W.Frag) (C : Addr) : Sp := fun vs H Q _ => ∃ (g v : V) (p n : Nat) (rows : List (List Nat)) (res : List (List Nat)), vs = [g, v] ∧ GroundAt C g p n H ∧ 0 < p ∧ p ≤ 1000 ∧ RowsV K v rows H ∧ rows.length ≤ 1000 ∧ (∀ r ∈ rows, r.length ≤ 1000) ∧ reduced p rows = some res ∧ Ret (fun v => CodeV K v res) H Q
theorem scReduced : FnScope ["ground", "rows", "found", "row", "left", "new", "own"] ["ground", "rows"] (defScope sReduced) := ⟨rfl, rfl, rfl, by decide +kernel, rfl, by decide +kernel, by decide +kernel⟩
theorem ok_reduced {f : Addr} {fd : FuncData} (F : Fun K "reduced" "reduced" sReduced f fd) (T : Txt K mg C) (cW : CallOk P w K mg base "without" 3 ["ground", "row", "base"] (spWithout K C)) (cB : CallOk P w K mg base "subtracted" 2 ["ground", "one", "other"] (spZipE K C subd)) (cS : CallOk P w K mg base "scaled" 2 ["ground", "number", "row"] (spScaled K C)) (cP : CallOk P w K mg base "pivot" 1 ["row"] (spPivot K))
    (mI : MethOk P w K mg base C "inverse_of" 1 ["self", "number"] (spInv C)) : FnOk P w K mg base CX0 4 f fd ["ground", "rows"] (spReduced K C) := by
  refine F.ok scReduced (fun vs H Q E h => ?_) (fun cdv A outer s H vs Q E hr h => ?_)
  · obtain ⟨g, v, p, n, rows, res, rfl, _⟩ := h
    rfl
  · obtain ⟨g, _, p, n, rows, res, rfl, hg, h0, hp, ⟨a, vr, rfl, ha, hvr⟩, hl, hlen, hres, q⟩ := h
    refine ⟨_, pss_cons (ps_set (i := 2) scReduced.nd rfl (.inl rfl) (pe_lst pa_nil))
      (pss_cons (ps_for PassesOwn.never rfl (pi_list (pv 1)) (pg_name (i := 3) scReduced.nd rfl (.inl rfl))
        (pss_cons (ps_set (i := 4) scReduced.nd rfl (.inl rfl) (pcall cW hr (pa_cons (pv 0) (pa_cons (pv 3) (pa_cons (pv 2) pa_nil)))))
        (pss_one (ps_if (pt_cmpR op_notN (pcall cP (hr.mono (by decide)) (pa_cons (pv 4) pa_nil)) pe_non (nomark _))
          (pss_cons (ps_set (i := 5) scReduced.nd rfl (.inr rfl) (pcall cS (hr.mono (by decide)) (pa_cons (pv 0) (pa_cons (pmeth (pv 0) T.cl mI (hr.mono (by decide)) (pa_cons (pe_ix ix_tup (pv 4) (pcall cP (hr.mono (by decide)) (pa_cons (pv 4) pa_nil)) (fun _ _ => rfl)) pa_nil)) (pa_cons (pv 4) pa_nil)))))
          (pss_cons (ps_setLc (i := 2) (own := [("own", 6)]) (g := gName 6) (tt := tYes) rfl scReduced.nd rfl rfl (sw_true rfl rfl rfl (by decide +kernel)) (pi_list (pv 2)) (blkOk_by (N := ["ground", "rows", "found", "row", "left", "new", "own"]) (sc := defScope sReduced) (by decide +kernel))
              (fun _ _ _ _ _ => pg_name (i := 6) scReduced.nd rfl (.inl rfl)) (fun _ _ _ _ _ => pts_nil)
              (fun _ _ _ _ _ => by exact (pcall cB (hr.mono (by decide)) (pa_cons (pv 0) (pa_cons (pv 6) (pa_cons (pcall cS (hr.mono (by decide)) (pa_cons (pv 0) (pa_cons (pe_ix (ixtK (K := K) rfl) (pv 6) (pcall cP (hr.mono (by decide)) (pa_cons (pv 5) pa_nil)) (fun _ _ => rfl)) (pa_cons (pv 5) pa_nil)))) pa_nil))))))
          (pss_one (ps_expr (pe_bm PySem.F.plainAttrs_list PySem.F.slot_list_append PySem.F.type_list_append mt_append (pv 2) (pa_cons (pv 5) pa_nil)))))) pss_nil))))
      (pss_one (ps_ret (pe_callTy call_tuple_of (by rfl) T.tuple boot_tuple (pa_cons (pe_callBK (cr_sortedRD (by exact hr.units)) (by rfl) T.sorted boot_sorted (pa_cons (pv 2) pa_nil) (pk_cons pe_bl pk_nil)) pa_nil))))), ?_⟩
    obtain ⟨f0, hf0, rfl⟩ : ∃ f0, foldO (step p) [] rows = some f0 ∧ res = sortDown f0 := by
      unfold reduced at hres
      cases e : foldO (step p) [] rows with
      | none =>
        rw [e] at hres
        cases hres
      | some f0 =>
        rw [e] at hres
        exact ⟨f0, rfl, (Option.some.inj hres).symm⟩
    -- found = []
    refine ⟨Nat.zero_le _, fun o no => ?_⟩
    refine ⟨_, rfl, a, rfl, ⟨_, (sNew no).seq ha⟩, ?_⟩
    refine for_it (walk_list (xs := vr)) (fun i σ H' => Same H H' ∧ ∃ (fp : Addr) (ys : List V) (st : List Row) (y3 y4 y5 : Option V), σ = [some g, some (.ref a), some (.ref fp), y3, y4, y5, none] ∧ H fp = none ∧ H' fp = some (.lst ys) ∧ All2 (fun v r => RowV K v r H') ys st ∧ (∀ r ∈ st, r.length ≤ 1000 ∧ r ≠ []) ∧ st.length ≤ i ∧ foldO (step p) st (rows.drop i) = some f0)
      ⟨sNew no, o, [], [], none, none, none, rfl, no, upd_same, .nil, (by simp), Nat.le_refl _, hf0⟩ (fun i σ H' _ p' => p'.1.seq ha) ?_ ?_
    · rintro i x σ H1 H2 hi ⟨e1, fp, ys, st, y3, y4, y5, rfl, nfp, hfp, hst, hstl, hstn, hf⟩ ⟨rfl, hx⟩
      obtain ⟨row, er, hrow⟩ := hvr.at hx
      obtain ⟨st', hst', hf'⟩ := foldO_at er hf
      obtain ⟨left, hleft, hcase⟩ := step_spec hst'
      have hrl := hlen row (List.mem_of_getElem? er)
      have hll := without_len hleft
      have hni : vr.length ≤ 1000 := by rw [hvr.1]; exact hl
      -- left = without(ground, row, found)
      refine ⟨_, rfl, _, rfl, _, rfl, _, _, _, p, n, row, st, left, rfl, hg.same e1, h0, hrow.same e1, hrl, .inr ⟨fp, ys, rfl, SqL.of hfp, hst⟩, fun r hr' => (hstl r hr').1, hleft, fun v H2 e2 hv => ?_⟩
      have e12 := e1.trans e2
      obtain ⟨la, rfl, hla⟩ := id hv
      -- if pivot(left) is not None
      refine ⟨_, rfl, _, left, rfl, hv, fun H3 e3 => ⟨rfl, _, rfl, ?_⟩⟩
      have e13 := e12.trans e3
      rcases hcase with ⟨hpn, rfl⟩ | ⟨c, e, iv', f', d, hc, he, he2, hinv, hmap, hd, rfl⟩
      · rw [hpn]
        refine iteF ⟨e13, fp, ys, st', some x, some (.ref la), y5, rfl, nfp, e3 _ _ (e2 _ _ hfp), hst.mono fun _ _ r => r.same (e2.trans e3), hstl, by omega, hf'⟩
      · rw [hc]
        refine iteT ?_
        have hil := inv_lt hinv
        -- new = scaled(..)
        refine ⟨_, rfl, ?_⟩
        obtain ⟨ga, dx, rfl, hga⟩ := id hg
        refine ⟨_, rfl, ga, dx, _, rfl, e13 _ _ hga, gf_no _ _ (by decide +kernel) (by decide +kernel), ?_⟩
        refine ⟨_, rfl, _, rfl, _, left, rfl, hv.same e3, fun H4 e4 => ?_⟩
        rw [hc]
        refine ⟨la, _, (c : Int), iv e, rfl, rfl, sTup (e3.trans e4) hla, atI_nat (iv_of he), ?_⟩
        refine ⟨_, p, n, e, iv', rfl, hg.same (e13.trans e4), h0, hp, he2, hinv, ?_⟩
        refine ⟨_, rfl, _, _, p, n, iv', left, rfl, hg.same (e13.trans e4), h0, by omega, hv.same (e3.trans e4), by omega, fun v5 H5 e5 hv5 => ?_⟩
        obtain ⟨na, rfl, hna⟩ := id hv5
        have e15 := (e13.trans e4).trans e5
        have hfp5 : H5 fp = some (.lst ys) := e5 _ _ (e4 _ _ (e3 _ _ (e2 _ _ hfp)))
        have hst5 := hst.mono fun _ _ r => r.same (((e2.trans e3).trans e4).trans e5)
        -- found = [subtracted(..) for own in found]
        refine ⟨_, rfl, fp, rfl, ⟨_, SqL.of hfp5⟩, ?_⟩
        have hsl := scaled_len p iv' left
        refine lcP (walk_list (xs := ys)) (by have := hst.1; omega) (fun H6 e6 => e6.seq (SqL.of hfp5)) (fun _ => true) (fun i => f'.getD i []) (RowV K) rowStays (fun i z H6 H7 P' hi' s6 hy k => ?_) (fun D zs H6 hD e6 hDl hh => ?_)
        · obtain ⟨rfl, hz⟩ := hy
          obtain ⟨own, eo, ho⟩ := hst5.at hz
          obtain ⟨r', hr', er'⟩ := mapO_at hmap _ _ eo
          obtain ⟨c', e', hc', he', he2', rfl⟩ := off_spec hr'
          refine k _ _ rfl (Same.refl _) yes_ev fun _ H8 e8 Q' q' => ?_
          have e68 := s6.trans e8
          refine ⟨_, rfl, _, rfl, _, rfl, ?_⟩
          obtain ⟨oa, rfl, hoa⟩ := id ho
          refine ⟨_, rfl, _, rfl, _, _, rfl, hv5.same e68, fun H9 e9 => ?_⟩
          rw [hc']
          refine ⟨oa, _, (c' : Int), iv e', rfl, rfl, sTup (e68.trans e9) hoa, atI_nat (iv_of he'), ?_⟩
          refine ⟨_, rfl, _, _, p, n, e', _, rfl, hg.same ((e15.trans e68).trans e9), h0, he2', hv5.same (e68.trans e9), by omega, fun v10 H10 e10 hv10 => ?_⟩
          refine ⟨_, _, _, p, n, own, _, rfl, hg.same (((e15.trans e68).trans e9).trans e10), h0, ho.same ((e68.trans e9).trans e10), hv10, (hstl own (List.mem_of_getElem? eo)).1, fun v11 H11 e11 hv11 => ?_⟩
          refine q' _ _ ((e9.trans e10).trans e11) ?_
          rw [getD_of er']
          exact hv11
        · -- found.append(new)
          rw [outOf_mapO [] hmap hst5.1] at hh
          have hzl := hh.1
          have hml := mapO_len hmap
          refine ⟨_, rfl, .inl ⟨rfl, _, .inl (.inl hDl)⟩, _, rfl, D, _, _, rfl, rfl, hDl, flt (by omega), ?_⟩
          have nD : H D = none := (e15.free hD)
          refine ⟨sMut (e15.trans e6) nD, D, zs ++ [.ref na], f' ++ [scaled p iv' left], some x, some (.ref la), some (.ref na), rfl, nD, upd_same, (hh.mono fun _ _ r => r.lst hDl).snoc ((hv5.same e6).lst hDl), fun r hr' => ?_, by simp; omega, hf'⟩
          rcases List.mem_append.mp hr' with hr' | hr'
          · obtain ⟨i, hi'⟩ := List.getElem?_of_mem hr'
            have hi2 : i < st.length := by
              have := (List.getElem?_eq_some_iff.mp hi').1
              omega
            obtain ⟨y, hy, ey⟩ := mapO_at hmap i _ (List.getElem?_eq_getElem hi2)
            rw [ey] at hi'
            cases hi'
            have hm := hstl _ (List.getElem_mem hi2)
            refine ⟨?_, off_ne hy hm.2⟩
            obtain ⟨_, _, _, _, _, rfl⟩ := off_spec hy
            exact Nat.le_trans (subd_len _ _ _) hm.1
          · rw [List.mem_singleton.mp hr']
            exact ⟨by omega, pivot_ne hd⟩
    · rintro σ H1 ⟨e1, fp, ys, st, y3, y4, y5, rfl, nfp, hfp, hst, hstl, hstn, hf⟩
      rw [hvr.1] at hf
      obtain rfl := foldO_end hf
      -- return tuple(sorted(found, reverse=True))
      refine ⟨_, rfl, rfl, fp, ys, st.map encR, rfl, SqL.of hfp, dpAll2 (fun _ _ r => r.dp) hst, sortOkR (fun r hr' => (hstl r hr').2), fun o2 zs no2 hz => ?_⟩
      rw [srtDown] at hz
      refine ⟨o2, zs, rfl, .inl ⟨SqL.of upd_same, fun l hl => ?_⟩⟩
      refine q _ _ ((e1.trans (sNew no2)).trans (sNew hl)) ⟨l, zs, rfl, .inl (.inl upd_same), ?_⟩
      exact (rows_back hz).mono fun _ _ r => r.same ((sNew no2).trans (sNew hl))
end
end Cn

set_option Elab.async false
set_option linter.all false
set_option maxRecDepth 100000
set_option maxHeartbeats 4000000
namespace Cn
open PySem PySem.Spec PyProof.Rows L2 XR
section
variable {P : Program} {w : World} {K : PySem.W.Frag} {mg : Str → Option Value} {base : Heap} {C : Addr}
/-! code_of -/
theorem scCodeOf : FnScope ["ground", "rows"] ["ground", "rows"] (defScope sCodeOf) := ⟨rfl, rfl, rfl, by decide +kernel, rfl, by decide +kernel, by decide +kernel⟩
theorem ok_code_of {f : Addr} {fd : FuncData} (F : Fun K "code_of" "code_of" sCodeOf f fd) (cR : CallOk P w K mg base "reduced" 4 ["ground", "rows"] (spReduced K C)) : FnOk P w K mg base CX0 5 f fd ["ground", "rows"] (spReduced K C) := by
  refine F.ok scCodeOf (fun vs H Q E h => ?_) (fun cdv A outer s H vs Q E hr h => ?_)
  · obtain ⟨g, v, p, n, rows, res, rfl, _⟩ := h
    rfl
  · obtain ⟨g, v, p, n, rows, res, rfl, h⟩ := h
    exact ⟨_, pss_one (ps_ret (pcall cR hr (pa_cons (pv 0) (pa_cons (pv 1) pa_nil)))), _, rfl, _, rfl, g, v, p, n, rows, res, rfl, h⟩
/-! pivots -/
def spPivots (K : PySem.W.Frag) : Sp := fun vs H Q _ => ∃ (v : V) (code : List (List Nat)) (known : List Nat), vs = [v] ∧ CodeV K v code H ∧ code.length ≤ 1000 ∧ mapO pivot code = some known ∧ Ret (fun v => RowV K v known) H Q
theorem scPivots : FnScope ["code", "row"] ["code"] (defScope sPivots) := ⟨rfl, rfl, rfl, by decide +kernel, rfl, by decide +kernel, by decide +kernel⟩
theorem ok_pivots {f : Addr} {fd : FuncData} (F : Fun K "pivots" "pivots" sPivots f fd) (T : Txt K mg C) (cP : CallOk P w K mg base "pivot" 1 ["row"] (spPivot K)) : FnOk P w K mg base CX0 2 f fd ["code"] (spPivots K) := by
  refine F.ok scPivots (fun vs H Q E h => ?_) (fun cdv A outer s H vs Q E hr h => ?_)
  · obtain ⟨v, code, known, rfl, _⟩ := h
    rfl
  · obtain ⟨_, code, known, rfl, ⟨a, vr, rfl, ha, hvr⟩, hl, hk, q⟩ := h
    refine ⟨_, pss_one (ps_ret (pe_callTy call_tuple_of (by rfl) T.tuple boot_tuple (pa_cons
      (pe_lc (own := [("row", 1)]) (g := gName 1) (tt := tYes) rfl scPivots.nd (pi_tup (pv 0)) (blkOk_by (N := ["code", "row"]) (sc := defScope sPivots) (by decide +kernel))
        (fun _ _ _ _ _ => pg_name (i := 1) scPivots.nd rfl (.inl rfl)) (fun _ _ _ _ _ => pts_nil) (fun _ _ _ _ _ => by exact (pcall cP hr (pa_cons (pv 1) pa_nil)))) pa_nil))), ?_⟩
    refine ⟨_, rfl, a, rfl, ⟨_, ha⟩, ?_⟩
    have hvl := hvr.1
    refine lcP (walk_tup (xs := vr)) (by omega) (fun H1 e => sTup e ha) (fun _ => true) (fun i => known.getD i 0) (fun v b _ => v = iv b) flatStays (fun i x H1 H2 P' hi s1 hy k' => ?_) (fun D ys H' hD e hDl hh => ?_)
    · obtain ⟨rfl, hx⟩ := hy
      obtain ⟨row, er, hrow⟩ := hvr.at hx
      obtain ⟨c, hc, ec⟩ := mapO_at hk i row er
      refine k' _ _ rfl (Same.refl _) yes_ev fun _ H3 s3 Q' q' => ?_
      refine ⟨_, rfl, _, row, rfl, hrow.same (s1.trans s3), fun H4 e4 => ?_⟩
      rw [hc]
      refine q' _ _ e4 ?_
      rw [getD_of ec]
      rfl
    · rw [outOf_mapO 0 hk hvr.1] at hh
      have ey := all2_map (H := H') hh
      subst ey
      exact ⟨D, _, rfl, .inl ⟨SqL.of hDl, fun l hl => q _ _ (e.trans (sNew hl)) ⟨l, rfl, .inl (.inl upd_same)⟩⟩⟩
/-! rest -/
def spRest (K : PySem.W.Frag) (C : Addr) : Sp := fun vs H Q _ => ∃ (g v1 v2 : V) (p n : Nat) (row : List Nat) (bs : List (List Nat)) (res : List Nat), vs = [g, v2, v1] ∧ GroundAt C g p n H ∧ 0 < p ∧ RowV K v1 row H ∧ row.length ≤ 1000 ∧ CodeV K v2 bs H ∧ (∀ r ∈ bs, r.length ≤ 1000) ∧ without p row bs = some res ∧ Ret (fun v => RowV K v res) H Q
theorem scRest : FnScope ["ground", "code", "row"] ["ground", "code", "row"] (defScope sRest) := ⟨rfl, rfl, rfl, by decide +kernel, rfl, by decide +kernel, by decide +kernel⟩
theorem ok_rest {f : Addr} {fd : FuncData} (F : Fun K "rest" "rest" sRest f fd) (cW : CallOk P w K mg base "without" 3 ["ground", "row", "base"] (spWithout K C)) : FnOk P w K mg base CX0 4 f fd ["ground", "code", "row"] (spRest K C) := by
  refine F.ok scRest (fun vs H Q E h => ?_) (fun cdv A outer s H vs Q E hr h => ?_)
  · obtain ⟨g, v1, v2, p, n, row, bs, res, rfl, _⟩ := h
    rfl
  · obtain ⟨g, v1, v2, p, n, row, bs, res, rfl, hg, h0, hrow, hl, hb, h⟩ := h
    exact ⟨_, pss_one (ps_ret (pcall cW hr (pa_cons (pv 0) (pa_cons (pv 2) (pa_cons (pv 1) pa_nil))))), _, rfl, _, rfl, _, rfl, g, v1, v2, p, n, row, bs, res, rfl, hg, h0, hrow, hl, .inl hb, h⟩
/-! is_in -/
def spIsIn (K : PySem.W.Frag) (C : Addr) : Sp := fun vs H Q _ => ∃ (g v1 v2 : V) (p n : Nat) (row : List Nat) (bs : List (List Nat)) (b : Bool), vs = [g, v2, v1] ∧ GroundAt C g p n H ∧ 0 < p ∧ n ≤ 100 ∧ RowV K v1 row H ∧ row.length ≤ 1000 ∧ CodeV K v2 bs H ∧ (∀ r ∈ bs, r.length ≤ 1000) ∧ isIn p n bs row = some b ∧ ∀ H', Same H H' → Q (.bl b) H'
theorem scIsIn : FnScope ["ground", "code", "row"] ["ground", "code", "row"] (defScope sIsIn) := ⟨rfl, rfl, rfl, by decide +kernel, rfl, by decide +kernel, by decide +kernel⟩
theorem ok_is_in {f : Addr} {fd : FuncData} (F : Fun K "is_in" "is_in" sIsIn f fd) (T : Txt K mg C) (cR : CallOk P w K mg base "rest" 4 ["ground", "code", "row"] (spRest K C)) (mZ : MethOk P w K mg base C "zero" 1 ["self"] (spZero K C)) : FnOk P w K mg base CX0 5 f fd ["ground", "code", "row"] (spIsIn K C) := by
  refine F.ok scIsIn (fun vs H Q E h => ?_) (fun cdv A outer s H vs Q E hr h => ?_)
  · obtain ⟨g, v1, v2, p, n, row, bs, b, rfl, _⟩ := h
    rfl
  · obtain ⟨g, v1, v2, p, n, row, bs, b, rfl, hg, h0, hn, hrow, hl, hb, hlen, hres, q⟩ := h
    obtain ⟨r, hr', rfl⟩ : ∃ r, without p row bs = some r ∧ b = decide (r = zero n) := by
      unfold isIn at hres
      cases e : without p row bs with
      | none =>
        rw [e] at hres
        cases hres
      | some r =>
        rw [e] at hres
        exact ⟨r, rfl, (Option.some.inj hres).symm⟩
    refine ⟨_, pss_one (ps_ret (pe_cmpR (op_eqD (by exact hr.units)) (pcall cR hr (pa_cons (pv 0) (pa_cons (pv 1) (pa_cons (pv 2) pa_nil)))) (pmeth0 (pv 0) T.cl mZ (hr.mono (by decide))) (nomark _))), ?_⟩
    refine ⟨_, rfl, _, rfl, _, rfl, g, v1, v2, p, n, row, bs, r, rfl, hg, h0, hrow, hl, hb, hlen, hr', fun v3 H3 e3 hv3 => ?_⟩
    obtain ⟨ga, dx, rfl, hga⟩ := id hg
    refine ⟨_, rfl, ga, dx, _, rfl, e3 _ _ hga, gf_no _ _ (by decide +kernel) (by decide +kernel), _, p, n, rfl, hg.same e3, hn, fun v4 H4 e4 hv4 => ?_⟩
    refine ⟨_, _, (hv3.same e4).dp, hv4.dp, shR _, shR _, ?_⟩
    rw [eqvR]
    exact q _ (e3.trans e4)
/-! is_within -/
def spWithin (K : PySem.W.Frag) (C : Addr) : Sp := fun vs H Q _ => ∃ (g v1 v2 : V) (p n : Nat) (one other : List (List Nat)) (b : Bool), vs = [g, v1, v2] ∧ GroundAt C g p n H ∧ 0 < p ∧ n ≤ 100 ∧ CodeV K v1 one H ∧ one.length ≤ 1000 ∧ (∀ r ∈ one, r.length ≤ 1000) ∧ CodeV K v2 other H ∧ (∀ r ∈ other, r.length ≤ 1000) ∧ isWithin p n one other = some b ∧ ∀ H', Same H H' → Q (.bl b) H'
theorem scWithin : FnScope ["ground", "one", "other", "row"] ["ground", "one", "other"] (defScope sIsWithin) := ⟨rfl, rfl, rfl, by decide +kernel, rfl, by decide +kernel, by decide +kernel⟩
theorem ok_is_within {f : Addr} {fd : FuncData} (F : Fun K "is_within" "is_within" sIsWithin f fd) (T : Txt K mg C) (cI : CallOk P w K mg base "is_in" 5 ["ground", "code", "row"] (spIsIn K C)) : FnOk P w K mg base CX0 6 f fd ["ground", "one", "other"] (spWithin K C) := by
  refine F.ok scWithin (fun vs H Q E h => ?_) (fun cdv A outer s H vs Q E hr h => ?_)
  · obtain ⟨g, v1, v2, p, n, one, other, b, rfl, _⟩ := h
    rfl
  · obtain ⟨g, _, v2, p, n, one, other, b, rfl, hg, h0, hn, ⟨a, vr, rfl, ha, hvr⟩, hl, hlen, hv2, hlen2, hres, q⟩ := h
    obtain ⟨bs, hbs, rfl⟩ : ∃ bs, mapO (isIn p n other) one = some bs ∧ b = bs.all id := by
      unfold isWithin at hres
      cases e : mapO (isIn p n other) one with
      | none =>
        rw [e] at hres
        cases hres
      | some r =>
        rw [e] at hres
        exact ⟨r, rfl, (Option.some.inj hres).symm⟩
    refine ⟨_, pss_one (ps_ret (pe_callB (cr_all rfl) (by rfl) T.all boot_all (pa_cons
      (pe_lc (own := [("row", 3)]) (g := gName 3) (tt := tYes) rfl scWithin.nd (pi_tup (pv 1)) (blkOk_by (N := ["ground", "one", "other", "row"]) (sc := defScope sIsWithin) (by decide +kernel))
        (fun _ _ _ _ _ => pg_name (i := 3) scWithin.nd rfl (.inl rfl)) (fun _ _ _ _ _ => pts_nil) (fun _ _ _ _ _ => by exact (pcall cI hr (pa_cons (pv 0) (pa_cons (pv 2) (pa_cons (pv 3) pa_nil)))))) pa_nil))), ?_⟩
    refine ⟨_, rfl, a, rfl, ⟨_, ha⟩, ?_⟩
    have hvl := hvr.1
    refine lcP (walk_tup (xs := vr)) (by omega) (fun H1 e => sTup e ha) (fun _ => true) (fun i => bs.getD i false) (fun v b _ => v = V.bl b) flatStays (fun i x H1 H2 P' hi s1 hy k' => ?_) (fun D ys H' hD e hDl hh => ?_)
    · obtain ⟨rfl, hx⟩ := hy
      obtain ⟨row, er, hrow⟩ := hvr.at hx
      obtain ⟨c, hc, ec⟩ := mapO_at hbs i row er
      refine k' _ _ rfl (Same.refl _) yes_ev fun _ H3 s3 Q' q' => ?_
      have e3 := s1.trans s3
      refine ⟨_, rfl, _, rfl, _, rfl, g, _, v2, p, n, row, other, c, rfl, hg.same e3, h0, hn, hrow.same e3, hlen row (List.mem_of_getElem? er), hv2.same e3, hlen2, hc, fun H4 e4 => ?_⟩
      refine q' _ _ e4 ?_
      rw [getD_of ec]
    · rw [outOf_mapO false hbs hvr.1] at hh
      have ey := all2_map (H := H') hh
      subst ey
      exact ⟨D, bs, rfl, SqL.of hDl, q _ e⟩
end
end Cn

set_option Elab.async false
set_option linter.all false
set_option maxRecDepth 100000
set_option maxHeartbeats 4000000
namespace Cn
open PySem PySem.Spec PyProof.Rows L2 XR
abbrev sGauss : Stmt := topS 26
abbrev sCountCodes : Stmt := topS 27
abbrev sCountBetween : Stmt := topS 28
abbrev sManyBehind : Stmt := topS 29
abbrev sFreePlaces : Stmt := topS 30
abbrev sPivotsAt : Stmt := topS 31
abbrev sCodeAt : Stmt := topS 32
abbrev sAllCodes : Stmt := topS 33
/-- the numbers of a ground are small -/
structure NumOk (p n : Nat) : Prop where
  pr : PrimeOk p
  n4 : n ≤ 4
  gb : ∀ r, r ≤ n → 0 < gaussB p r ∧ gaussB p r < 1073741824
  gc : ∀ m, m ≤ n → ∀ r, r ≤ m → gauss p m r < 1000
theorem NumOk.le {p n m : Nat} (h : NumOk p n) (hm : m ≤ n) : NumOk p m :=
  ⟨h.pr, by have := h.n4; omega, fun r hr => h.gb r (by omega), fun k hk r hr => h.gc k (by omega) r hr⟩
theorem gauss_small {p n r : Nat} (h : NumOk p n) : gauss p n r < 1000 := by
  by_cases hr : r ≤ n
  · exact h.gc n (Nat.le_refl _) r hr
  · unfold gauss
    rw [if_pos (by omega)]
    decide
theorem pow_sub_one {p m : Nat} (hp : 2 ≤ p) : ((p ^ m : Nat) : Int) - 1 = ((p ^ m - 1 : Nat) : Int) := by
  have h : 1 ≤ p ^ m := Nat.pow_pos (by omega)
  omega
theorem natBound {b : Nat} (h : ((b : Nat) : Int) < 2 ^ 64) : -(2 ^ 64) < ((b : Nat) : Int) ∧ ((b : Nat) : Int) < 2 ^ 64 := ⟨by omega, h⟩
section
variable {P : Program} {w : World} {K : PySem.W.Frag} {mg : Str → Option Value} {base : Heap} {C : Addr}
/-! gauss -/
def spGauss : Sp := fun vs H Q _ => ∃ p n r : Nat, vs = [iv p, iv n, iv r] ∧ NumOk p n ∧ ∀ H', Same H H' → Q (iv (gauss p n r)) H'
theorem scGauss : FnScope ["p", "n", "rank", "above", "below", "k"] ["p", "n", "rank"] (defScope sGauss) := ⟨rfl, rfl, rfl, by decide +kernel, rfl, by decide +kernel, by decide +kernel⟩
theorem ok_gauss {f : Addr} {fd : FuncData} (F : Fun K "gauss" "gauss" sGauss f fd) (T : Txt K mg C) (cP : CallOk P w K mg base "power" 1 ["number", "many"] spPower) : FnOk P w K mg base CX0 2 f fd ["p", "n", "rank"] spGauss := by
  refine F.ok scGauss (fun vs H Q E h => ?_) (fun cdv A outer s H vs Q E hr h => ?_)
  · obtain ⟨p, n, r, rfl, _⟩ := h
    rfl
  · obtain ⟨p, n, r, rfl, hN, q⟩ := h
    have hp2 := hN.pr.1
    have hp13 := hN.pr.2.1
    have hn4 := hN.n4
    refine ⟨_, pss_cons (ps_if (pt_cmpR op_gt (pv 2) (pv 1) (nomark _)) (pss_one (ps_ret pe_int)) pss_nil)
      (pss_cons (ps_asg (pe_tup (pa_cons pe_int (pa_cons pe_int pa_nil))) (pg_tup rfl (pgs_cons (pg_name (i := 3) scGauss.nd rfl (.inl rfl)) (pgs_cons (pg_name (i := 4) scGauss.nd rfl (.inl rfl)) pgs_nil))))
      (pss_cons (ps_for PassesOwn.never rfl (pi_range1 (by rfl) T.range (pa_cons (pv 2) pa_nil)) (pg_name (i := 5) scGauss.nd rfl (.inl rfl))
        (pss_cons (ps_aug (i := 3) scGauss.nd rfl (.inl rfl) (pe_op op_sub (pcall cP hr (pa_cons (pv 0) (pa_cons (pe_op op_sub (pv 1) (pv 5)) pa_nil))) pe_int) ip_mul)
        (pss_one (ps_aug (i := 4) scGauss.nd rfl (.inl rfl) (pe_op op_sub (pcall cP hr (pa_cons (pv 0) (pa_cons (pe_op op_add (pv 5) pe_int) pa_nil))) pe_int) ip_mul))))
      (pss_one (ps_ret (pe_op op_fdiv (pv 3) (pv 4)))))), ?_⟩
    refine ⟨_, rfl, _, rfl, _, _, rfl, rfl, _, rfl, ite2 (fun e => ?_) (fun e => ?_)⟩
    · have e1 : r > n := by have := of_decide_eq_true e; omega
      have e2 : gauss p n r = 0 := by
        unfold gauss
        rw [if_pos e1]
      have q := q _ (Same.refl _)
      rw [e2] at q
      exact q
    · have e1 : r ≤ n := by
        have := of_decide_eq_false (eq_false_of_ne_true e)
        omega
      have e2 : gauss p n r = gaussA p n r / gaussB p r := by
        unfold gauss
        rw [if_neg (by omega)]
      refine ⟨fl (by decide), fun o no => ⟨o, _, rfl, .inl (.inl upd_same), rfl, _, _, rfl, _, _, rfl, rfl, ?_⟩⟩
      have e0 : Same H (upd H o (.tup [V.int 1, V.int 1])) := sNew no
      refine ⟨_, rfl, r, rfl, by omega, by omega, for_range (n := r) (fun i σ H' => H' = upd H o (.tup [V.int 1, V.int 1]) ∧ ∃ y, σ = [some (iv p), some (iv n), some (iv r), some (iv (gaussA p n i)), some (iv (gaussB p i)), y]) ⟨rfl, none, rfl⟩ ?_ ?_⟩
      · rintro i σ H' hi ⟨rfl, y, rfl⟩
        have ek : V.int (0 + (i : Int)) = iv i := by rw [Int.zero_add]
        have en : V.int ((n : Int) - (0 + (i : Int))) = iv (n - i) := by
          show V.int ((n : Int) - (0 + (i : Int))) = V.int ((n - i : Nat) : Int)
          congr 1
          omega
        have ek1 : V.int (0 + (i : Int) + 1) = iv (i + 1) := by
          show V.int (0 + (i : Int) + 1) = V.int ((i + 1 : Nat) : Int)
          congr 1
          omega
        have hpw : ∀ m, m ≤ 16 → -(2 ^ 64) < ((p ^ m : Nat) : Int) - 1 ∧ ((p ^ m : Nat) : Int) - 1 < 2 ^ 64 := fun m hm => by
          have h1 := powBound hp13 hm
          have h2 : (0 : Int) ≤ ((p ^ m : Nat) : Int) := Int.natCast_nonneg _
          exact ⟨by omega, by omega⟩
        refine ⟨_, rfl, _, rfl, _, rfl, _, rfl, _, _, rfl, rfl, ?_⟩
        refine ⟨p, n - i, by rw [← en]; rfl, hp13, by omega, ?_⟩
        refine ⟨_, _, rfl, rfl, ?_⟩
        refine ⟨_, _, rfl, rfl, .inr (hpw _ (by omega)), ?_⟩
        refine ⟨_, rfl, _, rfl, _, rfl, _, _, rfl, rfl, ?_⟩
        refine ⟨p, i + 1, by rw [← ek1]; rfl, hp13, by omega, ?_⟩
        refine ⟨_, _, rfl, rfl, ?_⟩
        refine ⟨_, _, rfl, rfl, .inr (hpw _ (by omega)), ?_⟩
        refine ⟨rfl, some (V.int (0 + (i : Int))), ?_⟩
        have ea : V.int (((gaussA p n i : Nat) : Int) * (((p ^ (n - i) : Nat) : Int) - 1)) = iv (gaussA p n (i + 1)) := by
          rw [pow_sub_one hp2]
          show V.int _ = V.int ((gaussA p n i * (p ^ (n - i) - 1) : Nat) : Int)
          rw [Int.natCast_mul]
        have eb : V.int (((gaussB p i : Nat) : Int) * (((p ^ (i + 1) : Nat) : Int) - 1)) = iv (gaussB p (i + 1)) := by
          rw [pow_sub_one hp2]
          show V.int _ = V.int ((gaussB p i * (p ^ (i + 1) - 1) : Nat) : Int)
          rw [Int.natCast_mul]
        show [some (iv p), some (iv n), some (iv r), some (V.int (((gaussA p n i : Nat) : Int) * (((p ^ (n - i) : Nat) : Int) - 1))), some (V.int (((gaussB p i : Nat) : Int) * (((p ^ (i + 1) : Nat) : Int) - 1))), some (V.int (0 + (i : Int)))] = _
        rw [ea, eb]
      · rintro σ H' ⟨rfl, y, rfl⟩
        obtain ⟨b1, b2⟩ := hN.gb r e1
        refine ⟨_, rfl, _, rfl, _, _, rfl, rfl, ⟨by omega, by omega⟩, ?_⟩
        have e3 : V.int (((gaussA p n r : Nat) : Int) / ((gaussB p r : Nat) : Int)) = iv (gauss p n r) := by
          rw [e2]
          show V.int _ = V.int ((gaussA p n r / gaussB p r : Nat) : Int)
          rw [Int.natCast_ediv]
        show Q (V.int (((gaussA p n r : Nat) : Int) / ((gaussB p r : Nat) : Int))) _
        rw [e3]
        exact q _ e0
/-! count_codes -/
def spCountCodes (C : Addr) : Sp := fun vs H Q _ => ∃ (g : V) (p n r : Nat), vs = [g, iv r] ∧ GroundAt C g p n H ∧ NumOk p n ∧ ∀ H', Same H H' → Q (iv (gauss p n r)) H'
theorem scCountCodes : FnScope ["ground", "rank"] ["ground", "rank"] (defScope sCountCodes) := ⟨rfl, rfl, rfl, by decide +kernel, rfl, by decide +kernel, by decide +kernel⟩
theorem ok_count_codes {f : Addr} {fd : FuncData} (F : Fun K "count_codes" "count_codes" sCountCodes f fd) (T : Txt K mg C) (cG : CallOk P w K mg base "gauss" 2 ["p", "n", "rank"] spGauss) (mP : MethOk P w K mg base C "p" 1 ["self"] (spP C)) (mN : MethOk P w K mg base C "n" 1 ["self"] (spN C)) :
    FnOk P w K mg base CX0 3 f fd ["ground", "rank"] (spCountCodes C) := by
  refine F.ok scCountCodes (fun vs H Q E h => ?_) (fun cdv A outer s H vs Q E hr h => ?_)
  · obtain ⟨g, p, n, r, rfl, _⟩ := h
    rfl
  · obtain ⟨g, p, n, r, rfl, hg, hN, q⟩ := h
    exact ⟨_, pss_one (ps_ret (pcall cG hr (pa_cons (pmeth0 (pv 0) T.cl mP (hr.mono (by decide))) (pa_cons (pmeth0 (pv 0) T.cl mN (hr.mono (by decide))) (pa_cons (pv 1) pa_nil))))),
      _, rfl, use_p hg ⟨_, rfl, use_n hg ⟨_, rfl, p, n, r, rfl, hN, q⟩⟩⟩
/-! count_between -/
def spCountBetween (K : PySem.W.Frag) (C : Addr) : Sp := fun vs H Q _ => ∃ (g v1 v2 : V) (p n r : Nat) (low high : List (List Nat)) (c : Nat), vs = [g, v1, v2, iv r] ∧ GroundAt C g p n H ∧ NumOk p n ∧ CodeV K v1 low H ∧ low.length ≤ high.length ∧ high.length ≤ n ∧ (∀ r ∈ low, r.length ≤ 1000) ∧ CodeV K v2 high H ∧ (∀ r ∈ high, r.length ≤ 1000) ∧ countBetween p n low high r = some c ∧ ∀ H', Same H H' → Q (iv c) H'
theorem scCountBetween : FnScope ["ground", "low", "high", "rank"] ["ground", "low", "high", "rank"] (defScope sCountBetween) := ⟨rfl, rfl, rfl, by decide +kernel, rfl, by decide +kernel, by decide +kernel⟩
theorem ok_count_between {f : Addr} {fd : FuncData} (F : Fun K "count_between" "count_between" sCountBetween f fd) (T : Txt K mg C) (cW : CallOk P w K mg base "is_within" 6 ["ground", "one", "other"] (spWithin K C)) (cG : CallOk P w K mg base "gauss" 2 ["p", "n", "rank"] spGauss) (mP : MethOk P w K mg base C "p" 1 ["self"] (spP C)) :
    FnOk P w K mg base CX0 7 f fd ["ground", "low", "high", "rank"] (spCountBetween K C) := by
  refine F.ok scCountBetween (fun vs H Q E h => ?_) (fun cdv A outer s H vs Q E hr h => ?_)
  · obtain ⟨g, v1, v2, p, n, r, low, high, c, rfl, _⟩ := h
    rfl
  · obtain ⟨g, v1, v2, p, n, r, low, high, c, rfl, hg, hN, hlow, hll, hhn, hlr, hhigh, hhr, hc, q⟩ := h
    have hp2 := hN.pr.1
    have hn4 := hN.n4
    obtain ⟨b, hb, ec⟩ : ∃ b, isWithin p n low high = some b ∧ c = if b = true then (if r < low.length then 0 else gauss p (high.length - low.length) (r - low.length)) else 0 := by
      unfold countBetween at hc
      cases e : isWithin p n low high with
      | none =>
        rw [e] at hc
        cases hc
      | some b =>
        rw [e] at hc
        exact ⟨b, rfl, (Option.some.inj hc).symm⟩
    refine ⟨_, pss_cons (ps_if (PW.pt (pw_or (pt_not (pt_val (pcall cW hr (pa_cons (pv 0) (pa_cons (pv 1) (pa_cons (pv 2) pa_nil)))))) (pw_or1 (pt_cmpR op_lt (pv 3) (pe_callB call_len_seq (by rfl) T.len PySem.boot_len (pa_cons (pv 1) pa_nil)) (nomark _))))) (pss_one (ps_ret pe_int)) pss_nil)
      (pss_one (ps_ret (pcall cG (hr.mono (by decide)) (pa_cons (pmeth0 (pv 0) T.cl mP (hr.mono (by decide))) (pa_cons (pe_op op_sub (pe_callB call_len_seq (by rfl) T.len PySem.boot_len (pa_cons (pv 2) pa_nil)) (pe_callB call_len_seq (by rfl) T.len PySem.boot_len (pa_cons (pv 1) pa_nil))) (pa_cons (pe_op op_sub (pv 3) (pe_callB call_len_seq (by rfl) T.len PySem.boot_len (pa_cons (pv 1) pa_nil))) pa_nil)))))), ?_⟩
    refine ⟨_, rfl, _, rfl, _, rfl, g, v1, v2, p, n, low, high, b, rfl, hg, by omega, by omega, hlow, by omega, hlr, hhigh, hhr, hb, fun H1 e1 => ⟨b, rfl, ?_⟩⟩
    obtain ⟨a1, vl, rfl, ha1, hvl⟩ := hlow
    obtain ⟨a2, vh, rfl, ha2, hvh⟩ := hhigh
    cases b with
    | false =>
      rw [if_neg (by decide)] at ec
      subst ec
      exact iteT (iteT (q _ e1))
    | true =>
      rw [if_pos rfl] at ec
      refine iteF ?_
      refine ⟨_, rfl, _, rfl, a1, vl, rfl, .inr (sTup e1 ha1), _, _, rfl, rfl, _, rfl, ite2 (fun e => ?_) (fun e => ?_)⟩
      · have e2 : r < low.length := by
          have := of_decide_eq_true e
          have := hvl.1
          omega
        rw [if_pos e2] at ec
        subst ec
        exact q _ e1
      · have e2 : ¬ r < low.length := by
          have := of_decide_eq_false (eq_false_of_ne_true e)
          have := hvl.1
          omega
        rw [if_neg e2] at ec
        subst ec
        have hl1 := hvl.1
        have hl2 := hvh.1
        refine ⟨_, rfl, use_p (hg.same e1) ?_⟩
        refine ⟨_, rfl, a2, vh, rfl, .inr (sTup e1 ha2), _, rfl, a1, vl, rfl, .inr (sTup e1 ha1), _, _, rfl, rfl, ?_⟩
        refine ⟨_, rfl, _, rfl, a1, vl, rfl, .inr (sTup e1 ha1), _, _, rfl, rfl, ?_⟩
        refine ⟨p, high.length - low.length, r - low.length, ?_, hN.le (by omega), fun H2 e2 => q _ (e1.trans e2)⟩
        have x1 : V.int ((vh.length : Int) - (vl.length : Int)) = iv (high.length - low.length) := by
          show V.int _ = V.int ((high.length - low.length : Nat) : Int)
          congr 1
          omega
        have x2 : V.int ((r : Int) - (vl.length : Int)) = iv (r - low.length) := by
          show V.int _ = V.int ((r - low.length : Nat) : Int)
          congr 1
          omega
        show [iv p, V.int ((vh.length : Int) - (vl.length : Int)), V.int ((r : Int) - (vl.length : Int))] = _
        rw [x1, x2]
/-! many_behind -/
def spManyBehind (C : Addr) : Sp := fun vs H Q _ => ∃ (g : V) (p n c ch l : Nat), vs = [g, iv c, iv ch, iv l] ∧ GroundAt C g p n H ∧ NumOk p n ∧ c ≤ n ∧ ch ≤ 4 ∧ ∀ H', Same H H' → Q (iv (manyBehind p n c ch l)) H'
theorem scManyBehind : FnScope ["ground", "column", "chosen", "left", "more"] ["ground", "column", "chosen", "left"] (defScope sManyBehind) := ⟨rfl, rfl, rfl, by decide +kernel, rfl, by decide +kernel, by decide +kernel⟩
theorem ok_many_behind {f : Addr} {fd : FuncData} (F : Fun K "many_behind" "many_behind" sManyBehind f fd) (T : Txt K mg C) (cG : CallOk P w K mg base "gauss" 2 ["p", "n", "rank"] spGauss) (cP : CallOk P w K mg base "power" 1 ["number", "many"] spPower) (mP : MethOk P w K mg base C "p" 1 ["self"] (spP C)) (mN : MethOk P w K mg base C "n" 1 ["self"] (spN C)) :
    FnOk P w K mg base CX0 3 f fd ["ground", "column", "chosen", "left"] (spManyBehind C) := by
  refine F.ok scManyBehind (fun vs H Q E h => ?_) (fun cdv A outer s H vs Q E hr h => ?_)
  · obtain ⟨g, p, n, c, ch, l, rfl, _⟩ := h
    rfl
  · obtain ⟨g, p, n, c, ch, l, rfl, hg, hN, hc, hch, q⟩ := h
    have hp13 := hN.pr.2.1
    have hn4 := hN.n4
    refine ⟨_, pss_cons (ps_set (i := 4) scManyBehind.nd rfl (.inl rfl) (pe_op op_sub (pmeth0 (pv 0) T.cl mN (hr.mono (by decide))) (pv 1)))
      (pss_one (ps_ret (pe_ifExp (pt_cmpR op_gt (pv 3) (pv 4) (nomark _)) pe_int (pe_op op_mul (pcall cP (hr.mono (by decide)) (pa_cons (pmeth0 (pv 0) T.cl mP (hr.mono (by decide))) (pa_cons (pe_op op_mul (pv 2) (pe_op op_sub (pv 4) (pv 3))) pa_nil))) (pcall cG hr (pa_cons (pmeth0 (pv 0) T.cl mP (hr.mono (by decide))) (pa_cons (pv 4) (pa_cons (pv 3) pa_nil)))))))), ?_⟩
    refine ⟨_, rfl, use_n hg ⟨_, rfl, _, _, rfl, rfl, ?_⟩⟩
    have x1 : V.int ((n : Int) - (c : Int)) = iv (n - c) := by
      show V.int _ = V.int ((n - c : Nat) : Int)
      congr 1
      omega
    refine ⟨_, rfl, _, rfl, _, _, rfl, rfl, _, rfl, ite2 (fun e => ?_) (fun e => ?_)⟩
    · have e1 : l > n - c := by have := of_decide_eq_true e; omega
      have e2 : manyBehind p n c ch l = 0 := by
        unfold manyBehind
        rw [if_pos e1]
      have q := q _ (Same.refl _)
      rw [e2] at q
      exact q
    · have e1 : l ≤ n - c := by
        have := of_decide_eq_false (eq_false_of_ne_true e)
        omega
      have e2 : manyBehind p n c ch l = p ^ (ch * (n - c - l)) * gauss p (n - c) l := by
        unfold manyBehind
        rw [if_neg (by omega)]
      have b16 : ch * (n - c - l) ≤ 16 := Nat.le_trans (Nat.mul_le_mul hch (show n - c - l ≤ 4 by omega)) (by decide)
      refine ⟨_, rfl, use_p hg ?_⟩
      refine ⟨_, rfl, _, rfl, _, rfl, _, _, rfl, rfl, _, _, rfl, rfl, .inl ⟨by omega, by omega⟩, ?_⟩
      have x2 : V.int ((ch : Int) * ((n : Int) - (c : Int) - (l : Int))) = iv (ch * (n - c - l)) := by
        show V.int _ = V.int ((ch * (n - c - l) : Nat) : Int)
        rw [Int.natCast_mul]
        congr 2
        omega
      refine ⟨p, ch * (n - c - l), ?_, hp13, b16, ?_⟩
      · show [iv p, V.int ((ch : Int) * ((n : Int) - (c : Int) - (l : Int)))] = _
        rw [x2]
      refine ⟨_, rfl, use_p hg ?_⟩
      refine ⟨_, rfl, _, rfl, p, n - c, l, ?_, hN.le (by omega), fun H1 e3 => ?_⟩
      · show [iv p, V.int ((n : Int) - (c : Int)), iv l] = _
        rw [x1]
      refine ⟨_, _, rfl, rfl, .inl (natBound (powBound hp13 b16)), ?_⟩
      have x3 : V.int (((p ^ (ch * (n - c - l)) : Nat) : Int) * ((gauss p (n - c) l : Nat) : Int)) = iv (manyBehind p n c ch l) := by
        rw [e2]
        show V.int _ = V.int ((p ^ (ch * (n - c - l)) * gauss p (n - c) l : Nat) : Int)
        rw [Int.natCast_mul]
      show Q (V.int (((p ^ (ch * (n - c - l)) : Nat) : Int) * ((gauss p (n - c) l : Nat) : Int))) _
      rw [x3]
      exact q _ e3
end
end Cn

set_option Elab.async false
set_option linter.all false
set_option maxRecDepth 100000
set_option maxHeartbeats 4000000
namespace Cn
open PySem PySem.Spec PyProof.Rows L2 XR
theorem inV_nats (c : Nat) : ∀ cs : List Nat, inV (iv c) (cs.map iv) = cs.contains c
  | [] => rfl
  | x :: cs => by
    show (eqV (iv x) (iv c) || inV (iv c) (cs.map iv)) = (x :: cs).contains c
    rw [inV_nats c cs, List.contains_cons]
    congr 1
    show ((x : Int) == (c : Int)) = (c == x)
    by_cases h : c = x
    · subst h
      rw [beq_self_eq_true, beq_self_eq_true]
    · have h1 : ¬ (x : Int) = (c : Int) := by omega
      rw [beq_eq_false_iff_ne.mpr h, beq_eq_false_iff_ne.mpr h1]
theorem flat_nats (cs : List Nat) : (cs.map iv).all flatV = true := by
  rw [List.all_map]
  exact List.all_eq_true.mpr fun x _ => rfl
/-- a pair of numbers -/
def PairV (K : PySem.W.Frag) (v : V) (kc : Nat × Nat) (H : Hp) : Prop := ∃ t, v = .ref t ∧ SqT K H t [iv kc.1, iv kc.2]
theorem PairV.same {K : PySem.W.Frag} {v : V} {kc : Nat × Nat} {H H' : Hp} (e : Same H H') (h : PairV K v kc H) : PairV K v kc H' := by
  obtain ⟨t, rfl, h⟩ := h
  exact ⟨t, rfl, sTup e h⟩
theorem PairV.lst {K : PySem.W.Frag} {v : V} {kc : Nat × Nat} {H : Hp} {D : Addr} {acc acc' : List V} (hD : H D = some (.lst acc)) (h : PairV K v kc H) : PairV K v kc (upd H D (.lst acc')) := by
  obtain ⟨t, rfl, h⟩ := h
  exact ⟨t, rfl, tupLst hD h⟩
def pvFold (p n rank : Nat) (i : Nat) (number : Nat) : PvSt := (List.range i).foldl (pvStep p n rank) ⟨[], 1, number⟩
theorem pvFold_succ (p n rank i number : Nat) : pvFold p n rank (i + 1) number = pvStep p n rank (pvFold p n rank i number) i := by
  unfold pvFold
  rw [List.range_succ, List.foldl_append]
  rfl
/-- how many there are behind -/
def pvMany (p n rank : Nat) (s : PvSt) (c : Nat) : Nat := if s.cs.length = rank then 0 else s.f * manyBehind p n (c + 1) (s.cs.length + 1) (rank - s.cs.length - 1)
theorem pvStep_yes {p n rank : Nat} {s : PvSt} {c : Nat} (h : s.l < pvMany p n rank s c) : pvStep p n rank s c = ⟨s.cs ++ [c], s.f, s.l⟩ := by
  unfold pvStep
  exact if_pos h
theorem pvStep_no {p n rank : Nat} {s : PvSt} {c : Nat} (h : ¬ s.l < pvMany p n rank s c) : pvStep p n rank s c = ⟨s.cs, s.f * p ^ s.cs.length, s.l - pvMany p n rank s c⟩ := by
  unfold pvStep
  exact if_neg h
theorem mul13 {a b i : Nat} (ha : a ≤ 13 ^ (4 * i)) (hb : b ≤ 13 ^ 4) : a * b ≤ 13 ^ (4 * (i + 1)) := by
  have : 13 ^ (4 * (i + 1)) = 13 ^ (4 * i) * 13 ^ 4 := by rw [Nat.mul_add, Nat.pow_add]
  rw [this]
  exact Nat.mul_le_mul ha hb
theorem f64 {f i : Nat} (hf : f ≤ 13 ^ (4 * i)) (hi : i ≤ 4) : ((f : Nat) : Int) < 2 ^ 64 := by
  have h1 : (13 : Nat) ^ (4 * i) ≤ 13 ^ 16 := Nat.pow_le_pow_right (by decide) (by omega)
  have h2 : (13 : Nat) ^ 16 < 2 ^ 64 := by decide
  have h3 : f < 2 ^ 64 := by omega
  exact_mod_cast h3
section
variable {P : Program} {w : World} {K : PySem.W.Frag} {mg : Str → Option Value} {base : Heap} {C : Addr}
/-! pivots_at -/
def spPivotsAt (K : PySem.W.Frag) (C : Addr) : Sp := fun vs H Q _ => ∃ (g : V) (p n rank number : Nat), vs = [g, iv rank, iv number] ∧ GroundAt C g p n H ∧ NumOk p n ∧ (pivotsAt p n rank number).cs.length ≤ n ∧
  ∀ t a H', Same H H' → SqT K H' t [.ref a, iv (pivotsAt p n rank number).l] → H' a = some (.lst ((pivotsAt p n rank number).cs.map iv)) → Q (.ref t) H'
theorem scPivotsAt : FnScope ["ground", "rank", "number", "columns", "factor", "left", "column", "chosen", "many"] ["ground", "rank", "number"] (defScope sPivotsAt) := ⟨rfl, rfl, rfl, by decide +kernel, rfl, by decide +kernel, by decide +kernel⟩
theorem ok_pivots_at {f : Addr} {fd : FuncData} (F : Fun K "pivots_at" "pivots_at" sPivotsAt f fd) (T : Txt K mg C) (cM : CallOk P w K mg base "many_behind" 3 ["ground", "column", "chosen", "left"] (spManyBehind C)) (cP : CallOk P w K mg base "power" 1 ["number", "many"] spPower) (mP : MethOk P w K mg base C "p" 1 ["self"] (spP C)) (mN : MethOk P w K mg base C "n" 1 ["self"] (spN C)) :
    FnOk P w K mg base CX0 4 f fd ["ground", "rank", "number"] (spPivotsAt K C) := by
  refine F.ok scPivotsAt (fun vs H Q E h => ?_) (fun cdv A outer s H vs Q E hr h => ?_)
  · obtain ⟨g, p, n, rank, number, rfl, _⟩ := h
    rfl
  · obtain ⟨g, p, n, rank, number, rfl, hg, hN, hcl, q⟩ := h
    have hp13 := hN.pr.2.1
    have hn4 := hN.n4
    refine ⟨_, pss_cons (ps_par3 (i := 3) (j := 4) (l := 5) rfl scPivotsAt.nd rfl rfl rfl (by decide) (by decide) (by decide) rfl rfl rfl (pa_cons (pe_lst pa_nil) (pa_cons pe_int (pa_cons (pv 2) pa_nil))) (by rfl))
      (pss_cons (ps_for PassesOwn.never rfl (pi_range1 (by rfl) T.range (pa_cons (pmeth0 (pv 0) T.cl mN (hr.mono (by decide))) pa_nil)) (pg_name (i := 6) scPivotsAt.nd rfl (.inl rfl))
        (pss_cons (ps_set (i := 7) scPivotsAt.nd rfl (.inl rfl) (pe_callB call_len_seq (by rfl) T.len PySem.boot_len (pa_cons (pv 3) pa_nil)))
        (Evl.pss_cut (ps_set (i := 8) scPivotsAt.nd rfl (.inl rfl) (pe_ifExp (pt_cmpR op_eq (pv 7) (pv 1) (nomark _)) pe_int (pe_op op_mul (pv 4) (pcall cM hr (pa_cons (pv 0) (pa_cons (pe_op op_add (pv 6) pe_int) (pa_cons (pe_op op_add (pv 7) pe_int) (pa_cons (pe_op op_sub (pe_op op_sub (pv 1) (pv 7)) pe_int) pa_nil))))))))
        (pss_one (ps_if (pt_cmpR op_lt (pv 5) (pv 8) (nomark _))
          (pss_one (ps_expr (pe_bm PySem.F.plainAttrs_list PySem.F.slot_list_append PySem.F.type_list_append mt_append (pv 3) (pa_cons (pv 6) pa_nil))))
          (pss_cons (ps_aug (i := 5) scPivotsAt.nd rfl (.inl rfl) (pv 8) ip_sub) (pss_one (ps_aug (i := 4) scPivotsAt.nd rfl (.inl rfl) (pcall cP (hr.mono (by decide)) (pa_cons (pmeth0 (pv 0) T.cl mP (hr.mono (by decide))) (pa_cons (pv 7) pa_nil))) ip_mul))))))))
      (pss_one (ps_ret (pe_tup (pa_cons (pv 3) (pa_cons (pv 5) pa_nil)))))), ?_⟩
    refine ⟨Nat.zero_le _, fun a na => ⟨_, rfl, _, _, _, rfl, ?_⟩⟩
    have e0 : Same H (upd H a (.lst [])) := sNew na
    refine ⟨_, rfl, use_n (hg.same e0) ⟨n, rfl, by omega, by omega, ?_⟩⟩
    refine for_range (n := n) (fun i σ H' => Same H H' ∧ ∃ y6 y7 y8, σ = [some g, some (iv rank), some (iv number), some (.ref a), some (iv (pvFold p n rank i number).f), some (iv (pvFold p n rank i number).l), y6, y7, y8] ∧
        H' a = some (.lst ((pvFold p n rank i number).cs.map iv)) ∧ (pvFold p n rank i number).cs.length ≤ i ∧ (pvFold p n rank i number).cs.length ≤ rank ∧ (pvFold p n rank i number).f ≤ 13 ^ (4 * i))
      ⟨e0, none, none, none, rfl, upd_same, Nat.le_refl _, Nat.zero_le _, Nat.le_refl _⟩ ?_ ?_
    · rintro i σ H1 hi ⟨e1, y6, y7, y8, rfl, ha, hci, hcr, hf⟩
      rw [pvFold_succ]
      generalize pvFold p n rank i number = st at ha hci hcr hf ⊢
      have ei : V.int (0 + (i : Int)) = iv i := by rw [Int.zero_add]
      -- chosen = len(columns)
      refine ⟨_, rfl, a, _, rfl, .inl (SqL.of ha), ?_⟩
      rw [List.length_map, ei]
      refine ⟨fun σ' H' => Same H H' ∧ σ' = [some g, some (iv rank), some (iv number), some (.ref a), some (iv st.f), some (iv st.l), some (iv i), some (iv st.cs.length), some (iv (pvMany p n rank st i))] ∧ H' a = some (.lst (st.cs.map iv)), ?_, ?_⟩
      · -- many = ..
        refine ⟨_, rfl, _, rfl, rfl, _, rfl, ite2 (fun e => ?_) (fun e => ?_)⟩
        · have e2 : st.cs.length = rank := by
            have := V.int.inj (of_decide_eq_true e)
            omega
          refine ⟨e1, ?_, ha⟩
          have e3 : pvMany p n rank st i = 0 := by
            unfold pvMany
            rw [if_pos e2]
          rw [e3]
          rfl
        · have e2 : ¬ st.cs.length = rank := fun z => e (decide_eq_true (by rw [z]))
          have e3 : pvMany p n rank st i = st.f * manyBehind p n (i + 1) (st.cs.length + 1) (rank - st.cs.length - 1) := by
            unfold pvMany
            rw [if_neg e2]
          refine ⟨_, rfl, _, rfl, _, rfl, _, _, rfl, rfl, _, rfl, _, _, rfl, rfl, _, rfl, _, rfl, _, _, rfl, rfl, _, _, rfl, rfl, ?_⟩
          have x1 : V.int ((i : Int) + 1) = iv (i + 1) := rfl
          have x2 : V.int ((st.cs.length : Int) + 1) = iv (st.cs.length + 1) := rfl
          have x3 : V.int ((rank : Int) - (st.cs.length : Int) - 1) = iv (rank - st.cs.length - 1) := by
            show V.int _ = V.int ((rank - st.cs.length - 1 : Nat) : Int)
            congr 1
            omega
          refine ⟨g, p, n, i + 1, st.cs.length + 1, rank - st.cs.length - 1, ?_, hg.same e1, hN, by omega, by omega, fun H2 e4 => ?_⟩
          · show [g, V.int ((i : Int) + 1), V.int ((st.cs.length : Int) + 1), V.int ((rank : Int) - (st.cs.length : Int) - 1)] = _
            rw [x1, x2, x3]
          refine ⟨_, _, rfl, rfl, .inl (natBound (f64 hf (by omega))), e1.trans e4, ?_, e4 _ _ ha⟩
          have x4 : V.int (((st.f : Nat) : Int) * ((manyBehind p n (i + 1) (st.cs.length + 1) (rank - st.cs.length - 1) : Nat) : Int)) = iv (pvMany p n rank st i) := by
            rw [e3]
            show V.int _ = V.int ((st.f * manyBehind p n (i + 1) (st.cs.length + 1) (rank - st.cs.length - 1) : Nat) : Int)
            rw [Int.natCast_mul]
          show [some g, some (iv rank), some (iv number), some (.ref a), some (iv st.f), some (iv st.l), some (iv i), some (iv st.cs.length), some (V.int (((st.f : Nat) : Int) * ((manyBehind p n (i + 1) (st.cs.length + 1) (rank - st.cs.length - 1) : Nat) : Int)))] = _
          rw [x4]
      · rintro σ' H2 ⟨e2, rfl, ha2⟩
        refine ⟨_, rfl, _, rfl, _, _, rfl, rfl, _, rfl, ite2 (fun e => ?_) (fun e => ?_)⟩
        · have e3 : st.l < pvMany p n rank st i := by have := of_decide_eq_true e; omega
          rw [pvStep_yes e3]
          have hlt : st.cs.length < rank := by
            rcases Nat.lt_or_ge st.cs.length rank with z | z
            · exact z
            · have e4 : st.cs.length = rank := by omega
              unfold pvMany at e3
              rw [if_pos e4] at e3
              omega
          refine ⟨_, rfl, .inl ⟨rfl, _, .inl (.inl ha2)⟩, _, rfl, a, _, _, rfl, rfl, ha2, flt (by rw [List.length_map]; omega), ?_⟩
          refine ⟨sMut e2 na, _, _, _, rfl, ?_, ?_, ?_, Nat.le_trans hf (Nat.pow_le_pow_right (by decide) (by omega))⟩
          · rw [upd_same, List.map_append]
            rfl
          · show (st.cs ++ [i]).length ≤ i + 1
            rw [List.length_append]
            show st.cs.length + 1 ≤ i + 1
            omega
          · show (st.cs ++ [i]).length ≤ rank
            rw [List.length_append]
            show st.cs.length + 1 ≤ rank
            omega
        · have e3 : ¬ st.l < pvMany p n rank st i := by
            have := of_decide_eq_false (eq_false_of_ne_true e)
            omega
          rw [pvStep_no e3]
          refine ⟨_, rfl, _, rfl, _, _, rfl, rfl, ?_⟩
          refine ⟨_, rfl, _, rfl, use_p (hg.same e2) ⟨_, rfl, p, st.cs.length, rfl, hp13, by omega, ?_⟩⟩
          refine ⟨_, _, rfl, rfl, .inl (natBound (f64 hf (by omega))), e2, some (iv i), some (iv st.cs.length), some (iv (pvMany p n rank st i)), ?_, ha2, by show st.cs.length ≤ i + 1; omega, hcr, mul13 hf (Nat.le_trans (Nat.pow_le_pow_left hp13 _) (Nat.pow_le_pow_right (by decide) (by omega)))⟩
          have x1 : V.int ((st.l : Int) - (pvMany p n rank st i : Int)) = iv (st.l - pvMany p n rank st i) := by
            show V.int _ = V.int ((st.l - pvMany p n rank st i : Nat) : Int)
            congr 1
            omega
          have x2 : V.int (((st.f : Nat) : Int) * ((p ^ st.cs.length : Nat) : Int)) = iv (st.f * p ^ st.cs.length) := by
            show V.int _ = V.int ((st.f * p ^ st.cs.length : Nat) : Int)
            rw [Int.natCast_mul]
          show [some g, some (iv rank), some (iv number), some (.ref a), some (V.int (((st.f : Nat) : Int) * ((p ^ st.cs.length : Nat) : Int))), some (V.int ((st.l : Int) - (pvMany p n rank st i : Int))), some (iv i), some (iv st.cs.length), some (iv (pvMany p n rank st i))] = _
          rw [x1, x2]
    · rintro σ H1 ⟨e1, y6, y7, y8, rfl, ha, hci, hcr, hf⟩
      refine ⟨_, rfl, _, rfl, fl (by show 2 ≤ 100000; decide), fun t nt => ?_⟩
      exact q t a _ (e1.trans (sNew nt)) (.inl (.inl upd_same)) (sNew nt _ _ ha)
end
end Cn

set_option Elab.async false
set_option linter.all false
set_option maxRecDepth 100000
set_option maxHeartbeats 4000000
namespace Cn
open PySem PySem.Spec PyProof.Rows L2 XR
def pairsOf' (n : Nat) (cs : List Nat) (k : Nat) : List (Nat × Nat) := (freeOf n cs k).map fun c => (k, c)
theorem flat_succ {β : Type} (i : Nat) (F : Nat → List β) : (List.range (i + 1)).flatMap F = (List.range i).flatMap F ++ F i := by
  rw [List.range_succ, List.flatMap_append]
  simp
/-- the free places of row k in the columns from lo on, j of them looked at -/
def freeTill (cs : List Nat) (k lo j : Nat) : List (Nat × Nat) := ((List.range' lo j).filter fun c => !cs.contains c).map fun c => (k, c)
theorem freeTill_succ (cs : List Nat) (k lo j : Nat) : freeTill cs k lo (j + 1) = freeTill cs k lo j ++ if (!cs.contains (lo + j)) = true then [(k, lo + j)] else [] := by
  unfold freeTill
  rw [List.range'_concat, List.filter_append, List.map_append]
  congr 1
  rw [Nat.one_mul]
  by_cases h : lo + j ∈ cs <;> simp [h]
theorem freeTill_len (cs : List Nat) (k lo j : Nat) : (freeTill cs k lo j).length ≤ j := by
  unfold freeTill
  rw [List.length_map]
  have h := List.length_filter_le (fun c => !cs.contains c) (List.range' lo j)
  rw [List.length_range'] at h
  exact h
theorem tYes_if {σ : L2.St} {H : Hp} {A B : Hp → Prop} (h : A H) : tYes σ H (fun b H3 => if b = true then A H3 else B H3) := by
  show if true = true then A H else B H
  rw [if_pos rfl]
  exact h
section
variable {P : Program} {w : World} {K : PySem.W.Frag} {mg : Str → Option Value} {base : Heap} {C : Addr}
/-! free_places -/
def spFree (K : PySem.W.Frag) (C : Addr) : Sp := fun vs H Q _ => ∃ (g : V) (a : Addr) (p n : Nat) (cs : List Nat), vs = [g, .ref a] ∧ GroundAt C g p n H ∧ n ≤ 100 ∧ SqL K H a (cs.map iv) ∧ cs.length ≤ 100 ∧ (∀ c ∈ cs, c ≤ 100) ∧
  ∀ D ys H', H D = none → Same H H' → H' D = some (.lst ys) → All2 (fun v kc => PairV K v kc H') ys (freePlaces n cs) → Q (.ref D) H'
theorem scFree : FnScope ["ground", "columns", "rows", "k", "c"] ["ground", "columns"] (defScope sFreePlaces) := ⟨rfl, rfl, rfl, by decide +kernel, rfl, by decide +kernel, by decide +kernel⟩
theorem ok_free {f : Addr} {fd : FuncData} (F : Fun K "free_places" "free_places" sFreePlaces f fd) (T : Txt K mg C) (mN : MethOk P w K mg base C "n" 1 ["self"] (spN C)) : FnOk P w K mg base CX0 2 f fd ["ground", "columns"] (spFree K C) := by
  refine F.ok scFree (fun vs H Q E h => ?_) (fun cdv A outer s H vs Q E hr h => ?_)
  · obtain ⟨g, a, p, n, cs, rfl, _⟩ := h
    rfl
  · obtain ⟨g, a, p, n, cs, rfl, hg, hn, ha, hl, hc, q⟩ := h
    refine ⟨_, pss_cons (ps_set (i := 2) scFree.nd rfl (.inl rfl) (pe_callTy cr_range1 (by rfl) T.range boot_range (pa_cons (pe_callB call_len_seq (by rfl) T.len PySem.boot_len (pa_cons (pv 1) pa_nil)) pa_nil)))
      (pss_one (ps_ret (pe_lc2 (own := [("k", 3), ("c", 4)]) (vs1 := [4]) (g := gName 3) (g1 := gName 4) (tt := tYes) rfl scFree.nd (pi_rngV (pv 2)) (blkOk_by (N := ["ground", "columns", "rows", "k", "c"]) (sc := defScope sFreePlaces) (by decide +kernel)) (by decide)
        (fun _ _ _ _ _ => pg_name (i := 3) scFree.nd rfl (.inl rfl)) (fun _ _ _ _ _ => pts_nil)
        (fun _ _ _ _ _ => by exact (pi_range2 (by rfl) T.range (pa_cons (pe_op op_add (pe_ix (ixlK (K := K) rfl) (pv 1) (pv 3) (fun _ _ => rfl)) pe_int) (pa_cons (pmeth0 (pv 0) T.cl mN hr) pa_nil))))
        (fun _ _ _ _ _ => pg_name (i := 4) scFree.nd rfl (.inl rfl)) (fun _ _ _ _ _ => by exact (pts_one (pt_cmpR (notInK (K := K) rfl) (pv 4) (pv 1) (by rfl))))
        (fun _ _ _ _ _ => by exact (pe_tup (pa_cons (pv 3) (pa_cons (pv 4) pa_nil))))))), ?_⟩
    refine ⟨_, rfl, a, _, rfl, .inl ha, _, rfl, fun r nr => ?_⟩
    have e0 : Same H (upd H r (.rng 0 ((cs.map iv).length : Int))) := sNew nr
    refine ⟨_, rfl, r, 0, _, rfl, upd_same, ⟨by omega, by omega, by omega, ?_⟩, ?_⟩
    · rw [List.length_map]
      omega
    intro D hD
    have en : (((cs.map iv).length : Int) - 0).toNat = cs.length := by
      rw [List.length_map]
      omega
    rw [en]
    have nD : H D = none := e0.free hD
    refine ⟨fun i m H' => m = cs.length - i ∧ i ≤ cs.length ∧ Same H H' ∧ ∃ ys, H' D = some (.lst ys) ∧ ys.length ≤ 100 * i ∧ All2 (fun v kc => PairV K v kc H') ys ((List.range i).flatMap (pairsOf' n cs)), ⟨cs.length, rfl, Nat.zero_le _, e0.trans (sNew hD), [], upd_same, Nat.le_refl _, .nil⟩, ?_⟩
    rintro i m H1 ⟨rfl, hi, e1, ys, hys, hyl, hh⟩
    by_cases hlt : i < cs.length
    · refine .inr ⟨hlt, fun H' => Same H H' ∧ ∃ ys, H' D = some (.lst ys) ∧ ys.length ≤ 100 * (i + 1) ∧ All2 (fun v kc => PairV K v kc H') ys ((List.range (i + 1)).flatMap (pairsOf' n cs)), fun H' p' => ⟨cs.length - (i + 1), by omega, rfl, hlt, p'⟩, fun x H' y => ?_⟩
      obtain ⟨rfl, rfl⟩ := y
      have hci : cs[i]? = some cs[i] := List.getElem?_eq_getElem hlt
      have hcm := hc cs[i] (List.getElem_mem hlt)
      generalize cs[i] = ci at hci hcm
      have e0i : V.int (0 + (i : Int)) = iv i := by rw [Int.zero_add]
      have ha1 : SqL K H' a (cs.map iv) := e1.seq ha
      refine ⟨rfl, ?_⟩
      refine tYes_if ?_
      refine ⟨_, rfl, _, rfl, a, _, (i : Int), iv ci, rfl, e0i, ha1, atI_nat (iv_of hci), _, _, rfl, rfl, ?_⟩
      refine ⟨_, rfl, use_n (hg.same e1) ⟨_, _, rfl, ⟨by omega, by omega, by omega, by omega⟩, ?_⟩⟩
      have eN : ((n : Int) - ((ci : Int) + 1)).toNat = n - (ci + 1) := by omega
      show ∃ W1 : Nat → Nat → Hp → Prop, (∃ m, W1 0 m H') ∧ ∀ j k H, W1 j k H → ((Itr ((ci : Int) + 1) ((n : Int) - ((ci : Int) + 1)).toNat).stop j H ∧ _) ∨ _
      rw [eN]
      refine ⟨fun j k H2 => k = n - (ci + 1) - j ∧ j ≤ n - (ci + 1) ∧ Same H H2 ∧ ∃ ys, H2 D = some (.lst ys) ∧ ys.length ≤ 100 * i + j ∧ All2 (fun v kc => PairV K v kc H2) ys ((List.range i).flatMap (pairsOf' n cs) ++ freeTill cs i (ci + 1) j), ⟨n - (ci + 1), rfl, Nat.zero_le _, e1, ys, hys, hyl, by simpa [freeTill] using hh⟩, ?_⟩
      rintro j k H2 ⟨rfl, hj, e2, zs, hzs, hzl, hz⟩
      by_cases hjl : j < n - (ci + 1)
      · refine .inr ⟨hjl, fun H' => Same H H' ∧ ∃ ys, H' D = some (.lst ys) ∧ ys.length ≤ 100 * i + (j + 1) ∧ All2 (fun v kc => PairV K v kc H') ys ((List.range i).flatMap (pairsOf' n cs) ++ freeTill cs i (ci + 1) (j + 1)), fun H' p' => ⟨n - (ci + 1) - (j + 1), by omega, rfl, hjl, p'⟩, fun x H3 y => ?_⟩
        obtain ⟨rfl, rfl⟩ := y
        have ec : V.int ((ci : Int) + 1 + (j : Int)) = iv (ci + 1 + j) := rfl
        refine ⟨rfl, ?_⟩
        refine ⟨_, rfl, _, rfl, a, _, rfl, .inl (e2.seq ha), rfl, flat_nats cs, _, rfl, ?_⟩
        rw [freeTill_succ]
        show if (!inV (V.int ((ci : Int) + 1 + (j : Int))) (cs.map iv)) = true then _ else _
        rw [ec, inV_nats]
        refine ite2 (fun e => ?_) (fun e => ?_)
        · rw [if_pos e]
          refine ⟨_, rfl, _, rfl, fl (by show 2 ≤ 100000; decide), fun t nt => ?_⟩
          have nt2 : D ≠ t := ne_of_none hzs nt
          have hzt : (upd H3 t (.tup [V.int (0 + (i : Int)), V.int ((ci : Int) + 1 + (j : Int))])) D = some (.lst zs) := by
            rw [upd_ne nt2]
            exact hzs
          refine ⟨zs, hzt, flt (by omega), sMut (e2.trans (sNew nt)) nD, _, upd_same, by rw [List.length_append]; show zs.length + 1 ≤ _; omega, ?_⟩
          rw [← List.append_assoc]
          refine (hz.mono fun _ _ r => (r.same (sNew nt)).lst hzt).snoc (PairV.lst hzt ⟨t, rfl, ?_⟩)
          rw [e0i, ec]
          exact .inl (.inl upd_same)
        · rw [if_neg e, List.append_nil]
          exact ⟨e2, zs, hzs, by omega, hz⟩
      · obtain rfl : j = n - (ci + 1) := by omega
        refine .inl ⟨Nat.le_refl _, e2, zs, hzs, by omega, ?_⟩
        rw [flat_succ]
        have e3 : pairsOf' n cs i = freeTill cs i (ci + 1) (n - (ci + 1)) := by
          unfold pairsOf' freeOf freeTill
          rw [getD_of hci]
        rw [e3]
        exact hz
    · obtain rfl : i = cs.length := by omega
      exact .inl ⟨Nat.le_refl _, q D ys H1 nD e1 hys hh⟩
end
end Cn

set_option Elab.async false
set_option linter.all false
set_option maxRecDepth 100000
set_option maxHeartbeats 4000000
namespace Cn
open PySem PySem.Spec PyProof.Rows L2 XR
theorem pvFold_ok (p n rank number : Nat) : ∀ i, (pvFold p n rank i number).cs.length ≤ i ∧ ∀ c ∈ (pvFold p n rank i number).cs, c < i
  | 0 => ⟨Nat.le_refl _, fun c h => by cases h⟩
  | i + 1 => by
    obtain ⟨h1, h2⟩ := pvFold_ok p n rank number i
    rw [pvFold_succ]
    generalize pvFold p n rank i number = st at h1 h2
    by_cases h : st.l < pvMany p n rank st i
    · rw [pvStep_yes h]
      refine ⟨by rw [List.length_append]; show st.cs.length + 1 ≤ i + 1; omega, fun c hc => ?_⟩
      rcases List.mem_append.mp hc with hc | hc
      · have := h2 c hc
        omega
      · rw [List.mem_singleton.mp hc]
        omega
    · rw [pvStep_no h]
      exact ⟨by show st.cs.length ≤ i + 1; omega, fun c hc => by have := h2 c hc; omega⟩
theorem pivotsAt_ok (p n rank number : Nat) : (pivotsAt p n rank number).cs.length ≤ n ∧ ∀ c ∈ (pivotsAt p n rank number).cs, c < n := pvFold_ok p n rank number n
theorem free_mem {n : Nat} {cs : List Nat} {kc : Nat × Nat} (h : kc ∈ freePlaces n cs) : kc.1 < cs.length ∧ kc.2 < n := by
  unfold freePlaces at h
  obtain ⟨k, hk, h2⟩ := List.mem_flatMap.mp h
  obtain ⟨c, hc, rfl⟩ := List.mem_map.mp h2
  unfold freeOf at hc
  have h3 := (List.mem_filter.mp hc).1
  rw [List.mem_range'_1] at h3
  exact ⟨List.mem_range.mp hk, by show c < n; omega⟩
theorem unit_len (n k : Nat) : (unit n k).length = n := by simp [unit]
theorem foldl_at {α β : Type} {f : β → α → β} {l : List α} {i : Nat} {x : α} {b : β} (hx : l[i]? = some x) : (l.drop i).foldl f b = (l.drop (i + 1)).foldl f (f b x) := by
  rw [drop_at hx]
  rfl
/-- a list of lists of numbers, each its own object -/
structure GridAt (H : Hp) (R : Addr) (las : List Addr) (ms : List Row) : Prop where
  at_ : H R = some (.lst (las.map V.ref))
  nd : las.Nodup
  nR : R ∉ las
  len : las.length = ms.length
  row : ∀ (i : Nat) (a : Addr) (m : Row), las[i]? = some a → ms[i]? = some m → H a = some (.lst (m.map iv))
section
variable {P : Program} {w : World} {K : PySem.W.Frag} {mg : Str → Option Value} {base : Heap} {C : Addr}
/-! code_at -/
def spCodeAt (K : PySem.W.Frag) (C : Addr) : Sp := fun vs H Q _ => ∃ (g : V) (p n rank number : Nat), vs = [g, iv rank, iv number] ∧ GroundAt C g p n H ∧ NumOk p n ∧ number < gauss p n rank ∧ Ret (fun v => CodeV K v (codeAt p n rank number)) H Q
theorem scCodeAt : FnScope ["ground", "rank", "number", "columns", "left", "units", "column", "rows", "k", "row"] ["ground", "rank", "number"] (defScope sCodeAt) := ⟨rfl, rfl, rfl, by decide +kernel, rfl, by decide +kernel, by decide +kernel⟩
theorem ok_code_at {f : Addr} {fd : FuncData} (F : Fun K "code_at" "code_at" sCodeAt f fd) (T : Txt K mg C) (cC : CallOk P w K mg base "count_codes" 3 ["ground", "rank"] (spCountCodes C)) (cA : CallOk P w K mg base "pivots_at" 4 ["ground", "rank", "number"] (spPivotsAt K C)) (cF : CallOk P w K mg base "free_places" 2 ["ground", "columns"] (spFree K C))
    (mU : MethOk P w K mg base C "units" 1 ["self"] (spUnits K C)) (mP : MethOk P w K mg base C "p" 1 ["self"] (spP C)) : FnOk P w K mg base CX0 5 f fd ["ground", "rank", "number"] (spCodeAt K C) := by
  refine F.ok scCodeAt (fun vs H Q E h => ?_) (fun cdv A outer s H vs Q E hr h => ?_)
  · obtain ⟨g, p, n, rank, number, rfl, _⟩ := h
    rfl
  · obtain ⟨g, p, n, rank, number, rfl, hg, hN, hnum, q⟩ := h
    have hp13 := hN.pr.2.1
    have hp2 := hN.pr.1
    have hn4 := hN.n4
    refine ⟨_, pss_cons (ps_if (pt_cmpR op_ge (pv 2) (pcall cC (hr.mono (by decide)) (pa_cons (pv 0) (pa_cons (pv 1) pa_nil))) (nomark _)) (pss_one ps_never) pss_nil)
      (pss_cons (ps_asg (pcall cA hr (pa_cons (pv 0) (pa_cons (pv 1) (pa_cons (pv 2) pa_nil)))) (pg_tup rfl (pgs_cons (pg_name (i := 3) scCodeAt.nd rfl (.inl rfl)) (pgs_cons (pg_name (i := 4) scCodeAt.nd rfl (.inl rfl)) pgs_nil))))
      (pss_cons (ps_set (i := 5) scCodeAt.nd rfl (.inr rfl) (pmeth0 (pv 0) T.cl mU (hr.mono (by decide))))
      (pss_cons (ps_setLc (i := 7) (own := [("column", 6)]) (g := gName 6) (tt := tYes) rfl scCodeAt.nd rfl rfl (sw_true rfl rfl rfl (by decide +kernel)) (pi_list (pv 3)) (blkOk_by (N := ["ground", "rank", "number", "columns", "left", "units", "column", "rows", "k", "row"]) (sc := defScope sCodeAt) (by decide +kernel))
          (fun _ _ _ _ _ => pg_name (i := 6) scCodeAt.nd rfl (.inl rfl)) (fun _ _ _ _ _ => pts_nil)
          (fun _ _ _ _ _ => by exact (pe_callTy (lstOfK (K := K) rfl) (by rfl) T.list boot_list (pa_cons (pe_ix (ixtK (K := K) rfl) (pv 5) (pv 6) (fun _ _ => rfl)) pa_nil))))
      (pss_cons (ps_for PassesOwn.never rfl (pi_list (pe_revL (pcall cF (hr.mono (by decide)) (pa_cons (pv 0) (pa_cons (pv 3) pa_nil))))) (pg_tup rfl (pgs_cons (pg_name (i := 8) scCodeAt.nd rfl (.inl rfl)) (pgs_cons (pg_name (i := 6) scCodeAt.nd rfl (.inl rfl)) pgs_nil)))
        (pss_cons (ps_asg (pe_op op_mod (pv 4) (pmeth0 (pv 0) T.cl mP (hr.mono (by decide)))) (pg_sub (pe_ix ix_list (pv 7) (pv 8) (fun _ _ => rfl)) (pv 6) set_list))
        (pss_one (ps_aug (i := 4) scCodeAt.nd rfl (.inl rfl) (pmeth0 (pv 0) T.cl mP (hr.mono (by decide))) ip_fdiv))))
      (pss_one (ps_ret (pe_callTy call_tuple_of (by rfl) T.tuple boot_tuple (pa_cons
        (pe_lc (own := [("row", 9)]) (g := gName 9) (tt := tYes) rfl scCodeAt.nd (pi_list (pv 7)) (blkOk_by (N := ["ground", "rank", "number", "columns", "left", "units", "column", "rows", "k", "row"]) (sc := defScope sCodeAt) (by decide +kernel))
          (fun _ _ _ _ _ => pg_name (i := 9) scCodeAt.nd rfl (.inl rfl)) (fun _ _ _ _ _ => pts_nil)
          (fun _ _ _ _ _ => by exact (pe_callTy (tupOfK (K := K) rfl) (by rfl) T.tuple boot_tuple (pa_cons (pv 9) pa_nil)))) pa_nil)))))))), ?_⟩
    -- if number >= count_codes(ground, rank)
    refine ⟨_, rfl, _, rfl, _, rfl, g, p, n, rank, rfl, hg, hN, fun H1 e1 => ⟨_, _, rfl, rfl, _, rfl, ite2 (fun e => ?_) (fun _ => ?_)⟩⟩
    · have := of_decide_eq_true e
      omega
    -- columns, left = pivots_at(..)
    obtain ⟨hcl, hcm⟩ := pivotsAt_ok p n rank number
    refine ⟨_, rfl, _, rfl, _, rfl, g, p, n, rank, number, rfl, hg.same e1, hN, hcl, fun t a H2 e2 ht ha => ?_⟩
    refine ⟨t, _, rfl, ht, rfl, _, _, rfl, _, _, rfl, rfl, ?_⟩
    have eq1 : codeAt p n rank number = ((freePlaces n (pivotsAt p n rank number).cs).reverse.foldl (fillStep p) ((pivotsAt p n rank number).cs.map (unit n), (pivotsAt p n rank number).l)).1 := rfl
    rw [eq1] at q
    generalize pivotsAt p n rank number = st at hcl hcm ha q
    have e12 := e1.trans e2
    -- units = ground.units()
    obtain ⟨ga, dx, rfl, hga⟩ := id hg
    refine ⟨_, rfl, ga, dx, _, rfl, e12 _ _ hga, gf_no _ _ (by decide +kernel) (by decide +kernel), _, p, n, rfl, hg.same e12, by omega, fun vu H3 e3 hu => ?_⟩
    obtain ⟨ua, us, rfl, hua, hus⟩ := hu
    have e13 := e12.trans e3
    have ha3 := e3 _ _ ha
    -- rows = [list(units[column]) for column in columns]
    refine ⟨_, rfl, a, rfl, ⟨_, SqL.of ha3⟩, fun R nR => ?_⟩
    refine lc_it (walk_list (xs := st.cs.map iv)) (fun i H' => Same H3 H' ∧ ∃ las, GridAt H' R las ((st.cs.take i).map (unit n)) ∧ ∀ la ∈ las, H3 la = none)
      ⟨sNew nR, [], ⟨upd_same, List.nodup_nil, by simp, by simp, fun i _ _ h => by simp at h⟩, by simp⟩ (fun i H' _ p' => p'.1.seq (SqL.of ha3)) ?_ ?_
    · rintro i x H4 H5 hi ⟨e4, las, hG, hfr⟩ ⟨rfl, hx⟩
      obtain ⟨c, ec, rfl⟩ := iv_at hx
      refine ⟨rfl, tYes_if ?_⟩
      have hcn := hcm c (List.mem_of_getElem? ec)
      have hrange : ((List.range n).map (unit n))[c]? = some (unit n c) := by
        rw [List.getElem?_map, List.getElem?_range hcn]
        rfl
      obtain ⟨uv, euv, hrow⟩ := hus.at' hrange
      obtain ⟨ra, rfl, hra⟩ := hrow
      refine ⟨_, rfl, _, rfl, ua, us, (c : Int), _, rfl, rfl, sTup e4 hua, atI_nat euv, ra, _, rfl, .inr (sTup e4 hra), fun l nl => ?_⟩
      have nlR : R ≠ l := ne_of_none hG.at_ nl
      have hR' : (upd H5 l (.lst ((unit n c).map iv))) R = some (.lst (las.map V.ref)) := by
        rw [upd_ne nlR]
        exact hG.at_
      have hnl : l ∉ las := fun hm => by
        obtain ⟨j, hj⟩ := List.getElem?_of_mem hm
        have hj2 : j < ((st.cs.take i).map (unit n)).length := by
          rw [← hG.len]
          exact (List.getElem?_eq_some_iff.mp hj).1
        have := hG.row j l _ hj (List.getElem?_eq_getElem hj2)
        rw [nl] at this
        cases this
      have hll := hG.len
      refine ⟨las.map V.ref, hR', flt (by rw [List.length_map, hll, List.length_map, List.length_take]; omega), ?_, las ++ [l], ⟨?_, ?_, ?_, ?_, ?_⟩, ?_⟩
      · exact sMut (e4.trans (sNew nl)) nR
      · rw [upd_same, List.map_append]
        rfl
      · exact List.nodup_append.mpr ⟨hG.nd, by simp, fun x hx y hy z => hnl (by rw [List.mem_singleton.mp hy] at z; rw [← z]; exact hx)⟩
      · simp [hG.nR, nlR]
      · rw [List.length_append, hll, List.take_add_one, ec]
        simp
      · intro j b m hj hm
        rw [List.take_add_one, ec, List.map_append] at hm
        have hbR : b ≠ R := fun z => by
          subst z
          rcases List.mem_append.mp (List.mem_of_getElem? hj) with z | z
          · exact hG.nR z
          · exact nlR (List.mem_singleton.mp z)
        rw [upd_ne hbR]
        by_cases hjl : j < las.length
        · rw [List.getElem?_append_left hjl] at hj
          rw [List.getElem?_append_left (by rw [← hll]; exact hjl)] at hm
          have hbl : b ≠ l := fun z => hnl (by rw [← z]; exact List.mem_of_getElem? hj)
          rw [upd_ne hbl]
          exact hG.row j b m hj hm
        · rw [List.getElem?_append_right (by omega)] at hj
          rw [List.getElem?_append_right (by omega), ← hll] at hm
          have hj0 : j - las.length = 0 := by
            have := (List.getElem?_eq_some_iff.mp hj).1
            simp at this
            omega
          rw [hj0] at hj hm
          cases hj
          cases hm
          exact upd_same
      · intro la hla
        rcases List.mem_append.mp hla with z | z
        · exact hfr la z
        · rw [List.mem_singleton.mp z]
          exact e4.free nl
    · rintro H4 ⟨e4, las, hG, hfr⟩
      rw [List.length_map, List.take_length] at hG
      have e14 := e13.trans e4
      have ha4 := e4 _ _ ha3
      -- for k, column in free_places(ground, columns)[::-1]
      refine ⟨_, rfl, _, rfl, _, a, p, n, st.cs, rfl, hg.same e14, by omega, SqL.of ha4, by omega, fun c hc => by have := hcm c hc; omega, fun D ys H5 nD e5 hD hpr => ?_⟩
      refine ⟨D, ys, rfl, SqL.of hD, fun D2 nD2 => ?_⟩
      have e6 : Same H4 (upd H5 D2 (.lst ys.reverse)) := e5.trans (sNew nD2)
      refine ⟨D2, rfl, ⟨_, SqL.of upd_same⟩, ?_⟩
      have hfps := (hpr.mono fun _ _ r => r.same (sNew (o := .lst ys.reverse) nD2)).rev
      have hmem : ∀ kc ∈ (freePlaces n st.cs).reverse, kc.1 < st.cs.length ∧ kc.2 < n := fun kc h => free_mem (List.mem_reverse.mp h)
      have hG6 : GridAt (upd H5 D2 (.lst ys.reverse)) R las (st.cs.map (unit n)) := ⟨e6 _ _ hG.at_, hG.nd, hG.nR, hG.len, fun i b m h1 h2 => e6 _ _ (hG.row i b m h1 h2)⟩
      have hD2 : (upd H5 D2 (.lst ys.reverse)) D2 = some (.lst ys.reverse) := upd_same
      have hD2n : D2 ∉ las := fun hm => by
        obtain ⟨j, hj⟩ := List.getElem?_of_mem hm
        have hj2 : j < (st.cs.map (unit n)).length := by
          rw [← hG.len]
          exact (List.getElem?_eq_some_iff.mp hj).1
        have := e5 _ _ (hG.row j D2 _ hj (List.getElem?_eq_getElem hj2))
        rw [nD2] at this
        cases this
      have hfr6 : ∀ la ∈ las, H la = none := fun la hla => e13.free (hfr la hla)
      have e16 := e14.trans e6
      have hlst6 : ∀ la ∈ las, ∃ zs, (upd H5 D2 (.lst ys.reverse)) la = some (.lst zs) := fun la hla => by
        obtain ⟨j, hj⟩ := List.getElem?_of_mem hla
        have hj2 : j < (st.cs.map (unit n)).length := by
          rw [← hG.len]
          exact (List.getElem?_eq_some_iff.mp hj).1
        exact ⟨_, hG6.row j la _ hj (List.getElem?_eq_getElem hj2)⟩
      generalize hH6 : upd H5 D2 (.lst ys.reverse) = H6 at hfps hG6 hD2 e16 hlst6
      have hms0 : ∀ m ∈ st.cs.map (unit n), m.length = n := fun m hm => by
        obtain ⟨c, _, rfl⟩ := List.mem_map.mp hm
        exact unit_len n c
      refine for_it (walk_list (xs := ys.reverse)) (fun i σ H' => (∀ b o, b ∉ las → H6 b = some o → H' b = some o) ∧ ∃ (s2 : List Row × Nat) (y6 y8 : Option V), σ = [some (.ref ga), some (iv rank), some (iv number), some (.ref a), some (iv s2.2), some (.ref ua), y6, some (.ref R), y8, none] ∧
          GridAt H' R las s2.1 ∧ (∀ m ∈ s2.1, m.length = n) ∧ ((freePlaces n st.cs).reverse.drop i).foldl (fillStep p) s2 = ((freePlaces n st.cs).reverse).foldl (fillStep p) (st.cs.map (unit n), st.l))
        ⟨fun _ _ _ h => h, (st.cs.map (unit n), st.l), none, none, rfl, hG6, hms0, rfl⟩ (fun i σ H' _ p' => SqL.of (p'.1 _ _ hD2n hD2)) ?_ ?_
      · rintro i x σ H7 H8 hi ⟨e7, ⟨ms, l⟩, y6, y8, rfl, hG7, hms, hfold⟩ ⟨rfl, hx⟩
        obtain ⟨⟨k, c⟩, ekc, tp, rfl, htp⟩ := hfps.at hx
        obtain ⟨hk, hc⟩ := hmem _ (List.mem_of_getElem? ekc)
        have htp7 : SqT K H8 tp [iv k, iv c] := by
          have nt : ∀ {o : HO}, H6 tp = some o → (∀ z, o ≠ .lst z) → tp ∉ las := fun {o} h1 h2 hm => by
            obtain ⟨zs, hz⟩ := hlst6 tp hm
            rw [hz] at h1
            exact h2 _ (Option.some.inj h1).symm
          rcases htp with (h | ⟨o, h⟩) | h
          · exact .inl (.inl (e7 _ _ (nt h (by intro z q; cases q)) h))
          · exact .inl (.inr ⟨o, e7 _ _ (nt h (by intro z q; cases q)) h⟩)
          · exact .inr h
        have hg7 : GroundAt C (.ref ga) p n H8 := by
          obtain ⟨_, dx', e, h⟩ := hg.same e16
          cases e
          exact ⟨ga, dx', rfl, e7 _ _ (fun hm => by obtain ⟨zs, hz⟩ := hlst6 ga hm; rw [hz] at h; cases h) h⟩
        refine ⟨tp, _, rfl, htp7, rfl, _, _, rfl, _, _, rfl, rfl, ?_⟩
        have hkl : k < ms.length := by
          rw [← hG7.len, hG.len, List.length_map]
          exact hk
        have hkla : k < las.length := by
          rw [hG7.len]
          exact hkl
        have em : ms[k]? = some ms[k] := List.getElem?_eq_getElem hkl
        have hml := hms ms[k] (List.getElem_mem hkl)
        have ela : las[k]? = some las[k] := List.getElem?_eq_getElem hkla
        generalize ms[k] = m at em hml
        generalize las[k] = la at ela
        have hla := hG7.row k la m ela em
        -- rows[k][column] = left % ground.p()
        refine ⟨_, rfl, _, rfl, use_p hg7 ⟨_, _, rfl, rfl, by omega, ?_⟩⟩
        refine ⟨_, rfl, _, rfl, R, _, (k : Int), .ref la, rfl, rfl, SqL.of hG7.at_, atI_nat (by rw [List.getElem?_map, ela]; rfl), ?_⟩
        have ei : ixN (m.map iv).length ((c : Nat) : Int) = some c := by
          unfold ixN
          rw [if_pos (by omega), if_pos (by rw [List.length_map, hml]; omega)]
          rfl
        refine ⟨_, rfl, la, _, (c : Int), c, rfl, rfl, hla, ei, ?_⟩
        have hlm : la ∈ las := List.mem_of_getElem? ela
        have hgaN : ga ≠ la := fun z => by
          obtain ⟨_, dx', e, h⟩ := hg7
          cases e
          rw [z, hla] at h
          cases h
        have hg8 : GroundAt C (.ref ga) p n (upd H8 la (.lst ((m.map iv).set c (V.int ((l : Int) % (p : Int)))))) := by
          obtain ⟨_, dx', e, h⟩ := hg7
          cases e
          exact ⟨ga, dx', rfl, by rw [upd_ne hgaN]; exact h⟩
        -- left //= ground.p()
        refine ⟨_, rfl, _, rfl, use_p hg8 ?_⟩
        refine ⟨_, _, rfl, rfl, ⟨by omega, by omega⟩, ?_⟩
        have eml : V.int ((l : Int) % (p : Int)) = iv (l % p) := congrArg V.int (Int.natCast_emod l p).symm
        have edl : V.int ((l : Int) / (p : Int)) = iv (l / p) := congrArg V.int (Int.natCast_ediv l p).symm
        refine ⟨fun b o hb h => ?_, (ms.set k (m.set c (l % p)), l / p), some (iv c), some (iv k), ?_, ⟨?_, hG7.nd, hG7.nR, ?_, ?_⟩, ?_, ?_⟩
        · rw [upd_ne (fun z => hb (by rw [z]; exact hlm))]
          exact e7 b o hb h
        · show [some (V.ref ga), some (iv rank), some (iv number), some (V.ref a), some (V.int ((l : Int) / (p : Int))), some (V.ref ua), some (iv c), some (V.ref R), some (iv k), none] = _
          rw [edl]
        · rw [upd_ne (fun z => hG7.nR (by rw [z]; exact hlm))]
          exact hG7.at_
        · rw [List.length_set]
          exact hG7.len
        · intro j b m' hj hm'
          by_cases hjk : j = k
          · subst hjk
            rw [hj] at ela
            cases ela
            rw [List.getElem?_set_self hkl] at hm'
            cases hm'
            refine upd_same.trans ?_
            show some (HO.lst ((m.map iv).set c (V.int ((l : Int) % (p : Int))))) = _
            rw [eml, List.map_set]
          · rw [List.getElem?_set_ne (fun z => hjk z.symm)] at hm'
            have hbl : b ≠ la := fun z => hjk (nd_ix hG7.nd hj (by rw [z]; exact ela))
            rw [upd_ne hbl]
            exact hG7.row j b m' hj hm'
        · intro m' hm'
          rcases List.mem_or_eq_of_mem_set hm' with z | z
          · exact hms m' z
          · rw [z, List.length_set]
            exact hml
        · rw [foldl_at ekc] at hfold
          rw [← hfold]
          show _ = ((freePlaces n st.cs).reverse.drop (i + 1)).foldl (fillStep p) (ms.set k ((ms.getD k []).set c (l % p)), l / p)
          rw [getD_of em]
      · rintro σ H7 ⟨e7, ⟨ms, l⟩, y6, y8, rfl, hG7, hms, hfold⟩
        rw [hfps.1, List.drop_length] at hfold
        have e8 : (ms, l) = ((freePlaces n st.cs).reverse).foldl (fillStep p) (st.cs.map (unit n), st.l) := hfold
        rw [← e8] at q
        have e17 : Same H H7 := fun b o h => e7 b o (fun hm => by rw [hfr6 b hm] at h; cases h) (e16 b o h)
        have hll : las.length = ms.length := hG7.len
        have hl2 := hG.len
        rw [List.length_map] at hl2
        -- return tuple([tuple(row) for row in rows])
        refine ⟨_, rfl, R, rfl, ⟨_, SqL.of hG7.at_⟩, ?_⟩
        refine lcP (walk_list (xs := las.map V.ref)) (by rw [List.length_map]; omega) (fun H9 e9 => SqL.of (e9 _ _ hG7.at_)) (fun _ => true) (fun i => ms.getD i []) (RowV K) rowStays (fun i x H9 H10 P' hi s9 hy k => ?_) (fun D' zs H9 hD' e9 hDl hh => ?_)
        · obtain ⟨rfl, hx⟩ := hy
          rw [List.getElem?_map] at hx
          rw [List.length_map] at hi
          have ela : las[i]? = some las[i] := List.getElem?_eq_getElem hi
          generalize las[i] = la at ela
          rw [ela] at hx
          cases hx
          have hi2 : i < ms.length := by omega
          have em : ms[i]? = some ms[i] := List.getElem?_eq_getElem hi2
          generalize ms[i] = m at em
          refine k _ _ rfl (Same.refl _) yes_ev fun _ H11 s11 Q' q' => ?_
          refine ⟨_, rfl, la, _, rfl, .inl ⟨SqL.of ((s9.trans s11) _ _ (hG7.row i la m ela em)), fun l2 nl2 => q' _ _ (sNew nl2) ?_⟩⟩
          rw [getD_of em]
          exact ⟨l2, rfl, .inl (.inl upd_same)⟩
        · rw [outOf_all, List.length_map, hll, range_getD] at hh
          refine ⟨D', zs, rfl, .inl ⟨SqL.of hDl, fun l2 nl2 => q _ _ ((e17.trans e9).trans (sNew nl2)) ⟨l2, zs, rfl, .inl (.inl upd_same), hh.mono fun _ _ r => r.same (sNew nl2)⟩⟩⟩
/-! all_codes -/
def spAllCodes (K : PySem.W.Frag) (C : Addr) : Sp := fun vs H Q _ => ∃ (g : V) (p n rank : Nat), vs = [g, iv rank] ∧ GroundAt C g p n H ∧ NumOk p n ∧ ∀ D ys H', H D = none → Same H H' → H' D = some (.lst ys) → All2 (fun v c => CodeV K v c H') ys (allCodes p n rank) → Q (.ref D) H'
theorem scAllCodes : FnScope ["ground", "rank", "number"] ["ground", "rank"] (defScope sAllCodes) := ⟨rfl, rfl, rfl, by decide +kernel, rfl, by decide +kernel, by decide +kernel⟩
theorem ok_all_codes {f : Addr} {fd : FuncData} (F : Fun K "all_codes" "all_codes" sAllCodes f fd) (T : Txt K mg C) (cC : CallOk P w K mg base "count_codes" 3 ["ground", "rank"] (spCountCodes C)) (cA : CallOk P w K mg base "code_at" 5 ["ground", "rank", "number"] (spCodeAt K C)) : FnOk P w K mg base CX0 6 f fd ["ground", "rank"] (spAllCodes K C) := by
  refine F.ok scAllCodes (fun vs H Q E h => ?_) (fun cdv A outer s H vs Q E hr h => ?_)
  · obtain ⟨g, p, n, rank, rfl, _⟩ := h
    rfl
  · obtain ⟨g, p, n, rank, rfl, hg, hN, q⟩ := h
    have hgs := gauss_small (r := rank) hN
    refine ⟨_, pss_one (ps_ret (pe_lc (own := [("number", 2)]) (g := gName 2) (tt := tYes) rfl scAllCodes.nd (pi_range1 (by rfl) T.range (pa_cons (pcall cC (hr.mono (by decide)) (pa_cons (pv 0) (pa_cons (pv 1) pa_nil))) pa_nil)) (blkOk_by (N := ["ground", "rank", "number"]) (sc := defScope sAllCodes) (by decide +kernel))
        (fun _ _ _ _ _ => pg_name (i := 2) scAllCodes.nd rfl (.inl rfl)) (fun _ _ _ _ _ => pts_nil) (fun _ _ _ _ _ => by exact (pcall cA hr (pa_cons (pv 0) (pa_cons (pv 1) (pa_cons (pv 2) pa_nil))))))), ?_⟩
    refine ⟨_, rfl, _, rfl, g, p, n, rank, rfl, hg, hN, fun H1 e1 => ⟨_, rfl, by omega, by omega, ?_⟩⟩
    refine lcP (walk_range (lo := 0) (n := gauss p n rank)) (by omega) (fun _ _ => trivial) (fun _ => true) (codeAt p n rank) (CodeV K) codeStays (fun i x H2 H3 P' hi s2 hy k => ?_) (fun D ys H' hD e hDl ha => ?_)
    · obtain ⟨rfl, rfl⟩ := hy
      refine k _ _ rfl (Same.refl _) yes_ev fun _ H4 s4 Q' q' => ?_
      refine ⟨_, rfl, _, rfl, _, rfl, g, p, n, rank, i, ?_, hg.same ((e1.trans s2).trans s4), hN, hi, q'⟩
      show [g, iv rank, V.int (0 + (i : Int))] = _
      rw [Int.zero_add]
    · rw [outOf_all] at ha
      exact q D ys H' (e1.free hD) (e1.trans e) hDl ha
end
end Cn

set_option Elab.async false
set_option linter.all false
set_option maxRecDepth 100000
set_option maxHeartbeats 4000000
namespace Cn
open PySem PySem.Spec PyProof.Rows L2 XR
abbrev sCommon : Stmt := topS 35
abbrev sJoined : Stmt := topS 36
abbrev sComplement : Stmt := topS 37
abbrev sCodesOfRank : Stmt := topS 38
abbrev sBetween : Stmt := topS 39
abbrev sAllBetween : Stmt := topS 40
theorem cutDrop (xs : List V) (n : Nat) : cutV xs (some (n : Int)) none = xs.drop n := by
  unfold cutV
  rw [HT.sIx_nat, HT.sIx_none]
  by_cases h : n ≤ xs.length
  · rw [Nat.min_eq_left h, List.take_of_length_le]
    rw [List.length_drop]
    omega
  · rw [Nat.min_eq_right (by omega), Nat.sub_self, List.take_zero, List.drop_eq_nil_of_le (by omega)]
theorem cutNone (xs : List V) (n : Nat) (h : HT.sIx xs.length 0 (some (n : Int)) = 0) : xs.drop n = xs := by
  rw [HT.sIx_nat] at h
  by_cases h0 : n = 0
  · rw [h0, List.drop_zero]
  · have : xs.length = 0 := by omega
    rw [List.eq_nil_of_length_eq_zero this, List.drop_nil]
theorem outOf_filter {α β : Type} (l : List α) (d : α) (kp : α → Bool) (f : α → β) {n : Nat} (hn : n = l.length) : outOf n (fun i => kp (l.getD i d)) (fun i => f (l.getD i d)) = (l.filter kp).map f := by
  subst hn
  unfold outOf
  have h := congrArg (fun z => (z.filter kp).map f) (range_getD l d)
  simp only [List.filter_map, List.map_map] at h
  exact h
section
variable {P : Program} {w : World} {K : PySem.W.Frag} {mg : Str → Option Value} {base : Heap} {C : Addr}
/-! common -/
def spCommon (K : PySem.W.Frag) (C : Addr) : Sp := fun vs H Q _ => ∃ (g v1 v2 : V) (p n : Nat) (one other res : List (List Nat)), vs = [g, v1, v2] ∧ GroundAt C g p n H ∧ PrimeOk p ∧ n ≤ 100 ∧ CodeV K v1 one H ∧ one.length ≤ 100 ∧ (∀ r ∈ one, r.length ≤ 100) ∧ CodeV K v2 other H ∧ other.length ≤ 100 ∧ (∀ r ∈ other, r.length ≤ 100) ∧ common p n one other = some res ∧ Ret (fun v => CodeV K v res) H Q
theorem scCommon : FnScope ["ground", "one", "other", "wide", "zero", "rows", "late", "row"] ["ground", "one", "other"] (defScope sCommon) := ⟨rfl, rfl, rfl, by decide +kernel, rfl, by decide +kernel, by decide +kernel⟩
/-- what a reduced code's rows are bounded by -/
theorem step_len {p L : Nat} {st res : List Row} {row : Row} (h : step p st row = some res) (h1 : ∀ r ∈ st, r.length ≤ L) (h2 : row.length ≤ L) : (∀ r ∈ res, r.length ≤ L) ∧ res.length ≤ st.length + 1 := by
  obtain ⟨left, hl, hcase⟩ := step_spec h
  have hll := without_len hl
  rcases hcase with ⟨_, rfl⟩ | ⟨c, e, i, f, d, _, _, _, _, hmap, _, rfl⟩
  · exact ⟨h1, Nat.le_succ _⟩
  · have hml := mapO_len hmap
    refine ⟨fun r hr => ?_, by rw [List.length_append, hml]; exact Nat.le_refl _⟩
    rcases List.mem_append.mp hr with hr | hr
    · obtain ⟨j, hj⟩ := List.getElem?_of_mem hr
      have hj2 : j < st.length := by
        have := (List.getElem?_eq_some_iff.mp hj).1
        omega
      obtain ⟨y, hy, ey⟩ := mapO_at hmap j _ (List.getElem?_eq_getElem hj2)
      rw [ey] at hj
      cases hj
      obtain ⟨_, _, _, _, _, rfl⟩ := off_spec hy
      exact Nat.le_trans (subd_len _ _ _) (h1 _ (List.getElem_mem hj2))
    · rw [List.mem_singleton.mp hr, scaled_len]
      omega
theorem foldStep_len {p L : Nat} : ∀ {rows st res : List Row}, foldO (step p) st rows = some res → (∀ r ∈ st, r.length ≤ L) → (∀ r ∈ rows, r.length ≤ L) → (∀ r ∈ res, r.length ≤ L) ∧ res.length ≤ st.length + rows.length
  | [], st, res, h, h1, _ => by
    cases h
    exact ⟨h1, Nat.le_refl _⟩
  | row :: rows, st, res, h, h1, h2 => by
    obtain ⟨c, hc, hf⟩ := foldO_at (l := row :: rows) (i := 0) (x := row) rfl h
    obtain ⟨a1, a2⟩ := step_len hc h1 (h2 row List.mem_cons_self)
    obtain ⟨b1, b2⟩ := foldStep_len hf a1 (fun r hr => h2 r (List.mem_cons_of_mem _ hr))
    refine ⟨b1, ?_⟩
    rw [List.length_cons]
    simp only [List.drop_succ_cons, List.drop_zero] at b2
    omega
theorem reduced_len {p L : Nat} {rows res : List Row} (h : reduced p rows = some res) (h2 : ∀ r ∈ rows, r.length ≤ L) : (∀ r ∈ res, r.length ≤ L) ∧ res.length ≤ rows.length := by
  unfold reduced at h
  cases e : foldO (step p) [] rows with
  | none =>
    rw [e] at h
    cases h
  | some f =>
    rw [e] at h
    cases h
    obtain ⟨b1, b2⟩ := foldStep_len e (by simp) h2
    refine ⟨fun r hr => b1 r ((sortDown_perm f).mem_iff.mp hr), ?_⟩
    rw [(sortDown_perm f).length_eq]
    simpa using b2
theorem ok_common {f : Addr} {fd : FuncData} (F : Fun K "common" "common" sCommon f fd) (T : Txt K mg C) (mk : MakeOk P w K mg base C "Ground" 3 ["self", "p", "n"] (spInit C)) (cR : CallOk P w K mg base "reduced" 4 ["ground", "rows"] (spReduced K C)) (cC : CallOk P w K mg base "code_of" 5 ["ground", "rows"] (spReduced K C)) (cP : CallOk P w K mg base "pivot" 1 ["row"] (spPivot K))
    (mP : MethOk P w K mg base C "p" 1 ["self"] (spP C)) (mN : MethOk P w K mg base C "n" 1 ["self"] (spN C)) (mZ : MethOk P w K mg base C "zero" 1 ["self"] (spZero K C)) : FnOk P w K mg base CX0 6 f fd ["ground", "one", "other"] (spCommon K C) := by
  refine F.ok scCommon (fun vs H Q E h => ?_) (fun cdv A outer s H vs Q E hr h => ?_)
  · obtain ⟨g, v1, v2, p, n, one, other, res, rfl, _⟩ := h
    rfl
  · obtain ⟨g, _, _, p, n, one, other, res, rfl, hg, hp, hn, ⟨a1, vs1, rfl, h1, hv1⟩, hl1, hr1, ⟨a2, vs2, rfl, h2, hv2⟩, hl2, hr2, hres, q⟩ := h
    obtain ⟨red, hred, pvs, hpvs, hfin⟩ : ∃ red, reduced p (one.map (fun r => r ++ r) ++ other.map (fun r => r ++ zero n)) = some red ∧ ∃ pvs, mapO pivot red = some pvs ∧ reduced p ((red.filter fun r => decide (n ≤ (pivot r).getD 0)).map (List.drop n)) = some res := by
      unfold common at hres
      cases e : reduced p (one.map (fun r => r ++ r) ++ other.map (fun r => r ++ zero n)) with
      | none =>
        rw [e] at hres
        cases hres
      | some red =>
        rw [e] at hres
        simp only [Option.bind_some] at hres
        cases e2 : mapO pivot red with
        | none =>
          rw [e2] at hres
          cases hres
        | some pvs =>
          rw [e2] at hres
          exact ⟨red, rfl, pvs, e2, hres⟩
    have hwl : ∀ r ∈ one.map (fun r => r ++ r) ++ other.map (fun r => r ++ zero n), r.length ≤ 200 := fun r hr' => by
      rcases List.mem_append.mp hr' with z | z
      · obtain ⟨r0, hr0, rfl⟩ := List.mem_map.mp z
        have := hr1 r0 hr0
        rw [List.length_append]
        omega
      · obtain ⟨r0, hr0, rfl⟩ := List.mem_map.mp z
        have := hr2 r0 hr0
        rw [List.length_append]
        simp only [zero, List.length_replicate]
        omega
    obtain ⟨hredl, hredn⟩ := reduced_len hred hwl
    have hredn2 : red.length ≤ 200 := by
      rw [List.length_append, List.length_map, List.length_map] at hredn
      omega
    refine ⟨_, pss_cons (ps_asg (pe_tup (pa_cons (pmake mk (hr.mono (by decide)) (pa_cons (pmeth0 (pv 0) T.cl mP (hr.mono (by decide))) (pa_cons (pe_op op_mul pe_int (pmeth0 (pv 0) T.cl mN (hr.mono (by decide)))) pa_nil))) (pa_cons (pmeth0 (pv 0) T.cl mZ (hr.mono (by decide))) pa_nil)))
        (pg_tup rfl (pgs_cons (pg_name (i := 3) scCommon.nd rfl (.inl rfl)) (pgs_cons (pg_name (i := 4) scCommon.nd rfl (.inr rfl)) pgs_nil))))
      (pss_cons (ps_set (i := 5) scCommon.nd rfl (.inl rfl) (pe_op op_cat
        (pe_lc (own := [("row", 7)]) (g := gName 7) (tt := tYes) rfl scCommon.nd (pi_tup (pv 1)) (blkOk_by (N := ["ground", "one", "other", "wide", "zero", "rows", "late", "row"]) (sc := defScope sCommon) (by decide +kernel))
          (fun _ _ _ _ _ => pg_name (i := 7) scCommon.nd rfl (.inl rfl)) (fun _ _ _ _ _ => pts_nil) (fun _ _ _ _ _ => by exact (pe_tup (starK (K := K) rfl (pv 7) (starK (K := K) rfl (pv 7) pa_nil)))))
        (pe_lc (own := [("row", 7)]) (g := gName 7) (tt := tYes) rfl scCommon.nd (pi_tup (pv 2)) (blkOk_by (N := ["ground", "one", "other", "wide", "zero", "rows", "late", "row"]) (sc := defScope sCommon) (by decide +kernel))
          (fun _ _ _ _ _ => pg_name (i := 7) scCommon.nd rfl (.inl rfl)) (fun _ _ _ _ _ => pts_nil) (fun _ _ _ _ _ => by exact (pe_tup (starK (K := K) rfl (pv 7) (starK (K := K) rfl (pv 4) pa_nil)))))))
      (pss_cons (ps_setLc (i := 6) (own := [("row", 7)]) (g := gName 7) rfl scCommon.nd rfl rfl (sw_true rfl rfl rfl (by decide +kernel)) (pi_tup (pcall cR (hr.mono (by decide)) (pa_cons (pv 3) (pa_cons (pv 5) pa_nil)))) (blkOk_by (N := ["ground", "one", "other", "wide", "zero", "rows", "late", "row"]) (sc := defScope sCommon) (by decide +kernel))
          (fun _ _ _ _ _ => pg_name (i := 7) scCommon.nd rfl (.inl rfl)) (fun _ _ _ _ _ => by exact (pts_one (pt_cmpR op_ge (pcall cP (hr.mono (by decide)) (pa_cons (pv 7) pa_nil)) (pmeth0 (pv 0) T.cl mN (hr.mono (by decide))) (nomark _)))) (fun _ _ _ _ _ => by exact (pv 7)))
      (pss_one (ps_ret (pcall cC hr (pa_cons (pv 0) (pa_cons
        (pe_lc (own := [("row", 7)]) (g := gName 7) (tt := tYes) rfl scCommon.nd (pi_list (pv 6)) (blkOk_by (N := ["ground", "one", "other", "wide", "zero", "rows", "late", "row"]) (sc := defScope sCommon) (by decide +kernel))
          (fun _ _ _ _ _ => pg_name (i := 7) scCommon.nd rfl (.inl rfl)) (fun _ _ _ _ _ => pts_nil) (fun _ _ _ _ _ => by exact (pe_slice (slAK (K := K) rfl) (pv 7) (po_some (pmeth0 (pv 0) T.cl mN (hr.mono (by decide)))) po_none))) pa_nil))))))), ?_⟩
    -- wide, zero = Ground(..), ground.zero()
    refine ⟨_, rfl, use_p hg ⟨_, rfl, use_n hg ⟨_, _, rfl, rfl, .inl ⟨by omega, by omega⟩, ?_⟩⟩⟩
    intro x dx nx ndx nex
    refine ⟨x, dx, p, 2 * n, ?_, hp, upd_same, fun H1 k1 w1 => ⟨rfl, ?_⟩⟩
    · have e2 : V.int (2 * (n : Int)) = iv (2 * n) := by
        show V.int _ = V.int ((2 * n : Nat) : Int)
        rw [Int.natCast_mul]
        rfl
      show [V.ref x, iv p, V.int (2 * (n : Int))] = _
      rw [e2]
    have e1 : Same H H1 := Same.made nx ndx k1
    obtain ⟨ga, gdx, rfl, hga⟩ := id hg
    refine ⟨_, rfl, ga, gdx, _, rfl, e1 _ _ hga, gf_no _ _ (by decide +kernel) (by decide +kernel), _, p, n, rfl, hg.same e1, hn, fun vz H2 e2 hz => ?_⟩
    refine ⟨fl (by show 2 ≤ 100000; decide), fun t nt => ⟨t, _, rfl, .inl (.inl upd_same), rfl, _, _, rfl, _, _, rfl, rfl, ?_⟩⟩
    have e3 : Same H2 (upd H2 t (.tup [V.ref x, vz])) := sNew nt
    have e13 := (e1.trans e2).trans e3
    have hwide : GroundAt C (.ref x) p (2 * n) (upd H2 t (.tup [V.ref x, vz])) := ⟨x, dx, rfl, e3 _ _ (e2 _ _ w1)⟩
    have hz3 := hz.same e3
    obtain ⟨za, rfl, hza⟩ := id hz3
    generalize upd H2 t (.tup [V.ref x, V.ref za]) = H3 at e3 e13 hwide hz3 hza
    -- rows = [..] + [..]
    refine ⟨_, rfl, a1, rfl, ⟨_, sTup e13 h1⟩, ?_⟩
    have hvl1 := hv1.1
    have hvl2 := hv2.1
    refine lcP (walk_tup (xs := vs1)) (by omega) (fun H4 e4 => sTup (e13.trans e4) h1) (fun _ => true) (fun i => one.getD i [] ++ one.getD i []) (RowV K) rowStays (fun i y H4 H5 P' hi s4 hy k => ?_) (fun D1 ys1 H4 nD1 e4 hD1 hh1 => ?_)
    · obtain ⟨rfl, hy⟩ := hy
      obtain ⟨r, er, hrow⟩ := hv1.at hy
      refine k _ _ rfl (Same.refl _) yes_ev fun _ H6 s6 Q' q' => ?_
      obtain ⟨ra, rfl, hra⟩ := hrow.same ((e13.trans s4).trans s6)
      have hrl := hr1 r (List.mem_of_getElem? er)
      refine ⟨_, rfl, ra, _, rfl, .inl hra, _, rfl, ra, _, rfl, .inl hra, ?_, fun t nt => q' _ _ (sNew nt) ⟨t, rfl, ?_⟩⟩
      · exact fl (by simp; omega)
      · rw [getD_of er, List.append_nil, ← List.map_append]
        exact .inl (.inl upd_same)
    have e14 := e13.trans e4
    refine ⟨_, rfl, a2, rfl, ⟨_, sTup e14 h2⟩, ?_⟩
    refine lcP (walk_tup (xs := vs2)) (by omega) (fun H5 e5 => sTup (e14.trans e5) h2) (fun _ => true) (fun i => other.getD i [] ++ zero n) (RowV K) rowStays (fun i y H5 H6 P' hi s5 hy k => ?_) (fun D2 ys2 H5 nD2 e5 hD2 hh2 => ?_)
    · obtain ⟨rfl, hy⟩ := hy
      obtain ⟨r, er, hrow⟩ := hv2.at hy
      refine k _ _ rfl (Same.refl _) yes_ev fun _ H7 s7 Q' q' => ?_
      obtain ⟨ra, rfl, hra⟩ := hrow.same ((e14.trans s5).trans s7)
      have hrl := hr2 r (List.mem_of_getElem? er)
      refine ⟨_, rfl, ra, _, rfl, .inl hra, _, rfl, za, _, rfl, .inl (sTup ((e4.trans s5).trans s7) hza), ?_, fun t nt => q' _ _ (sNew nt) ⟨t, rfl, ?_⟩⟩
      · exact fl (by simp [zero]; omega)
      · rw [getD_of er, List.append_nil, ← List.map_append]
        exact .inl (.inl upd_same)
    rw [outOf_all, hvl1] at hh1
    rw [outOf_all, hvl2] at hh2
    have eo1 : (List.range one.length).map (fun i => one.getD i [] ++ one.getD i []) = one.map fun r => r ++ r := by
      have z := congrArg (List.map fun r : Row => r ++ r) (range_getD one [])
      rw [List.map_map] at z
      exact z
    have eo2 : (List.range other.length).map (fun i => other.getD i [] ++ zero n) = other.map fun r => r ++ zero n := by
      have z := congrArg (List.map fun r : Row => r ++ zero n) (range_getD other [])
      rw [List.map_map] at z
      exact z
    rw [eo1] at hh1
    rw [eo2] at hh2
    have hyl1 := hh1.1
    have hyl2 := hh2.1
    rw [List.length_map] at hyl1 hyl2
    refine ⟨D1, D2, ys1, ys2, rfl, rfl, e5 _ _ hD1, hD2, fl (by omega), fun R nR => ?_⟩
    have e15 := (e14.trans e5).trans (sNew (o := .lst (ys1 ++ ys2)) nR)
    have hrows : RowsV K (.ref R) (one.map (fun r => r ++ r) ++ other.map (fun r => r ++ zero n)) (upd H5 R (.lst (ys1 ++ ys2))) :=
      ⟨R, _, rfl, SqL.of upd_same, ((hh1.mono fun _ _ r => r.same e5).append hh2).mono fun _ _ r => r.same (sNew nR)⟩
    have hwide5 := hwide.same ((e4.trans e5).trans (sNew (o := .lst (ys1 ++ ys2)) nR))
    generalize upd H5 R (.lst (ys1 ++ ys2)) = H6 at e15 hrows hwide5
    -- late = [row for row in reduced(wide, rows) if pivot(row) >= ground.n()]
    refine ⟨_, rfl, _, rfl, _, _, p, 2 * n, _, red, rfl, hwide5, by have := hp.1; omega, by have := hp.2.1; omega, hrows, by rw [List.length_append, List.length_map, List.length_map]; omega, fun r hr' => Nat.le_trans (hwl r hr') (by decide), hred, fun vd H7 e7 hvd => ?_⟩
    obtain ⟨da, ds, rfl, hda, hds⟩ := hvd
    have e17 := e15.trans e7
    refine ⟨da, rfl, ⟨_, hda⟩, ?_⟩
    have hdl := hds.1
    refine lcP (walk_tup (xs := ds)) (by omega) (fun H8 e8 => sTup e8 hda) (fun i => decide (n ≤ (pivot (red.getD i [])).getD 0)) (fun i => red.getD i []) (RowV K) rowStays (fun i y H8 H9 P' hi s8 hy k => ?_) (fun D3 ys3 H8 nD3 e8 hD3 hh3 => ?_)
    · obtain ⟨rfl, hy⟩ := hy
      obtain ⟨r, er, hrow⟩ := hds.at hy
      obtain ⟨c, hc, _⟩ := mapO_at hpvs i r er
      refine k _ _ rfl (Same.refl _) (fun H10 s10 Q' q' => ?_) (fun _ H10 s10 Q' q' => ⟨_, rfl, q' _ _ (Same.refl _) (by rw [getD_of er]; exact hrow.same (s8.trans s10))⟩)
      have e10 := s8.trans s10
      refine ⟨_, rfl, _, r, rfl, hrow.same e10, fun H11 e11 => ?_⟩
      rw [hc]
      refine ⟨_, rfl, use_n (hg.same ((e17.trans e10).trans e11)) ⟨_, _, rfl, rfl, _, rfl, ?_⟩⟩
      have eb : decide ((n : Int) ≤ ((c : Nat) : Int)) = decide (n ≤ (pivot (red.getD i [])).getD 0) := by
        rw [getD_of er, hc]
        show decide _ = decide (n ≤ c)
        by_cases hnc : n ≤ c
        · rw [decide_eq_true hnc, decide_eq_true (by omega)]
        · rw [decide_eq_false hnc, decide_eq_false (by omega)]
      show Q' (decide ((n : Int) ≤ ((c : Nat) : Int))) _
      rw [eb]
      exact q' _ e11
    have eo3 : outOf ds.length (fun i => decide (n ≤ (pivot (red.getD i [])).getD 0)) (fun i => red.getD i []) = red.filter fun r => decide (n ≤ (pivot r).getD 0) :=
      (outOf_filter (β := Row) red [] (fun r => decide (n ≤ (pivot r).getD 0)) (fun r => r) hdl).trans (List.map_id' _)
    rw [eo3] at hh3
    have e18 := e17.trans e8
    have hfl : (red.filter fun r => decide (n ≤ (pivot r).getD 0)).length ≤ red.length := List.length_filter_le _ _
    have hyl3 := hh3.1
    -- return code_of(ground, [row[ground.n():] for row in late])
    refine ⟨_, rfl, _, rfl, D3, rfl, ⟨_, SqL.of hD3⟩, ?_⟩
    generalize hF : (red.filter fun r => decide (n ≤ (pivot r).getD 0)) = flt' at hh3 hfin hfl hyl3
    have hfm : ∀ r ∈ flt', r.length ≤ 200 := fun r hr' => hredl r ((List.mem_filter.mp (by rw [← hF] at hr'; exact hr')).1)
    refine lcP (walk_list (xs := ys3)) (by omega) (fun H9 e9 => SqL.of (e9 _ _ hD3)) (fun _ => true) (fun i => (flt'.getD i []).drop n) (RowV K) rowStays (fun i y H9 H10 P' hi s9 hy k => ?_) (fun D4 ys4 H9 nD4 e9 hD4 hh4 => ?_)
    · obtain ⟨rfl, hy⟩ := hy
      obtain ⟨r, er, hrow⟩ := hh3.at hy
      refine k _ _ rfl (Same.refl _) yes_ev fun _ H11 s11 Q' q' => ?_
      have e11 := s9.trans s11
      obtain ⟨ra, rfl, hra⟩ := hrow.same e11
      refine ⟨_, rfl, _, rfl, use_n (hg.same (e18.trans e11)) ⟨n, rfl, ?_⟩⟩
      refine ⟨ra, _, rfl, hra, fun z => q' _ _ (Same.refl _) ⟨ra, rfl, ?_⟩, fun z t nt => q' _ _ (sNew nt) ⟨t, rfl, ?_⟩⟩
      · rw [getD_of er, List.map_drop, cutNone _ _ z.1]
        exact hra
      · rw [getD_of er, List.map_drop, ← cutDrop]
        exact .inl (.inl upd_same)
    · rw [outOf_all, hyl3] at hh4
      have eo4 : (List.range flt'.length).map (fun i => (flt'.getD i []).drop n) = flt'.map (List.drop n) := by
        have z := congrArg (List.map fun r : Row => r.drop n) (range_getD flt' [])
        rw [List.map_map] at z
        exact z
      rw [eo4] at hh4
      refine ⟨_, _, p, n, _, res, rfl, hg.same (e18.trans e9), by have := hp.1; omega, by have := hp.2.1; omega, ⟨D4, ys4, rfl, SqL.of hD4, hh4⟩, by rw [List.length_map]; omega, fun r hr' => ?_, hfin, fun v H10 e10 hv => q _ _ ((e18.trans e9).trans e10) hv⟩
      obtain ⟨r0, hr0, rfl⟩ := List.mem_map.mp hr'
      have := hfm r0 hr0
      rw [List.length_drop]
      omega
end
end Cn

set_option Elab.async false
set_option linter.all false
set_option maxRecDepth 100000
set_option maxHeartbeats 4000000
namespace Cn
open PySem PySem.Spec PyProof.Rows L2 XR
section
variable {P : Program} {w : World} {K : PySem.W.Frag} {mg : Str → Option Value} {base : Heap} {C : Addr}
/-! joined -/
def spJoined (K : PySem.W.Frag) (C : Addr) : Sp := fun vs H Q _ => ∃ (g v1 v2 : V) (p n : Nat) (one other res : List (List Nat)), vs = [g, v1, v2] ∧ GroundAt C g p n H ∧ PrimeOk p ∧ CodeV K v1 one H ∧ one.length ≤ 100 ∧ (∀ r ∈ one, r.length ≤ 100) ∧ CodeV K v2 other H ∧ other.length ≤ 100 ∧ (∀ r ∈ other, r.length ≤ 100) ∧ joined p one other = some res ∧ Ret (fun v => CodeV K v res) H Q
theorem scJoined : FnScope ["ground", "one", "other"] ["ground", "one", "other"] (defScope sJoined) := ⟨rfl, rfl, rfl, by decide +kernel, rfl, by decide +kernel, by decide +kernel⟩
theorem ok_joined {f : Addr} {fd : FuncData} (F : Fun K "joined" "joined" sJoined f fd) (cC : CallOk P w K mg base "code_of" 5 ["ground", "rows"] (spReduced K C)) : FnOk P w K mg base CX0 6 f fd ["ground", "one", "other"] (spJoined K C) := by
  refine F.ok scJoined (fun vs H Q E h => ?_) (fun cdv A outer s H vs Q E hr h => ?_)
  · obtain ⟨g, v1, v2, p, n, one, other, res, rfl, _⟩ := h
    rfl
  · obtain ⟨g, _, _, p, n, one, other, res, rfl, hg, hp, ⟨a1, vs1, rfl, h1, hv1⟩, hl1, hr1, ⟨a2, vs2, rfl, h2, hv2⟩, hl2, hr2, hres, q⟩ := h
    refine ⟨_, pss_one (ps_ret (pcall cC hr (pa_cons (pv 0) (pa_cons (pe_lst (StX.pa_star (pv 1) (StX.pa_star (pv 2) pa_nil))) pa_nil)))), ?_⟩
    have e1 := hv1.1
    have e2 := hv2.1
    refine ⟨_, rfl, _, rfl, a1, _, rfl, .inl h1, _, rfl, a2, _, rfl, .inl h2, fl (by simp; omega), fun R nR => ?_⟩
    have e := sNew (o := .lst (vs1 ++ (vs2 ++ []))) nR
    refine ⟨g, _, p, n, one ++ other, res, rfl, hg.same e, by have := hp.1; omega, by have := hp.2.1; omega, ⟨R, _, rfl, SqL.of upd_same, ?_⟩, by rw [List.length_append]; omega, fun r hr' => ?_, hres, fun v H2 e2 hv => q _ _ (e.trans e2) hv⟩
    · rw [List.append_nil]
      exact (hv1.append hv2).mono fun _ _ r => r.same (by rw [List.append_nil] at e; exact e)
    · rcases List.mem_append.mp hr' with z | z
      · have := hr1 r z
        omega
      · have := hr2 r z
        omega
/-! complement -/
def spComplement (K : PySem.W.Frag) (C : Addr) : Sp := fun vs H Q _ => ∃ (g v1 : V) (p n : Nat) (one res : List (List Nat)), vs = [g, v1] ∧ GroundAt C g p n H ∧ n ≤ 100 ∧ CodeV K v1 one H ∧ one.length ≤ 100 ∧ complement n one = some res ∧ Ret (fun v => CodeV K v res) H Q
theorem scComplement : FnScope ["ground", "code", "known", "column", "unit"] ["ground", "code"] (defScope sComplement) := ⟨rfl, rfl, rfl, by decide +kernel, rfl, by decide +kernel, by decide +kernel⟩
theorem ok_complement {f : Addr} {fd : FuncData} (F : Fun K "complement" "complement" sComplement f fd) (T : Txt K mg C) (cP : CallOk P w K mg base "pivots" 2 ["code"] (spPivots K)) (mU : MethOk P w K mg base C "units" 1 ["self"] (spUnits K C)) : FnOk P w K mg base CX0 3 f fd ["ground", "code"] (spComplement K C) := by
  refine F.ok scComplement (fun vs H Q E h => ?_) (fun cdv A outer s H vs Q E hr h => ?_)
  · obtain ⟨g, v1, p, n, one, res, rfl, _⟩ := h
    rfl
  · obtain ⟨g, v1, p, n, one, res, rfl, hg, hn, h1, hl1, hres, q⟩ := h
    obtain ⟨known, hk, rfl⟩ : ∃ known, mapO pivot one = some known ∧ res = ((List.range n).filter fun c => !known.contains c).map (unit n) := by
      unfold complement at hres
      cases e : mapO pivot one with
      | none =>
        rw [e] at hres
        cases hres
      | some known =>
        rw [e] at hres
        exact ⟨known, rfl, (Option.some.inj hres).symm⟩
    refine ⟨_, pss_cons (ps_set (i := 2) scComplement.nd rfl (.inr rfl) (pcall cP hr (pa_cons (pv 1) pa_nil)))
      (pss_one (ps_ret (pe_callTy call_tuple_of (by rfl) T.tuple boot_tuple (pa_cons
        (pe_lc (own := [("column", 3), ("unit", 4)]) rfl scComplement.nd (pi_enumT (by rfl) T.enumerate (pa_cons (pmeth0 (pv 0) T.cl mU (hr.mono (by decide))) pa_nil)) (blkOk_by (N := ["ground", "code", "known", "column", "unit"]) (sc := defScope sComplement) (by decide +kernel))
          (fun _ _ _ _ _ => by exact (tupG (n := 2) (K := K) rfl rfl (pgs_cons (pg_name (i := 3) scComplement.nd rfl (.inl rfl)) (pgs_cons (pg_name (i := 4) scComplement.nd rfl (.inl rfl)) pgs_nil))))
          (fun _ _ _ _ _ => by exact (pts_one (pt_cmpR (notInK (K := K) rfl) (pv 3) (pv 2) (by rfl)))) (fun _ _ _ _ _ => by exact (pv 4))) pa_nil)))), ?_⟩
    refine ⟨_, rfl, v1, one, known, rfl, h1, by omega, hk, fun vk H1 e1 hk1 => ?_⟩
    obtain ⟨ka, rfl, hka⟩ := hk1
    obtain ⟨ga, dx, rfl, hga⟩ := id hg
    refine ⟨_, rfl, ga, dx, _, rfl, e1 _ _ hga, gf_no _ _ (by decide +kernel) (by decide +kernel), _, p, n, rfl, hg.same e1, hn, fun vu H2 e2 hu => ?_⟩
    obtain ⟨ua, us, rfl, hua, hus⟩ := hu
    refine ⟨ua, us, rfl, hua, ?_⟩
    have hul := hus.1
    rw [List.length_map, List.length_range] at hul
    refine lcP (walk_enumT (xs := us)) (by omega) (fun H3 e3 => sTup e3 hua) (fun i => !known.contains i) (fun i => unit n i) (RowV K) rowStays (fun i y H3 H4 P' hi s3 hy k => ?_) (fun D ys H3 nD e3 hD hh => ?_)
    · obtain ⟨U, x, y, rfl, hU, rfl, hx, hy⟩ := hy
      cases hx
      have hin : i < n := by omega
      have hri : ((List.range n).map (unit n))[i]? = some (unit n i) := by
        rw [List.getElem?_map, List.getElem?_range hin]
        rfl
      have hrow := hus.2 i y _ hy hri
      refine ⟨U, [.int (i : Nat), y], rfl, .inl (.inl upd_same), rfl, _, _, rfl, _, _, rfl, rfl, k _ _ rfl (sNew hU) (fun H5 s5 Q' q' => ?_) (fun _ H5 s5 Q' q' => ⟨_, rfl, q' _ _ (Same.refl _) (hrow.same ((s3.trans (sNew hU)).trans s5))⟩)⟩
      refine ⟨_, rfl, _, rfl, ka, _, rfl, .inr (sTup (((e2.trans s3).trans (sNew hU)).trans s5) hka), rfl, flat_nats known, _, rfl, ?_⟩
      show Q' (!inV (iv i) (known.map iv)) _
      rw [inV_nats]
      exact q' _ (Same.refl _)
    · refine ⟨D, ys, rfl, .inl ⟨SqL.of hD, fun l nl => q _ _ (((e1.trans e2).trans e3).trans (sNew nl)) ⟨l, ys, rfl, .inl (.inl upd_same), ?_⟩⟩⟩
      rw [hul] at hh
      exact hh.mono fun _ _ r => r.same (sNew nl)
end
end Cn

set_option Elab.async false
set_option linter.all false
set_option maxRecDepth 100000
set_option maxHeartbeats 4000000
namespace Cn
open PySem PySem.Spec PyProof.Rows L2 XR
theorem foldComb_len {p : Nat} : ∀ {l : List (Nat × Row)} {st res : Row}, foldO (combStep p) st l = some res → res.length ≤ st.length
  | [], st, res, h => by
    cases h
    exact Nat.le_refl _
  | (k, r) :: l, st, res, h => by
    obtain ⟨c, hc, hf⟩ := foldO_at (l := (k, r) :: l) (i := 0) (x := (k, r)) rfl h
    have h1 : c.length ≤ st.length := by
      unfold combStep at hc
      cases e : small k with
      | none =>
        rw [e] at hc
        cases hc
      | some k' =>
        rw [e] at hc
        cases hc
        exact added_len _ _ _
    exact Nat.le_trans (foldComb_len hf) h1
theorem combined_len {p n : Nat} {ns res : Row} {rows : List Row} (h : combined p n ns rows = some res) : res.length ≤ n := by
  have := foldComb_len h
  simpa [zero] using this
theorem fill_len (p : Nat) : ∀ (l : List (Nat × Nat)) (s : List Row × Nat), (l.foldl (fillStep p) s).1.length = s.1.length
  | [], s => rfl
  | kc :: l, s => by
    rw [List.foldl_cons, fill_len p l]
    simp [fillStep]
theorem codeAt_len (p n rank number : Nat) : (codeAt p n rank number).length ≤ n := by
  unfold codeAt
  rw [fill_len, List.length_map]
  exact (pivotsAt_ok p n rank number).1
theorem allCodes_len {p n rank : Nat} {c : Code} (h : c ∈ allCodes p n rank) : c.length ≤ n := by
  unfold allCodes at h
  obtain ⟨i, _, rfl⟩ := List.mem_map.mp h
  exact codeAt_len _ _ _ _
theorem sortUp_short : ∀ {l : List Code}, l.length < 2 → sortUp l = l
  | [], _ => rfl
  | [x], _ => rfl
  | x :: y :: l, h => absurd h (by simp)
theorem bind_some {α β : Type} {a : Option α} {f : α → Option β} {r : β} (h : a.bind f = some r) : ∃ x, a = some x ∧ f x = some r := by
  cases a with
  | none => cases h
  | some x => exact ⟨x, rfl, h⟩
section
variable {P : Program} {w : World} {K : PySem.W.Frag} {mg : Str → Option Value} {base : Heap} {C : Addr}
/-! codes_of_rank -/
/-- what is asked of two codes -/
structure TwoOk (K : PySem.W.Frag) (C : Addr) (g v1 v2 : V) (p n : Nat) (low high : Code) (H : Hp) : Prop where
  hg : GroundAt C g p n H
  hN : NumOk p n
  h1 : CodeV K v1 low H
  h2 : CodeV K v2 high H
  l1 : low.length ≤ 100
  l2 : high.length ≤ 100
  r1 : ∀ r ∈ low, r.length ≤ 100
  r2 : ∀ r ∈ high, r.length ≤ 100
  hb : ∀ b, baseOf p low high = some b → b.length ≤ n
theorem TwoOk.same {g v1 v2 : V} {p n : Nat} {low high : Code} {H H' : Hp} (e : Same H H') (h : TwoOk K C g v1 v2 p n low high H) : TwoOk K C g v1 v2 p n low high H' :=
  ⟨h.hg.same e, h.hN, h.h1.same e, h.h2.same e, h.l1, h.l2, h.r1, h.r2, h.hb⟩
def SrtOk (res : List Code) : Prop := (∀ c ∈ res, c ≠ []) ∨ res.length < 2
def NewCodes (K : PySem.W.Frag) (res : List Code) (H : Hp) (Q : VK) : Prop := ∀ D ys H', H D = none → Same H H' → H' D = some (.lst ys) → All2 (fun v c => CodeV K v c H') ys res → Q (.ref D) H'
def spRank (K : PySem.W.Frag) (C : Addr) : Sp := fun vs H Q _ => ∃ (g v1 v2 : V) (p n more : Nat) (low high : Code) (res : List Code), vs = [g, v1, v2, iv more] ∧ TwoOk K C g v1 v2 p n low high H ∧ codesOfRank p n low high more = some res ∧ SrtOk res ∧ NewCodes K res H Q
theorem scRank : FnScope ["ground", "low", "high", "more", "base", "found", "code", "row", "numbers"] ["ground", "low", "high", "more"] (defScope sCodesOfRank) := ⟨rfl, rfl, rfl, by decide +kernel, rfl, by decide +kernel, by decide +kernel⟩
theorem ok_rank {f : Addr} {fd : FuncData} (F : Fun K "codes_of_rank" "codes_of_rank" sCodesOfRank f fd) (T : Txt K mg C) (mk : MakeOk P w K mg base C "Ground" 3 ["self", "p", "n"] (spInit C)) (cC : CallOk P w K mg base "code_of" 5 ["ground", "rows"] (spReduced K C)) (cR : CallOk P w K mg base "rest" 4 ["ground", "code", "row"] (spRest K C))
    (cA : CallOk P w K mg base "all_codes" 6 ["ground", "rank"] (spAllCodes K C)) (cB : CallOk P w K mg base "combined" 3 ["ground", "numbers", "rows"] (spCombined K C)) (mP : MethOk P w K mg base C "p" 1 ["self"] (spP C)) : FnOk P w K mg base CX0 7 f fd ["ground", "low", "high", "more"] (spRank K C) := by
  refine F.ok scRank (fun vs H Q E h => ?_) (fun cdv A outer s H vs Q E hr h => ?_)
  · obtain ⟨g, v1, v2, p, n, more, low, high, res, rfl, _⟩ := h
    rfl
  · obtain ⟨g, v1, v2, p, n, more, low, high, res, rfl, W, hres, hso, q⟩ := h
    obtain ⟨b, hb, hres⟩ := bind_some hres
    obtain ⟨l, hl, hres⟩ := bind_some hres
    cases hres
    have hbn := W.hb b hb
    obtain ⟨rs, hrs, hred⟩ := bind_some hb
    have hN := W.hN
    have hp2 := hN.pr.1
    have hp13 := hN.pr.2.1
    have hn4 := hN.n4
    have hl1 := W.l1
    have hl2 := W.l2
    have hrl := mapO_len hrs
    have hrsl : ∀ r ∈ rs, r.length ≤ 100 := fun r hr' => by
      obtain ⟨i, hi⟩ := List.getElem?_of_mem hr'
      have hi2 : i < high.length := by
        have := (List.getElem?_eq_some_iff.mp hi).1
        omega
      obtain ⟨y, hy, ey⟩ := mapO_at hrs i _ (List.getElem?_eq_getElem hi2)
      rw [ey] at hi
      cases hi
      exact Nat.le_trans (without_len hy) (W.r2 _ (List.getElem_mem hi2))
    have hbl := (reduced_len hred hrsl).1
    refine ⟨_, pss_cons (ps_set (i := 4) scRank.nd rfl (.inr rfl) (pcall cC (hr.mono (by decide)) (pa_cons (pv 0) (pa_cons
        (pe_lc (own := [("row", 7)]) (g := gName 7) (tt := tYes) rfl scRank.nd (pi_tup (pv 2)) (blkOk_by (N := ["ground", "low", "high", "more", "base", "found", "code", "row", "numbers"]) (sc := defScope sCodesOfRank) (by decide +kernel))
          (fun _ _ _ _ _ => pg_name (i := 7) scRank.nd rfl (.inl rfl)) (fun _ _ _ _ _ => pts_nil) (fun _ _ _ _ _ => by exact (pcall cR (hr.mono (by decide)) (pa_cons (pv 0) (pa_cons (pv 1) (pa_cons (pv 7) pa_nil)))))) pa_nil))))
      (pss_cons (ps_set (i := 5) scRank.nd rfl (.inl rfl) (pe_lst pa_nil))
      (pss_cons (ps_for PassesOwn.never rfl (pi_list (pcall cA hr (pa_cons (pmake mk (hr.mono (by decide)) (pa_cons (pmeth0 (pv 0) T.cl mP (hr.mono (by decide))) (pa_cons (pe_callB call_len_seq (by rfl) T.len PySem.boot_len (pa_cons (pv 4) pa_nil)) pa_nil))) (pa_cons (pv 3) pa_nil)))) (pg_name (i := 6) scRank.nd rfl (.inl rfl))
        (pss_one (ps_expr (pe_bm PySem.F.plainAttrs_list PySem.F.slot_list_append PySem.F.type_list_append mt_append (pv 5) (pa_cons (pcall cC (hr.mono (by decide)) (pa_cons (pv 0) (pa_cons (pe_lst (StX.pa_star (pv 1) (StX.pa_star
          (pe_lc (own := [("numbers", 8)]) (g := gName 8) (tt := tYes) rfl scRank.nd (pi_tup (pv 6)) (blkOk_by (N := ["ground", "low", "high", "more", "base", "found", "code", "row", "numbers"]) (sc := defScope sCodesOfRank) (by decide +kernel))
            (fun _ _ _ _ _ => pg_name (i := 8) scRank.nd rfl (.inl rfl)) (fun _ _ _ _ _ => pts_nil) (fun _ _ _ _ _ => by exact (pcall cB (hr.mono (by decide)) (pa_cons (pv 0) (pa_cons (pv 8) (pa_cons (pv 4) pa_nil)))))) pa_nil))) pa_nil))) pa_nil)))))
      (pss_one (ps_ret (pe_callB (cr_sortedC (by exact hr.units)) (by rfl) T.sorted boot_sorted (pa_cons (pv 5) pa_nil)))))), ?_⟩
    obtain ⟨a2, vs2, rfl, h2, hv2⟩ := W.h2
    have hvl2 := hv2.1
    -- base = code_of(ground, [rest(..) for row in high])
    refine ⟨_, rfl, _, rfl, a2, rfl, ⟨_, h2⟩, ?_⟩
    refine lcP (walk_tup (xs := vs2)) (by omega) (fun H1 e1 => sTup e1 h2) (fun _ => true) (fun i => rs.getD i []) (RowV K) rowStays (fun i y H1 H2 P' hi s1 hy k => ?_) (fun D ys H1 nD e1 hD hh => ?_)
    · obtain ⟨rfl, hy⟩ := hy
      obtain ⟨row, er, hrow⟩ := hv2.at hy
      obtain ⟨r, hr', er'⟩ := mapO_at hrs i row er
      refine k _ _ rfl (Same.refl _) yes_ev fun _ H3 s3 Q' q' => ?_
      have e3 := s1.trans s3
      refine ⟨_, rfl, _, rfl, _, rfl, g, _, v1, p, n, row, low, r, rfl, W.hg.same e3, by omega, hrow.same e3, Nat.le_trans (W.r2 row (List.mem_of_getElem? er)) (by decide), W.h1.same e3, fun r hr0 => Nat.le_trans (W.r1 r hr0) (by decide), hr', fun v H4 e4 hv => q' _ _ e4 ?_⟩
      rw [getD_of er']
      exact hv
    rw [outOf_mapO [] hrs hv2.1] at hh
    refine ⟨g, _, p, n, rs, b, rfl, W.hg.same e1, by omega, by omega, ⟨D, ys, rfl, SqL.of hD, hh⟩, by omega, fun r hr' => Nat.le_trans (hrsl r hr') (by decide), hred, fun vb H2 e2 hvb => ?_⟩
    have e12 := e1.trans e2
    -- found = []
    refine ⟨Nat.zero_le _, fun fa nfa => ?_⟩
    have e3 : Same H2 (upd H2 fa (.lst [])) := sNew nfa
    have e13 := e12.trans e3
    have nfaH : H fa = none := e12.free nfa
    have hvb3 := hvb.same e3
    have hfa3 : (upd H2 fa (.lst [])) fa = some (.lst []) := upd_same
    generalize upd H2 fa (.lst []) = H3 at e3 e13 hvb3 hfa3
    obtain ⟨ba, bs, rfl, hba, hbs⟩ := id hvb3
    have hbsl := hbs.1
    -- for code in all_codes(Ground(ground.p(), len(base)), more)
    refine ⟨_, rfl, use_p (W.hg.same e13) ⟨_, rfl, ba, bs, rfl, .inr hba, ?_⟩⟩
    intro x dx nx ndx nex
    refine ⟨x, dx, p, b.length, ?_, hN.pr, upd_same, fun H4 k4 w4 => ⟨rfl, ?_⟩⟩
    · show [V.ref x, iv p, V.int (bs.length : Int)] = _
      rw [hbsl]
    have e4 : Same H3 H4 := Same.made nx ndx k4
    have e14 := e13.trans e4
    refine ⟨_, rfl, _, p, b.length, more, rfl, ⟨x, dx, rfl, w4⟩, hN.le hbn, fun CD cys H5 nCD e5 hCD hcs => ?_⟩
    have e15 := e14.trans e5
    have hfa5 := e5 _ _ (e4 _ _ hfa3)
    have hcl := hcs.1
    have hll := mapO_len hl
    have hgs := gauss_small (r := more) (hN.le hbn)
    have hacl : (allCodes p b.length more).length = gauss p b.length more := by simp [allCodes]
    refine ⟨CD, rfl, ⟨_, SqL.of hCD⟩, ?_⟩
    have nCDfa : CD ≠ fa := fun z => by
      rw [z] at nCD
      rw [e4 _ _ hfa3] at nCD
      cases nCD
    have nfa5 : ∀ {c : Addr} {o : HO}, H5 c = some o → c ≠ fa → ∀ {H' : Hp}, (∀ b o, b ≠ fa → H5 b = some o → H' b = some o) → H' c = some o := fun h1 h2 _ h3 => h3 _ _ h2 h1
    -- what stands besides found
    refine for_it (walk_list (xs := cys)) (fun i σ H' => Same H H' ∧ (∀ b o, b ≠ fa → H5 b = some o → H' b = some o) ∧ ∃ (fys : List V) (y6 : Option V), σ = [some g, some v1, some (.ref a2), some (iv more), some (.ref ba), some (.ref fa), y6, none, none] ∧ H' fa = some (.lst fys) ∧ All2 (fun v c => CodeV K v c H') fys (l.take i))
      ⟨e15, fun _ _ _ h => h, [], none, rfl, hfa5, by simpa using All2.nil⟩ (fun i σ H' _ p' => SqL.of (p'.2.1 _ _ nCDfa hCD)) ?_ ?_
    · rintro i x' σ H6 H7 hi ⟨e6, k6, fys, y6, rfl, hfa6, hh6⟩ ⟨rfl, hx⟩
      obtain ⟨code, ec, hcode⟩ := hcs.at hx
      obtain ⟨y, hy, ey⟩ := mapO_at hl i code ec
      obtain ⟨cs, hcs', hrd⟩ := bind_some hy
      have hcl5 := allCodes_len (List.mem_of_getElem? ec)
      -- the rest stands over found's growth
      have lift : ∀ {v : V} {c : Code}, CodeV K v c H5 → CodeV K v c H7 := fun {v c} h => by
        have tu : ∀ {a : Addr} {xs : List V}, SqT K H5 a xs → SqT K H7 a xs := fun {a xs} h => by
          have ne : ∀ {o : HO}, H5 a = some o → (∀ z, o ≠ .lst z) → a ≠ fa := fun {o} h1 h2 z => by
            rw [z, hfa5] at h1
            exact h2 _ (Option.some.inj h1).symm
          rcases h with (h | ⟨o, h⟩) | h
          · exact .inl (.inl (k6 _ _ (ne h (by intro z q; cases q)) h))
          · exact .inl (.inr ⟨o, k6 _ _ (ne h (by intro z q; cases q)) h⟩)
          · exact .inr h
        obtain ⟨a, vs, rfl, h, hh⟩ := h
        exact ⟨a, vs, rfl, tu h, hh.mono fun v r ⟨ra, e, hra⟩ => ⟨ra, e, tu hra⟩⟩
      obtain ⟨ca, cvs, rfl, hca, hcvs⟩ := lift hcode
      have hb7 : CodeV K (.ref ba) b H7 := lift (hvb3.same (e4.trans e5))
      obtain ⟨a1, vs1, rfl, h1, hv1⟩ := W.h1
      have hvl1 := hv1.1
      have hcvl := hcvs.1
      refine ⟨_, rfl, .inl ⟨rfl, _, .inl (.inl hfa6)⟩, _, rfl, _, rfl, a1, _, rfl, .inl (sTup e6 h1), ?_⟩
      refine ⟨_, rfl, ca, rfl, ⟨_, hca⟩, ?_⟩
      have hcsl := mapO_len hcs'
      refine lcP (walk_tup (xs := cvs)) (by omega) (fun H8 e8 => sTup e8 hca) (fun _ => true) (fun i => cs.getD i []) (RowV K) rowStays (fun j z H8 H9 P' hj s8 hz k => ?_) (fun D8 ys8 H8 nD8 e8 hD8 hh8 => ?_)
      · obtain ⟨rfl, hz⟩ := hz
        obtain ⟨ns, en, hns⟩ := hcvs.at hz
        obtain ⟨r, hr', er'⟩ := mapO_at hcs' j ns en
        refine k _ _ rfl (Same.refl _) yes_ev fun _ H10 s10 Q' q' => ?_
        have e10 := s8.trans s10
        refine ⟨_, rfl, _, rfl, _, rfl, g, _, _, p, n, ns, b, r, rfl, W.hg.same (e6.trans e10), by omega, by omega, hns.same e10, hb7.same e10, hbl, hr', fun v H11 e11 hv => q' _ _ e11 ?_⟩
        rw [getD_of er']
        exact hv
      rw [outOf_mapO [] hcs' hcvs.1] at hh8
      have hys8 := hh8.1
      refine ⟨D8, _, rfl, .inr (SqL.of hD8), fl (by simp; omega), fun R nR => ?_⟩
      have e9 : Same H8 (upd H8 R (.lst (vs1 ++ (ys8 ++ [])))) := sNew nR
      have hrowsL : RowsV K (.ref R) (low ++ cs) (upd H8 R (.lst (vs1 ++ (ys8 ++ [])))) := by
        refine ⟨R, _, rfl, SqL.of upd_same, ?_⟩
        have z := ((hv1.mono fun _ _ r => r.same (e6.trans e8)).append hh8).mono fun _ _ r => r.same e9
        rw [List.append_nil] at z ⊢
        exact z
      generalize upd H8 R (.lst (vs1 ++ (ys8 ++ []))) = H9 at e9 hrowsL
      refine ⟨g, _, p, n, low ++ cs, y, rfl, W.hg.same ((e6.trans e8).trans e9), by omega, by omega, hrowsL, by rw [List.length_append]; omega, fun r hr' => ?_, hrd, fun v H10 e10 hv => ?_⟩
      · rcases List.mem_append.mp hr' with z | z
        · exact Nat.le_trans (W.r1 r z) (by decide)
        · obtain ⟨j, hj⟩ := List.getElem?_of_mem z
          have hj2 : j < code.length := by
            have := (List.getElem?_eq_some_iff.mp hj).1
            omega
          obtain ⟨y', hy', ey'⟩ := mapO_at hcs' j _ (List.getElem?_eq_getElem hj2)
          rw [ey'] at hj
          cases hj
          have := combined_len hy'
          omega
      have e710 := (e8.trans e9).trans e10
      have hfa10 := e710 _ _ hfa6
      have hfl := hh6.1
      rw [List.length_take] at hfl
      refine ⟨fa, fys, v, rfl, rfl, hfa10, flt (by omega), ?_⟩
      refine ⟨sMut (e6.trans e710) nfaH, fun b' o hb' h' => ?_, fys ++ [v], _, rfl, upd_same, ?_⟩
      · rw [upd_ne hb']
        exact e710 _ _ (k6 _ _ hb' h')
      · rw [List.take_add_one, ey]
        exact (hh6.mono fun _ _ r => (r.same e710).lst hfa10).snoc (hv.lst hfa10)
    · rintro σ H6 ⟨e6, k6, fys, y6, rfl, hfa6, hh6⟩
      rw [hcl, ← hll, List.take_length] at hh6
      have hfl := hh6.1
      -- return sorted(found)
      refine ⟨_, rfl, ?_⟩
      rcases hso with hne | hsh
      · refine .inr ⟨fa, fys, l.map encC, rfl, SqL.of hfa6, dpAll2 (fun _ _ r => r.dp) hh6, sortOkC (fun c hc => hne c ((sortUp_perm l).mem_iff.mpr hc)), fun D ys nD hys => ?_⟩
        rw [srtUp] at hys
        exact q D ys _ (e6.free nD) (e6.trans (sNew nD)) upd_same ((codes_back hys).mono fun _ _ r => r.same (sNew nD))
      · rw [(sortUp_perm l).length_eq] at hsh
        refine .inl ⟨fa, fys, rfl, SqL.of hfa6, by omega, fun D nD => ?_⟩
        rw [sortUp_short hsh] at q
        exact q D fys _ (e6.free nD) (e6.trans (sNew nD)) upd_same (hh6.mono fun _ _ r => r.same (sNew nD))
/-! between_codes -/
def spBetween (K : PySem.W.Frag) (C : Addr) : Sp := fun vs H Q _ => ∃ (g v1 v2 : V) (p n : Nat) (low high : Code) (res : List Code), vs = [g, v1, v2] ∧ TwoOk K C g v1 v2 p n low high H ∧ codesOfRank p n low high 1 = some res ∧ SrtOk res ∧ NewCodes K res H Q
theorem scBetween : FnScope ["ground", "low", "high"] ["ground", "low", "high"] (defScope sBetween) := ⟨rfl, rfl, rfl, by decide +kernel, rfl, by decide +kernel, by decide +kernel⟩
theorem ok_between {f : Addr} {fd : FuncData} (F : Fun K "between_codes" "between_codes" sBetween f fd) (cR : CallOk P w K mg base "codes_of_rank" 7 ["ground", "low", "high", "more"] (spRank K C)) : FnOk P w K mg base CX0 8 f fd ["ground", "low", "high"] (spBetween K C) := by
  refine F.ok scBetween (fun vs H Q E h => ?_) (fun cdv A outer s H vs Q E hr h => ?_)
  · obtain ⟨g, v1, v2, p, n, low, high, res, rfl, _⟩ := h
    rfl
  · obtain ⟨g, v1, v2, p, n, low, high, res, rfl, h⟩ := h
    exact ⟨_, pss_one (ps_ret (pcall cR hr (pa_cons (pv 0) (pa_cons (pv 1) (pa_cons (pv 2) (pa_cons pe_int pa_nil)))))), _, rfl, _, rfl, _, rfl, g, v1, v2, p, n, 1, low, high, res, rfl, h⟩
/-! all_codes_between -/
def spAllBetween (K : PySem.W.Frag) (C : Addr) : Sp := fun vs H Q _ => ∃ (g v1 v2 : V) (p n : Nat) (low high : Code) (res : List Code), vs = [g, v1, v2] ∧ TwoOk K C g v1 v2 p n low high H ∧ low.length ≤ high.length ∧ allBetween p n low high = some res ∧ res.length ≤ 10000 ∧ (∀ more r, more < high.length + 1 - low.length → codesOfRank p n low high more = some r → SrtOk r) ∧ NewCodes K res H Q
theorem scAllBetween : FnScope ["ground", "low", "high", "found", "more"] ["ground", "low", "high"] (defScope sAllBetween) := ⟨rfl, rfl, rfl, by decide +kernel, rfl, by decide +kernel, by decide +kernel⟩
theorem flat_take {β : Type} {ls : List (List β)} {i : Nat} {x : List β} (h : ls[i]? = some x) : (ls.take (i + 1)).flatten = (ls.take i).flatten ++ x := by
  rw [List.take_add_one, h, List.flatten_append]
  simp
theorem flat_le {β : Type} (ls : List (List β)) (i : Nat) : (ls.take i).flatten.length ≤ ls.flatten.length := by
  have h := congrArg (fun z => (List.flatten z).length) (List.take_append_drop i ls)
  simp only [List.flatten_append, List.length_append] at h
  omega
theorem ok_all_between {f : Addr} {fd : FuncData} (F : Fun K "all_codes_between" "all_codes_between" sAllBetween f fd) (T : Txt K mg C) (cR : CallOk P w K mg base "codes_of_rank" 7 ["ground", "low", "high", "more"] (spRank K C)) : FnOk P w K mg base CX0 8 f fd ["ground", "low", "high"] (spAllBetween K C) := by
  refine F.ok scAllBetween (fun vs H Q E h => ?_) (fun cdv A outer s H vs Q E hr h => ?_)
  · obtain ⟨g, v1, v2, p, n, low, high, res, rfl, _⟩ := h
    rfl
  · obtain ⟨g, v1, v2, p, n, low, high, res, rfl, W, hlh, hres, hrl, hso, q⟩ := h
    obtain ⟨ls, hls, hres⟩ := bind_some hres
    cases hres
    refine ⟨_, pss_cons (ps_set (i := 3) scAllBetween.nd rfl (.inl rfl) (pe_lst pa_nil))
      (pss_cons (ps_for PassesOwn.never rfl (pi_range1 (by rfl) T.range (pa_cons (pe_op op_add (pe_op op_sub (pe_callB call_len_seq (by rfl) T.len PySem.boot_len (pa_cons (pv 2) pa_nil)) (pe_callB call_len_seq (by rfl) T.len PySem.boot_len (pa_cons (pv 1) pa_nil))) pe_int) pa_nil)) (pg_name (i := 4) scAllBetween.nd rfl (.inl rfl))
        (pss_one (ps_expr (pe_bm PySem.F.plainAttrs_list PySem.F.slot_list_extend PySem.F.type_list_extend mt_extend (pv 3) (pa_cons (pcall cR hr (pa_cons (pv 0) (pa_cons (pv 1) (pa_cons (pv 2) (pa_cons (pv 4) pa_nil))))) pa_nil)))))
      (pss_one (ps_ret (pv 3)))), ?_⟩
    refine ⟨Nat.zero_le _, fun fa nfa => ?_⟩
    have e0 : Same H (upd H fa (.lst [])) := sNew nfa
    obtain ⟨a1, vs1, rfl, h1, hv1⟩ := id W.h1
    obtain ⟨a2, vs2, rfl, h2, hv2⟩ := id W.h2
    have hvl1 := hv1.1
    have hvl2 := hv2.1
    have hl2 := W.l2
    refine ⟨_, rfl, a2, vs2, rfl, .inr (sTup e0 h2), _, rfl, a1, vs1, rfl, .inr (sTup e0 h1), _, _, rfl, rfl, _, _, rfl, rfl, _, rfl, by omega, by omega, ?_⟩
    have eN : ((vs2.length : Int) - (vs1.length : Int) + 1).toNat = high.length + 1 - low.length := by omega
    have hlsl := mapO_len hls
    rw [List.length_range] at hlsl
    show ∃ W : Nat → Nat → L2.St → Hp → Prop, (∃ m, W 0 m _ _) ∧ ∀ i m σ H, W i m σ H → ((Itr 0 ((vs2.length : Int) - (vs1.length : Int) + 1).toNat).stop i H ∧ _) ∨ _
    rw [eN]
    refine for_range (n := high.length + 1 - low.length) (fun i σ H' => Same H H' ∧ ∃ (fys : List V) (y4 : Option V), σ = [some g, some (.ref a1), some (.ref a2), some (.ref fa), y4] ∧ H' fa = some (.lst fys) ∧ All2 (fun v c => CodeV K v c H') fys (ls.take i).flatten)
      ⟨e0, [], none, rfl, upd_same, by simpa using All2.nil⟩ ?_ ?_
    · rintro i σ H1 hi ⟨e1, fys, y4, rfl, hfa, hh⟩
      obtain ⟨r, hr', er⟩ := mapO_at hls i i (by rw [List.getElem?_range hi])
      refine ⟨_, rfl, .inl ⟨rfl, _, .inl (.inl hfa)⟩, _, rfl, _, rfl, _, rfl, _, rfl, g, _, _, p, n, i, low, high, r, ?_, W.same e1, hr', hso i r hi hr', fun D ys H2 nD e2 hD hys => ?_⟩
      · show [g, V.ref a1, V.ref a2, V.int (0 + (i : Int))] = _
        rw [Int.zero_add]
      have hfl := hh.1
      have hyl := hys.1
      have hle := flat_le ls (i + 1)
      rw [flat_take er, List.length_append] at hle
      have hfa2 := e2 _ _ hfa
      refine ⟨fa, D, fys, ys, rfl, rfl, hfa2, hD, fl (by omega), ?_⟩
      refine ⟨sMut (e1.trans e2) nfa, fys ++ ys, some (V.int (0 + (i : Int))), rfl, upd_same, ?_⟩
      rw [flat_take er]
      exact (hh.mono fun _ _ r => (r.same e2).lst hfa2).append (hys.mono fun _ _ r => r.lst hfa2)
    · rintro σ H1 ⟨e1, fys, y4, rfl, hfa, hh⟩
      rw [← hlsl, List.take_length] at hh
      exact ⟨_, rfl, q fa fys H1 nfa e1 hfa hh⟩
end
end Cn

set_option Elab.async false
set_option linter.all false
set_option maxRecDepth 100000
set_option maxHeartbeats 4000000
namespace Cn
open PySem PySem.Spec PyProof.Rows L2 XR
abbrev sSource : Stmt := topS 42
abbrev sPick : Stmt := topS 43
abbrev sOf : Stmt := topS 44
abbrev sLaw : Stmt := topS 45
def src4 (c l m t : V) : List (Key × V) := [(Sum.inr ("cells" : Str), c), (Sum.inr ("left" : Str), l), (Sum.inr ("mixed" : Str), m), (Sum.inr ("turn" : Str), t)]
theorem key12 : ¬ ((Sum.inr ("cells" : Str) : Key) = Sum.inr ("left" : Str)) := by decide +kernel
theorem key13 : ¬ ((Sum.inr ("cells" : Str) : Key) = Sum.inr ("mixed" : Str)) := by decide +kernel
theorem key14 : ¬ ((Sum.inr ("cells" : Str) : Key) = Sum.inr ("turn" : Str)) := by decide +kernel
theorem key23 : ¬ ((Sum.inr ("left" : Str) : Key) = Sum.inr ("mixed" : Str)) := by decide +kernel
theorem key24 : ¬ ((Sum.inr ("left" : Str) : Key) = Sum.inr ("turn" : Str)) := by decide +kernel
theorem key34 : ¬ ((Sum.inr ("mixed" : Str) : Key) = Sum.inr ("turn" : Str)) := by decide +kernel
theorem key32 : ¬ ((Sum.inr ("mixed" : Str) : Key) = Sum.inr ("left" : Str)) := by decide +kernel
theorem key42 : ¬ ((Sum.inr ("turn" : Str) : Key) = Sum.inr ("left" : Str)) := by decide +kernel
section
variable (c l m t v : V)
theorem src_cells : valV (src4 c l m t) (Sum.inr ("cells" : Str)) = some c := valV_pos rfl
theorem src_left : valV (src4 c l m t) (Sum.inr ("left" : Str)) = some l := by
  unfold src4
  rw [valV_neg key12, valV_pos rfl]
theorem src_mixed : valV (src4 c l m t) (Sum.inr ("mixed" : Str)) = some m := by
  unfold src4
  rw [valV_neg key13, valV_neg key23, valV_pos rfl]
theorem src_turn : valV (src4 c l m t) (Sum.inr ("turn" : Str)) = some t := by
  unfold src4
  rw [valV_neg key14, valV_neg key24, valV_neg key34, valV_pos rfl]
theorem put_left : putK (src4 c l m t) (Sum.inr ("left" : Str)) v = src4 c v m t := by
  unfold putK src4
  have k42 := key42
  have k32 := key32
  have k12 := key12
  simp [k12, k32, k42]
theorem put_turn : putK (src4 c l m t) (Sum.inr ("turn" : Str)) v = src4 c l m v := by
  unfold putK src4
  have k14 := key14
  have k24 := key24
  have k34 := key34
  simp [k14, k24, k34]
theorem src_merge : mergeK [] (src4 c l m t) = src4 c l m t := by
  unfold mergeK src4
  have k12 := key12
  have k13 := key13
  have k14 := key14
  have k23 := key23
  have k24 := key24
  have k34 := key34
  simp [putK, k12, k13, k14, k23, k24, k34]
end
/-- the source of draws: its dict at d, its cells at ca -/
def SrcAt (H : Hp) (d ca : Addr) : Prop := d ≠ ca ∧ ∃ (cells : List Int) (left mixed turn : Int), H d = some (.dK (src4 (.ref ca) (.int left) (.int mixed) (.int turn))) ∧ H ca = some (.lst (cells.map V.int))
/-- all but the source stands -/
def But2 (d ca : Addr) (H H' : Hp) : Prop := ∀ b o, b ≠ d → b ≠ ca → H b = some o → H' b = some o
theorem But2.refl (d ca : Addr) (H : Hp) : But2 d ca H H := fun _ _ _ _ h => h
theorem But2.trans {d ca : Addr} {H H1 H2 : Hp} (a : But2 d ca H H1) (b : But2 d ca H1 H2) : But2 d ca H H2 := fun x o h1 h2 h => b x o h1 h2 (a x o h1 h2 h)
theorem But2.of {d ca : Addr} {H H' : Hp} (e : Same H H') : But2 d ca H H' := fun b o _ _ h => e b o h
theorem But2.d {d ca : Addr} {H H' : Hp} {o : HO} (a : But2 d ca H H') : But2 d ca H (upd H' d o) := fun b o' h1 h2 h => by
  rw [upd_ne h1]
  exact a b o' h1 h2 h
theorem But2.c {d ca : Addr} {H H' : Hp} {o : HO} (a : But2 d ca H H') : But2 d ca H (upd H' ca o) := fun b o' h1 h2 h => by
  rw [upd_ne h2]
  exact a b o' h1 h2 h
theorem SrcAt.same {d ca : Addr} {H H' : Hp} (e : Same H H') (h : SrcAt H d ca) : SrcAt H' d ca := by
  obtain ⟨h0, cells, left, mixed, turn, h1, h2⟩ := h
  exact ⟨h0, cells, left, mixed, turn, e _ _ h1, e _ _ h2⟩
section
variable {P : Program} {w : World} {K : PySem.W.Frag} {mg : Str → Option Value} {base : Heap} {C : Addr}
/-! _law_source -/
def spSource (K : PySem.W.Frag) : Sp := fun vs H Q _ => ∃ (a : Addr) (ns : List Int), vs = [.ref a] ∧ SqL K H a (ns.map V.int) ∧ ns.length ≤ 63 ∧ ∀ d ca H', Same H H' → SrcAt H' d ca → Q (.ref d) H'
theorem scSource : FnScope ["_law_script", "_law_mixed", "_law_cell"] ["_law_script"] (defScope sSource) := ⟨rfl, rfl, rfl, by decide +kernel, rfl, by decide +kernel, by decide +kernel⟩
theorem ok_source {f : Addr} {fd : FuncData} (F : Fun K "_law_source" "_law_source" sSource f fd) (T : Txt K mg C) : FnOk P w K mg base CX0 1 f fd ["_law_script"] (spSource K) := by
  refine F.ok scSource (fun vs H Q E h => ?_) (fun cdv A outer s H vs Q E hr h => ?_)
  · obtain ⟨a, ns, rfl, _⟩ := h
    rfl
  · obtain ⟨a, ns, rfl, ha, hl, q⟩ := h
    refine ⟨_, pss_cons (ps_set (i := 1) scSource.nd rfl (.inl rfl) pe_int)
      (pss_cons (ps_for PassesOwn.never rfl (pi_list (pv 0)) (pg_name (i := 2) scSource.nd rfl (.inl rfl))
        (pss_one (ps_set (i := 1) scSource.nd rfl (.inl rfl) (pe_op op_mod (pe_callTy call_int1 (by rfl) T.int boot_int (pa_cons (pe_op op_add (pe_op op_add (pe_op op_mul (pv 1) pe_int) (pe_op op_mul (pv 2) pe_int)) pe_int) pa_nil)) pe_int))))
      (pss_one (ps_ret (pe_disp (pps_cons pe_str (pe_revL (pe_lc (own := [("_law_cell", 2)]) (g := gName 2) (tt := tYes) rfl scSource.nd (pi_list (pv 0)) (blkOk_by (N := ["_law_script", "_law_mixed", "_law_cell"]) (sc := defScope sSource) (by decide +kernel))
          (fun _ _ _ _ _ => pg_name (i := 2) scSource.nd rfl (.inl rfl)) (fun _ _ _ _ _ => pts_nil) (fun _ _ _ _ _ => by exact (pe_callB call_abs (by rfl) T.abs boot_abs (pa_cons (pv 2) pa_nil)))))
        (pps_cons pe_str pe_int (pps_cons pe_str (pv 1) (pps_cons pe_str pe_int pps_nil)))) rfl rfl (by intro z; cases z) (by decide))))), ?_⟩
    refine ⟨_, rfl, a, rfl, ⟨_, ha⟩, for_list (K := K) (a := a) (xs := ns.map V.int) (fun i σ H' => H' = H ∧ ∃ (m : Int) (y : Option V), σ = [some (.ref a), some (.int m), y]) ⟨rfl, 11, none, rfl⟩ (fun i σ H' _ p' => by rw [p'.1]; exact ha) ?_ ?_⟩
    · rintro i x σ H' hx ⟨rfl, m, y, rfl⟩
      rw [List.getElem?_map] at hx
      cases e : ns[i]? with
      | none =>
        rw [e] at hx
        cases hx
      | some z =>
        rw [e] at hx
        cases hx
        refine ⟨_, rfl, _, _, rfl, rfl, .inr ⟨by decide, by decide⟩, _, rfl, _, _, rfl, rfl, .inr ⟨by decide, by decide⟩, _, _, rfl, rfl, _, _, rfl, rfl, .inl ⟨_, rfl, _, _, rfl, rfl, by show (0 : Int) < 2147483629; decide, ?_⟩⟩
        exact ⟨rfl, _, _, rfl⟩
    · rintro σ H' ⟨rfl, m, y, rfl⟩
      intro d nd
      have e0 : Same H' (upd H' d (.dK [])) := sNew nd
      refine ⟨_, rfl, a, rfl, ⟨_, e0.seq ha⟩, ?_⟩
      refine lcP (walk_list (xs := ns.map V.int)) (by rw [List.length_map]; omega) (fun H1 e1 => e1.seq (e0.seq ha)) (fun _ => true) (fun i => if ns.getD i 0 < 0 then -(ns.getD i 0) else ns.getD i 0) (fun v (b : Int) _ => v = V.int b) flatStays (fun i x H1 H2 P' hi s1 hy k => ?_) (fun D ys H1 nD e1 hD hh => ?_)
      · obtain ⟨rfl, hx⟩ := hy
        rw [List.getElem?_map] at hx
        cases e : ns[i]? with
        | none =>
          rw [e] at hx
          cases hx
        | some z =>
          rw [e] at hx
          cases hx
          refine k _ _ rfl (Same.refl _) yes_ev fun _ H3 s3 Q' q' => ⟨_, rfl, z, rfl, q' _ _ (Same.refl _) ?_⟩
          rw [getD_of e]
      have ey := all2_map (H := H1) hh
      subst ey
      refine ⟨D, _, rfl, SqL.of hD, fun ca nca => ?_⟩
      refine ⟨_, rfl, ?_⟩
      have hd2 : (upd H1 ca (.lst ((outOf (ns.map V.int).length (fun _ => true) (fun i => if ns.getD i 0 < 0 then -(ns.getD i 0) else ns.getD i 0)).map V.int).reverse)) d = some (.dK []) := sNew nca _ _ (e1 _ _ upd_same)
      refine ⟨hd2, src4 (.ref ca) (.int 1) (.int m) (.int 0), rfl, by show 4 ≤ 15; decide, ?_⟩
      rw [src_merge]
      have nda : d ≠ ca := ne_of_none (e1 _ _ upd_same) nca
      refine q d ca _ (fun b o hb => ?_) ⟨nda, (outOf (ns.map V.int).length (fun _ => true) (fun i => if ns.getD i 0 < 0 then -(ns.getD i 0) else ns.getD i 0)).reverse, 1, m, 0, upd_same, ?_⟩
      · rw [upd_ne (ne_of_none hb nd)]
        exact sNew nca _ _ (e1 _ _ (e0 _ _ hb))
      · rw [upd_ne nda.symm, upd_same, List.map_reverse]
/-! _law_pick -/
def spPick : Sp := fun vs H Q _ => ∃ (d ca : Addr) (many : Nat), vs = [.ref d, iv many] ∧ 1 ≤ many ∧ many ≤ 10000 ∧ SrcAt H d ca ∧ ∀ (i : Nat) H', i < many → But2 d ca H H' → SrcAt H' d ca → Q (iv i) H'
theorem scPick : FnScope ["_law_source_here", "_law_many", "_law_left", "_law_mixed"] ["_law_source_here", "_law_many"] (defScope sPick) := ⟨rfl, rfl, rfl, by decide +kernel, rfl, by decide +kernel, by decide +kernel⟩
theorem dg {H : Hp} {d : Addr} {c l m t v : V} {k : Str} (h : H d = some (.dK (src4 c l m t))) (e : valV (src4 c l m t) (Sum.inr k) = some v) : DGet H d (.str k) (some v) := by
  have z := DGet.k (k := Sum.inr k) h
  rw [e] at z
  exact z
theorem emod_iv {x : Int} {many : Nat} (h : 1 ≤ many) : ∃ i : Nat, i < many ∧ x % (many : Int) = (i : Int) := by
  have h0 : (0 : Int) < (many : Int) := by omega
  have h1 := Int.emod_nonneg x (show (many : Int) ≠ 0 by omega)
  have h2 := Int.emod_lt_of_pos x h0
  exact ⟨(x % (many : Int)).toNat, by omega, by omega⟩
theorem ok_pick {f : Addr} {fd : FuncData} (F : Fun K "_law_pick" "_law_pick" sPick f fd) (T : Txt K mg C) : FnOk P w K mg base CX0 1 f fd ["_law_source_here", "_law_many"] spPick := by
  refine F.ok scPick (fun vs H Q E h => ?_) (fun cdv A outer s H vs Q E hr h => ?_)
  · obtain ⟨d, ca, many, rfl, _⟩ := h
    rfl
  · obtain ⟨d, ca, many, rfl, h1, hm, ⟨hdc, cells, left, mixed, turn, hd, hca⟩, q⟩ := h
    have hu := hu_of hr
    refine ⟨_, Evl.pss_cut (ps_while PassesOwn.never (PW.pt (pw_and (pt_cmpR op_gt (pv 1) pe_int (nomark _)) (pw_and (pt_cmpR op_lt (pe_dget hu (pv 0) pe_str (fun _ _ => rfl)) pe_int (nomark _)) (pw_and1 (pt_cmpR op_gt (pe_callB call_len_seq (by rfl) T.len PySem.boot_len (pa_cons (pe_dget hu (pv 0) pe_str (fun _ _ => rfl)) pa_nil)) pe_int (nomark _))))))
        (pss_one (ps_dput hu (pv 0) pe_str (pe_bm0 PySem.F.plainAttrs_list PySem.F.slot_list_pop PySem.F.type_list_pop mt_pop (pe_dget hu (pv 0) pe_str (fun _ _ => rfl))) rfl)))
      (pss_cons (ps_set (i := 2) scPick.nd rfl (.inl rfl) (pe_dget hu (pv 0) pe_str (fun _ _ => rfl)))
      (pss_cons (ps_if (PW.pt (pw_or (pt_cmpR op_lt (pv 1) pe_int (nomark _)) (pw_or1 (pt_cmpR op_gt (pv 2) pe_int (nomark _)))))
        (pss_cons (ps_dput hu (pv 0) pe_str (pe_op op_fdiv (pv 2) (pe_callB (call_max2 rfl) (by rfl) T.max boot_max (pa_cons pe_int (pa_cons (pv 1) pa_nil)))) rfl)
        (pss_one (ps_ret (pe_op op_mod (pe_callTy call_int1 (by rfl) T.int boot_int (pa_cons (pv 2) pa_nil)) (pe_callB (call_max2 rfl) (by rfl) T.max boot_max (pa_cons pe_int (pa_cons (pv 1) pa_nil))))))) pss_nil)
      (pss_cons (ps_dput hu (pv 0) pe_str (pe_op op_add (pe_dget hu (pv 0) pe_str (fun _ _ => rfl)) pe_int) rfl)
      (pss_cons (ps_set (i := 3) scPick.nd rfl (.inl rfl) (pe_op op_mod (pe_callTy call_int1 (by rfl) T.int boot_int (pa_cons (pe_op op_add (pe_dget hu (pv 0) pe_str (fun _ _ => rfl)) (pe_op op_mul (pe_dget hu (pv 0) pe_str (fun _ _ => rfl)) pe_int)) pa_nil)) pe_int))
      (pss_cons (ps_set (i := 3) scPick.nd rfl (.inl rfl) (pe_op op_mod (pe_callTy call_int1 (by rfl) T.int boot_int (pa_cons (pe_op op_add (pe_op op_mul (pv 3) (pv 3)) (pe_op op_mul (pe_dget hu (pv 0) pe_str (fun _ _ => rfl)) pe_int)) pa_nil)) pe_int))
      (pss_one (ps_ret (pe_op op_mod (pe_callTy call_int1 (by rfl) T.int boot_int (pa_cons (pe_op op_fdiv (pv 3) pe_int) pa_nil)) (pv 1))))))))), ?_⟩
    have emax : (if ((many : Nat) : Int) > 1 then ((many : Nat) : Int) else 1) = (many : Int) := by
      split <;> omega
    refine ⟨fun σ H' => But2 d ca H H' ∧ σ = [some (.ref d), some (iv many), none, none] ∧ ∃ (cells : List Int) (left mixed turn : Int), H' d = some (.dK (src4 (.ref ca) (.int left) (.int mixed) (.int turn))) ∧ H' ca = some (.lst (cells.map V.int)), ?_, ?_⟩
    · refine ⟨fun m σ H' => But2 d ca H H' ∧ σ = [some (.ref d), some (iv many), none, none] ∧ ∃ (cells : List Int) (left mixed turn : Int), H' d = some (.dK (src4 (.ref ca) (.int left) (.int mixed) (.int turn))) ∧ H' ca = some (.lst (cells.map V.int)) ∧ m = cells.length, ⟨cells.length, But2.refl _ _ _, rfl, cells, left, mixed, turn, hd, hca, rfl⟩, ?_⟩
      rintro m σ H' ⟨e1, rfl, cells', left', mixed', turn', hd', hca', rfl⟩
      refine ⟨_, rfl, _, _, rfl, rfl, _, rfl, ?_⟩
      have done_ : But2 d ca H H' ∧ ([some (.ref d), some (iv many), none, none] : L2.St) = [some (.ref d), some (iv many), none, none] ∧ ∃ (cells : List Int) (left mixed turn : Int), H' d = some (.dK (src4 (.ref ca) (.int left) (.int mixed) (.int turn))) ∧ H' ca = some (.lst (cells.map V.int)) := ⟨e1, rfl, cells', left', mixed', turn', hd', hca'⟩
      refine ite2 (fun c1 => ?_) (fun c1 => iteF done_)
      refine ⟨_, rfl, d, _, rfl, dg hd' (src_left _ _ _ _), _, _, rfl, rfl, _, rfl, ?_⟩
      refine ite2 (fun c2 => ?_) (fun c2 => iteF done_)
      refine ⟨_, rfl, d, _, rfl, dg hd' (src_cells _ _ _ _), ca, _, rfl, .inl (SqL.of hca'), _, _, rfl, rfl, _, rfl, ?_⟩
      refine ite2 (fun c3 => ?_) (fun c3 => done_)
      have hne : cells' ≠ [] := by
        intro e
        subst e
        exact absurd c3 (by simp)
      have elast : (cells'.map V.int)[(cells'.map V.int).length - 1]? = some (V.int (cells'.getLast hne)) := by
        rw [← List.getLast?_eq_getElem?, List.getLast?_map, List.getLast?_eq_some_getLast hne]
        rfl
      have edrop : (cells'.map V.int).dropLast = cells'.dropLast.map V.int := List.map_dropLast.symm
      refine ⟨fun σ' H'' => But2 d ca H H'' ∧ σ' = [some (.ref d), some (iv many), none, none] ∧ ∃ (cells : List Int) (left mixed turn : Int), H'' d = some (.dK (src4 (.ref ca) (.int left) (.int mixed) (.int turn))) ∧ H'' ca = some (.lst (cells.map V.int)) ∧ cells.length < cells'.length, ?_, ?_⟩
      · rintro σ' H'' ⟨a1, a2, c0, l0, m0, t0, a3, a4, a5⟩
        exact ⟨_, a5, a1, a2, c0, l0, m0, t0, a3, a4, rfl⟩
      refine ⟨_, rfl, d, _, rfl, dg hd' (src_cells _ _ _ _), ⟨.inl ⟨rfl, _, SqL.of hca'⟩, ca, _, _, rfl, rfl, hca', elast, ?_⟩⟩
      have hd2 : upd H' ca (.lst (cells'.map V.int).dropLast) d = some (.dK (src4 (.ref ca) (.int left') (.int mixed') (.int turn'))) := by
        rw [upd_ne hdc]
        exact hd'
      refine ⟨_, rfl, d, _, rfl, DPut.k (k := Sum.inr "left") hd2 (flt (by show 4 < 100000; decide)), ?_⟩
      rw [put_left]
      refine ⟨(e1.c).d, rfl, cells'.dropLast, _, _, _, upd_same, ?_, ?_⟩
      · rw [upd_ne hdc.symm, upd_same, edrop]
      · have := List.length_pos_iff.2 hne
        rw [List.length_dropLast]
        omega
    · rintro σ H' ⟨e1, rfl, cells', left', mixed', turn', hd', hca'⟩
      refine ⟨_, rfl, d, _, rfl, dg hd' (src_left _ _ _ _), ?_⟩
      refine ⟨_, rfl, _, _, rfl, rfl, _, rfl, ?_⟩
      refine ite2 (fun c1 => iteT ?_) (fun c1 => ?_)
      · have emax' : (if ((many : Nat) : Int) > 1 then ((many : Nat) : Int) else 1) = (many : Int) := emax
        refine ⟨_, rfl, _, rfl, _, _, rfl, ?_⟩
        rw [emax]
        refine ⟨_, _, rfl, rfl, ⟨by omega, by omega⟩, _, rfl, d, _, rfl, DPut.k (k := Sum.inr "left") hd' (flt (by show 4 < 100000; decide)), ?_⟩
        rw [put_left]
        refine ⟨_, rfl, .inl ⟨_, rfl, _, rfl, _, _, rfl, ?_⟩⟩
        rw [emax]
        refine ⟨_, _, rfl, rfl, by omega, ?_⟩
        obtain ⟨i, hi, ei⟩ := emod_iv (x := left') h1
        have z := q i (upd H' d (.dK (src4 (.ref ca) (.int (left' / many)) (.int mixed') (.int turn')))) hi e1.d ⟨hdc, cells', _, _, _, upd_same, by
          rw [upd_ne hdc.symm]
          exact hca'⟩
        unfold iv at z
        rw [← ei] at z
        exact z
      refine ⟨_, rfl, _, _, rfl, rfl, _, rfl, ?_⟩
      refine ite2 (fun c2 => ?_) (fun c2 => ?_)
      · have emax' : (if ((many : Nat) : Int) > 1 then ((many : Nat) : Int) else 1) = (many : Int) := emax
        refine ⟨_, rfl, _, rfl, _, _, rfl, ?_⟩
        rw [emax]
        refine ⟨_, _, rfl, rfl, ⟨by omega, by omega⟩, _, rfl, d, _, rfl, DPut.k (k := Sum.inr "left") hd' (flt (by show 4 < 100000; decide)), ?_⟩
        rw [put_left]
        refine ⟨_, rfl, .inl ⟨_, rfl, _, rfl, _, _, rfl, ?_⟩⟩
        rw [emax]
        refine ⟨_, _, rfl, rfl, by omega, ?_⟩
        obtain ⟨i, hi, ei⟩ := emod_iv (x := left') h1
        have z := q i (upd H' d (.dK (src4 (.ref ca) (.int (left' / many)) (.int mixed') (.int turn')))) hi e1.d ⟨hdc, cells', _, _, _, upd_same, by
          rw [upd_ne hdc.symm]
          exact hca'⟩
        unfold iv at z
        rw [← ei] at z
        exact z
      refine ⟨_, rfl, d, _, rfl, dg hd' (src_turn _ _ _ _), _, _, rfl, rfl, _, rfl, d, _, rfl, DPut.k (k := Sum.inr "turn") hd' (flt (by show 4 < 100000; decide)), ?_⟩
      rw [put_turn]
      generalize e2 : upd H' d (.dK (src4 (.ref ca) (.int left') (.int mixed') (.int (turn' + 1)))) = H2
      have hd2 : H2 d = some (.dK (src4 (.ref ca) (.int left') (.int mixed') (.int (turn' + 1)))) := by
        rw [← e2]
        exact upd_same
      refine ⟨_, rfl, d, _, rfl, dg hd2 (src_mixed _ _ _ _), _, rfl, d, _, rfl, dg hd2 (src_turn _ _ _ _), _, _, rfl, rfl, .inr ⟨by decide, by decide⟩, _, _, rfl, rfl, .inl ⟨_, rfl, _, _, rfl, rfl, by show (0 : Int) < 998244353; decide, ?_⟩⟩
      have b0 := Int.emod_nonneg (mixed' + (turn' + 1) * 104729) (show (998244353 : Int) ≠ 0 by decide)
      have b1 := Int.emod_lt_of_pos (mixed' + (turn' + 1) * 104729) (show (0 : Int) < 998244353 by decide)
      have hm1 : CMul ((mixed' + (turn' + 1) * 104729) % 998244353) ((mixed' + (turn' + 1) * 104729) % 998244353) := .inl ⟨by omega, by omega⟩
      refine ⟨_, rfl, _, rfl, _, _, rfl, rfl, hm1, _, rfl, d, _, rfl, dg hd2 (src_turn _ _ _ _), _, _, rfl, rfl, .inr ⟨by decide, by decide⟩, _, _, rfl, rfl, .inl ⟨_, rfl, _, _, rfl, rfl, by show (0 : Int) < 2147483647; decide, ?_⟩⟩
      refine ⟨_, rfl, _, _, rfl, rfl, ⟨by decide, by decide⟩, .inl ⟨_, rfl, _, rfl, _, _, rfl, rfl, by omega, ?_⟩⟩
      obtain ⟨i, hi, ei⟩ := emod_iv (x := ((mixed' + (turn' + 1) * 104729) % 998244353 * ((mixed' + (turn' + 1) * 104729) % 998244353) + (turn' + 1) * 17) % 2147483647 / 16) h1
      have z := q i H2 hi (by rw [← e2]; exact e1.d) ⟨hdc, cells', _, _, _, hd2, by
        rw [← e2, upd_ne hdc.symm]
        exact hca'⟩
      unfold iv at z
      rw [← ei] at z
      exact z
/-! _law_of -/
def spOf : Sp := fun vs H Q _ => ∃ (d ca la : Addr) (xs : List V), vs = [.ref d, .ref la] ∧ la ≠ ca ∧ la ≠ d ∧ H la = some (.lst xs) ∧ 1 ≤ xs.length ∧ xs.length ≤ 10000 ∧ SrcAt H d ca ∧ ∀ (i : Nat) v H', xs[i]? = some v → But2 d ca H H' → SrcAt H' d ca → Q v H'
theorem scOf : FnScope ["_law_source_here", "_law_some"] ["_law_source_here", "_law_some"] (defScope sOf) := ⟨rfl, rfl, rfl, by decide +kernel, rfl, by decide +kernel, by decide +kernel⟩
theorem ok_of {f : Addr} {fd : FuncData} (F : Fun K "_law_of" "_law_of" sOf f fd) (T : Txt K mg C) (cP : CallOk P w K mg base "_law_pick" 1 ["_law_source_here", "_law_many"] spPick) : FnOk P w K mg base CX0 2 f fd ["_law_source_here", "_law_some"] spOf := by
  refine F.ok scOf (fun vs H Q E h => ?_) (fun cdv A outer s H vs Q E hr h => ?_)
  · obtain ⟨d, ca, la, xs, rfl, _⟩ := h
    rfl
  · obtain ⟨d, ca, la, xs, rfl, hlc, hld, hla, h1, hm, hs, q⟩ := h
    refine ⟨_, pss_one (ps_ret (pe_ix ix_list (pv 1) (pcall cP hr (pa_cons (pv 0) (pa_cons (pe_callB call_len_seq (by rfl) T.len PySem.boot_len (pa_cons (pv 1) pa_nil)) pa_nil))) (fun _ _ => rfl))), ?_⟩
    refine ⟨_, rfl, _, rfl, _, rfl, la, _, rfl, .inl (SqL.of hla), ?_⟩
    refine ⟨d, ca, xs.length, rfl, h1, hm, hs, fun i H' hi e s' => ?_⟩
    have hx : xs[i]? = some xs[i] := List.getElem?_eq_getElem hi
    refine ⟨la, xs, (i : Int), xs[i], rfl, rfl, SqL.of (e la _ hld hlc hla), atI_nat hx, ?_⟩
    exact q i _ H' hx e s'
end
end Cn

set_option Elab.async false
set_option maxRecDepth 100000
namespace Cn
open PySem PySem.Spec PyProof.Rows L2 XR
theorem wInts : ∀ ns : List Int, (∀ n ∈ ns, 0 ≤ n ∧ n ≤ 1000) → PyData.weightAll (ns.map PyData.int) ≤ 1010 * ns.length
  | [], _ => by simp [PyData.weightAll]
  | n :: l, h => by
    have h1 := wInts l fun m hm => h m (List.mem_cons_of_mem _ hm)
    have h2 := h n List.mem_cons_self
    have h3 : n.natAbs.log2 ≤ n.natAbs := Nat.log2_le_self _
    simp only [List.map_cons, PyData.weightAll, PyData.weight, List.length_cons]
    split <;> omega
theorem layInts : ∀ ns : List Int, PyData.canLayAll0 (ns.map PyData.int) = true
  | [] => rfl
  | n :: l => by simp only [List.map_cons, PyData.canLayAll0, PyData.canLay0, layInts l, Bool.and_self]
theorem depthInts : ∀ ns : List Int, PyData.depthAll (ns.map PyData.int) = 0
  | [] => rfl
  | n :: l => by simp [PyData.depthAll, PyData.depth, depthInts l]
theorem shownL {ns : List Int} (hl : ns.length ≤ 100) (h : ∀ n ∈ ns, 0 ≤ n ∧ n ≤ 1000) : (PyData.list (ns.map PyData.int)).shown.length ≤ sizeLine := by
  refine Nat.le_trans (shown_le13 ?_ ?_) (by decide)
  · have h1 := layInts ns
    have h2 := depthInts ns
    have h3 := wInts ns h
    simp only [PyData.layable0, PyData.canLay0, PyData.depth, PyData.weight, h1, h2, Bool.and_eq_true, decide_eq_true_eq]
    refine ⟨⟨trivial, by decide⟩, ?_⟩
    have h4 : 1010 * ns.length ≤ 1010 * 100 := Nat.mul_le_mul_left 1010 hl
    have h5 : 1010 * 100 ≤ 2 ^ 20 := by decide
    exact decide_eq_true (Nat.le_trans h3 (Nat.le_trans h4 h5))
  · simp only [PyData.intsShort]
    exact intsShortAll_ints2 ns fun n hn => by
      have := h n hn
      omega
theorem log2S {n : Int} (h : 0 ≤ n ∧ n ≤ 1000) : n.natAbs.log2 < 1920 := by
  have h1 : n.natAbs ≤ 1000 := by omega
  have h2 : n.natAbs.log2 ≤ n.natAbs := Nat.log2_le_self _
  omega
theorem All2.last {α β : Type} {R : α → β → Prop} {xs : List α} {ys : List β} {y : β} (h : All2 R xs (ys ++ [y])) : ∃ xs0 x, xs = xs0 ++ [x] ∧ All2 R xs0 ys ∧ R x y := by
  have hl := h.1
  rw [List.length_append] at hl
  have hl2 : xs.length = ys.length + 1 := hl
  have hy : (ys ++ [y])[ys.length]? = some y := by simp
  obtain ⟨x, hx, r⟩ := h.at' hy
  refine ⟨xs.take ys.length, x, ?_, ?_, r⟩
  · have z := List.take_add_one (l := xs) (i := ys.length)
    rw [hx, List.take_of_length_le (by omega)] at z
    exact z
  · have z := h.take ys.length
    rw [List.take_left'] at z
    · exact z
    · rfl
theorem All2.head {α β : Type} {R : α → β → Prop} {xs : List α} {ys : List β} {y : β} (h : All2 R xs (y :: ys)) : ∃ x xs0, xs = x :: xs0 ∧ R x y ∧ All2 R xs0 ys := by
  cases xs with
  | nil =>
    have := h.1
    simp at this
  | cons x xs0 => exact ⟨x, xs0, rfl, h.tail.1, h.tail.2⟩
theorem cut_init (ys : List V) (v : V) : cutV (ys ++ [v]) none (some (-1)) = ys := by
  unfold cutV
  have e1 : HT.sIx (ys ++ [v]).length (ys ++ [v]).length (some (-1)) = ys.length := by
    rw [List.length_append]
    show (if (-1 : Int) < 0 then ((-1 : Int) + ((ys.length + 1 : Nat) : Int)).toNat else min (-1 : Int).toNat (ys.length + 1)) = _
    rw [if_pos (by decide)]
    show ((-1 : Int) + ((ys.length + 1 : Nat) : Int)).toNat = _
    omega
  rw [e1, HT.sIx_none, List.drop_zero, Nat.sub_zero, List.take_left']
  rfl
theorem cut_tail (ys : List V) (v : V) : cutV (v :: ys) (some 1) none = ys := by
  unfold cutV
  have e1 : HT.sIx (v :: ys).length 0 (some 1) = 1 := by
    have := HT.sIx_nat (v :: ys).length 0 1
    rw [List.length_cons] at this ⊢
    rw [show (some 1 : Option Int) = some ((1 : Nat) : Int) from rfl, this]
    omega
  rw [e1, HT.sIx_none, List.drop_one, List.tail_cons, List.length_cons, Nat.add_sub_cancel, List.take_length]
theorem srtOk_of {r : List Code} (h : ((r.all fun c => decide (c ≠ [])) || decide (r.length < 2)) = true) : SrtOk r := by
  rw [Bool.or_eq_true] at h
  rcases h with h | h
  · rw [List.all_eq_true] at h
    exact .inl fun c hc => of_decide_eq_true (h c hc)
  · exact .inr (of_decide_eq_true h)
theorem outOf_flt (l : List Code) (kp : Code → Bool) {n : Nat} (hn : n = l.length) : outOf n (fun i => kp (l.getD i [])) (fun i => l.getD i []) = l.filter kp := by
  have z := outOf_filter l [] kp (fun c => c) hn
  rw [List.map_id'] at z
  exact z
theorem outOf_map (l : List Code) (f : Code → Int) {n : Nat} (hn : n = l.length) : outOf n (fun _ => true) (fun i => f (l.getD i [])) = l.map f := by
  have z := outOf_filter l [] (fun _ => true) f hn
  rw [List.filter_eq_self.mpr (fun _ _ => rfl)] at z
  exact z
end Cn

set_option Elab.async false
set_option linter.all false
set_option maxRecDepth 100000
set_option maxHeartbeats 0
namespace Cn
/-! the same, in an order that forces each entry: for the kernel's own reckoning -/
def frN {α : Type} (x : Nat) (k : Nat → α) : α := Nat.rec (k 0) (fun m _ => k (m + 1)) x
theorem frN_eq {α : Type} (x : Nat) (k : Nat → α) : frN x k = k x := by cases x <;> rfl
def frR {α : Type} : List Nat → (List Nat → α) → α
  | [], k => k []
  | x :: l, k => frN x fun y => frR l fun r => k (y :: r)
theorem frR_eq {α : Type} : ∀ (l : List Nat) (k : List Nat → α), frR l k = k l
  | [], _ => rfl
  | x :: l, k => by
    rw [frR, frN_eq, frR_eq l]
def frC {α : Type} : List (List Nat) → (List (List Nat) → α) → α
  | [], k => k []
  | x :: l, k => frR x fun y => frC l fun r => k (y :: r)
theorem frC_eq {α : Type} : ∀ (l : List (List Nat)) (k : List (List Nat) → α), frC l k = k l
  | [], _ => rfl
  | x :: l, k => by
    rw [frC, frR_eq, frC_eq l]
def foldR (f : Row → Row → Option Row) : Row → List Row → Option Row
  | b, [] => some b
  | b, x :: l => match f b x with
    | none => none
    | some c => frR c fun c => foldR f c l
theorem foldR_eq (f : Row → Row → Option Row) : ∀ (l : List Row) (b : Row), foldR f b l = foldO f b l
  | [], _ => rfl
  | x :: l, b => by
    rw [foldR, foldO]
    cases f b x with
    | none => rfl
    | some c =>
      show frR c _ = _
      rw [frR_eq, foldR_eq f l]
def foldC {α : Type} (f : List Row → α → Option (List Row)) : List Row → List α → Option (List Row)
  | b, [] => some b
  | b, x :: l => match f b x with
    | none => none
    | some c => frC c fun c => foldC f c l
theorem foldC_eq {α : Type} (f : List Row → α → Option (List Row)) : ∀ (l : List α) (b : List Row), foldC f b l = foldO f b l
  | [], _ => rfl
  | x :: l, b => by
    rw [foldC, foldO]
    cases f b x with
    | none => rfl
    | some c =>
      show frC c _ = _
      rw [frC_eq, foldC_eq f l]
def withoutF (p : Nat) (row : Row) (base : List Row) : Option Row := foldR (off p) row base
theorem withoutF_eq (p : Nat) (row : Row) (base : List Row) : withoutF p row base = without p row base := foldR_eq _ _ _
def stepF (p : Nat) (found : List Row) (row : Row) : Option (List Row) :=
  (withoutF p row found).bind fun left => match pivot left with
    | none => some found
    | some c => (getE left c).bind fun e => (inv p e).bind fun i => frR (scaled p i left) fun s => (mapO (fun own => off p own s) found).bind fun f =>
      match pivot s with
      | none => none
      | some _ => some (f ++ [s])
theorem stepF_eq (p : Nat) : stepF p = step p := by
  funext found row
  unfold stepF step
  rw [withoutF_eq]
  congr 1
  funext left
  cases pivot left with
  | none => rfl
  | some c =>
    show (getE left c).bind _ = (getE left c).bind _
    congr 1
    funext e
    congr 1
    funext i
    exact (frR_eq _ _).trans (congrArg _ (funext fun f => by cases pivot (scaled p i left) <;> rfl))
def reducedF (p : Nat) (rows : List Row) : Option Code := (foldC (stepF p) [] rows).bind fun f => frC (sortDown f) fun s => some s
theorem reducedF_eq (p : Nat) (rows : List Row) : reducedF p rows = reduced p rows := by
  unfold reducedF reduced
  rw [foldC_eq, stepF_eq]
  congr 1
  funext f
  rw [frC_eq]
def isInF (p n : Nat) (code : Code) (row : Row) : Option Bool := (withoutF p row code).bind fun r => some (decide (r = zero n))
theorem isInF_eq (p n : Nat) (code : Code) : isInF p n code = isIn p n code := by
  funext row
  unfold isInF isIn
  rw [withoutF_eq]
def isWithinF (p n : Nat) (one other : Code) : Option Bool := (mapO (isInF p n other) one).bind fun bs => some (bs.all id)
theorem isWithinF_eq (p n : Nat) (one other : Code) : isWithinF p n one other = isWithin p n one other := by
  unfold isWithinF isWithin
  rw [isInF_eq]
def commonF (p n : Nat) (one other : Code) : Option Code :=
  frC (one.map (fun r => r ++ r)) fun w1 => frC (other.map (fun r => r ++ zero n)) fun w2 =>
  (reducedF p (w1 ++ w2)).bind fun red => (mapO pivot red).bind fun _ =>
    frC ((red.filter fun r => decide (n ≤ (pivot r).getD 0)).map (List.drop n)) fun late => reducedF p late
theorem commonF_eq (p n : Nat) (one other : Code) : commonF p n one other = common p n one other := by
  unfold commonF common
  rw [frC_eq, frC_eq, reducedF_eq]
  congr 1
  funext red
  congr 1
  funext _
  rw [frC_eq, reducedF_eq]
def joinedF (p : Nat) (one other : Code) : Option Code := reducedF p (one ++ other)
theorem joinedF_eq (p : Nat) (one other : Code) : joinedF p one other = joined p one other := reducedF_eq _ _
def combinedF (p n : Nat) (numbers : Row) (rows : List Row) : Option Row := (foldO (combStep p) (zero n) (numbers.zip rows)).bind fun r => frR r fun r => some r
theorem combinedF_eq (p n : Nat) (numbers : Row) (rows : List Row) : combinedF p n numbers rows = combined p n numbers rows := by
  unfold combinedF combined
  cases foldO (combStep p) (zero n) (numbers.zip rows) with
  | none => rfl
  | some r => exact frR_eq _ _
def liftF (p n : Nat) (low : Code) (base : List Row) (code : Code) : Option Code := (mapO (fun ns => combinedF p n ns base) code).bind fun cs => frC cs fun cs => reducedF p (low ++ cs)
theorem liftF_eq (p n : Nat) (low : Code) (base : List Row) : liftF p n low base = lift p n low base := by
  funext code
  unfold liftF lift
  simp only [combinedF_eq, frC_eq, reducedF_eq]
def baseOfF (p : Nat) (low high : Code) : Option Code := (mapO (fun r => withoutF p r low) high).bind fun l => frC l fun l => reducedF p l
theorem baseOfF_eq (p : Nat) (low high : Code) : baseOfF p low high = baseOf p low high := by
  unfold baseOfF baseOf
  simp only [withoutF_eq, frC_eq, reducedF_eq]
def frCs {α : Type} : List Code → (List Code → α) → α
  | [], k => k []
  | x :: l, k => frC x fun y => frCs l fun r => k (y :: r)
theorem frCs_eq {α : Type} : ∀ (l : List Code) (k : List Code → α), frCs l k = k l
  | [], _ => rfl
  | x :: l, k => by
    rw [frCs, frC_eq, frCs_eq l]
def allCodesF (p n more : Nat) : List Code := (allCodes p n more)
def codesOfRankF (p n : Nat) (low high : Code) (more : Nat) : Option (List Code) :=
  (baseOfF p low high).bind fun base => frN base.length fun b => frN more fun m => frCs (allCodes p b m) fun cs => (mapO (liftF p n low base) cs).bind fun l => frCs (sortUp l) fun s => some s
theorem codesOfRankF_eq (p n : Nat) (low high : Code) : codesOfRankF p n low high = codesOfRank p n low high := by
  funext more
  unfold codesOfRankF codesOfRank
  simp only [baseOfF_eq, liftF_eq, frCs_eq, frN_eq]
end Cn

set_option Elab.async false
set_option linter.all false
set_option maxRecDepth 100000
set_option maxHeartbeats 0
namespace Cn
def wv (p n : Nat) (a b : Code) : Bool := (isWithin p n a b).getD false
def belowOf (p n : Nat) (ev : List Code) (one other : Code) : List Code := ev.filter fun c => wv p n c one && wv p n c other
def aboveOf (p n : Nat) (ev : List Code) (one other : Code) : List Code := ev.filter fun c => wv p n one c && wv p n other c
def rowsOf (p n : Nat) (ev : List Code) (low high : Code) : List Code := ev.filter fun c => wv p n low c && wv p n c high
def dueOf (n : Nat) (rows : List Code) : List Code := (List.range (n + 1)).flatMap fun k => sortUp (rows.filter fun c => decide (c.length = k))
def srtB (res : List Code) : Bool := (res.all fun c => decide (c ≠ [])) || decide (res.length < 2)
structure PairOk (p n : Nat) (ev : List Code) (low high : Code) : Prop where
  le : low.length ≤ high.length
  all : allBetween p n low high = some (dueOf n (rowsOf p n ev low high))
  one : codesOfRank p n low high 1 = some ((dueOf n (rowsOf p n ev low high)).filter fun c => decide (c.length = low.length + 1))
  cnt : ∀ k, k < n + 1 → countBetween p n low high k = some ((dueOf n (rowsOf p n ev low high)).filter fun c => decide (c.length = k)).length
  srt : ∀ more r, more < high.length + 1 - low.length → codesOfRank p n low high more = some r → srtB r = true
  srt1 : ∀ r, codesOfRank p n low high 1 = some r → srtB r = true
  base : ∀ b, baseOf p low high = some b → b.length ≤ n
  small : (dueOf n (rowsOf p n ev low high)).length ≤ 1000
structure LapOk (p n : Nat) (ev : List Code) (one other low high : Code) : Prop where
  hlow : (belowOf p n ev one other).getLast? = some low
  hhigh : (aboveOf p n ev one other).head? = some high
  com : common p n one other = some low
  joi : joined p one other = some high
  lows : ∀ c ∈ (belowOf p n ev one other).dropLast, c.length < low.length
  highs : ∀ c ∈ (aboveOf p n ev one other).tail, high.length < c.length
  nine : high.length < 9
  win : isWithin p n low high = some true
structure GrOk (p n : Nat) (ev : List Code) : Prop where
  hev : every p n = ev
  ne : 0 < ev.length
  len : ev.length ≤ 100
  rank : ∀ c ∈ ev, c.length ≤ 4
  rows : ∀ c ∈ ev, ∀ r ∈ c, r.length ≤ 4
  emp : (ev.filter fun c => decide (c.length = 0)).length < 2
  win : ∀ a ∈ ev, ∀ b ∈ ev, isWithin p n a b = some (wv p n a b)
  comp : ∀ a ∈ ev, ∃ c, complement n a = some c ∧ c.length + a.length = n ∧ c ∈ ev
  lap : ∀ a ∈ ev, ∀ b ∈ ev, ∃ low high, LapOk p n ev a b low high
  pair : ∀ a ∈ ev, ∀ b ∈ ev, isWithin p n a b = some true → PairOk p n ev a b
/-! the table of who lies within whom -/
def maskOf (f : Code → Bool) : List Code → Nat
  | [] => 0
  | c :: l => (if f c = true then 1 else 0) + 2 * maskOf f l
def selM : List Code → Nat → Nat → List Code
  | [], _, _ => []
  | c :: l, a, b => if (a % 2 == 1 && b % 2 == 1) = true then c :: selM l (a / 2) (b / 2) else selM l (a / 2) (b / 2)
theorem selM_mask (f g : Code → Bool) : ∀ l : List Code, selM l (maskOf f l) (maskOf g l) = l.filter fun c => f c && g c
  | [] => rfl
  | c :: l => by
    have e1 : maskOf f (c :: l) / 2 = maskOf f l := by
      rw [maskOf]
      split <;> omega
    have e2 : maskOf g (c :: l) / 2 = maskOf g l := by
      rw [maskOf]
      split <;> omega
    have e3 : (maskOf f (c :: l) % 2 == 1) = f c := by
      rw [maskOf]
      cases f c <;> simp
    have e4 : (maskOf g (c :: l) % 2 == 1) = g c := by
      rw [maskOf]
      cases g c <;> simp
    unfold selM
    rw [e1, e2, e3, e4, selM_mask f g l, List.filter_cons]
abbrev Line := Code × Nat × Nat
def wvF (p n : Nat) (a b : Code) : Bool := (isWithinF p n a b).getD false
def lineOf (p n : Nat) (ev : List Code) (c : Code) : Line := (c, maskOf (fun d => wvF p n d c) ev, maskOf (fun d => wvF p n c d) ev)
def ckWin (p n : Nat) (ev : List Code) : Bool := ev.all fun a => ev.all fun b => (isWithinF p n a b).isSome
def ckOne (n : Nat) (ev : List Code) : Bool := ev.all fun a => decide (a.length ≤ 4) && (a.all fun r => decide (r.length ≤ 4)) && match complement n a with
  | none => false
  | some c => decide (c.length + a.length = n) && decide (c ∈ ev)
/-- the same table, by places -/
def bitAt (m i : Nat) : Bool := Nat.beq (Nat.mod (Nat.shiftRight m i) 2) 1
theorem bitAt_mask (f : Code → Bool) : ∀ (l : List Code) (i : Nat) (c : Code), l[i]? = some c → bitAt (maskOf f l) i = f c
  | c :: l, 0, d, h => by
    cases h
    show Nat.beq (maskOf f (c :: l) % 2) 1 = f c
    rw [maskOf]
    cases f c
    · rw [show ((if false = true then 1 else 0) + 2 * maskOf f l) % 2 = 0 by simp]
      rfl
    · rw [show ((if true = true then 1 else 0) + 2 * maskOf f l) % 2 = 1 by simp]
      rfl
  | c :: l, i + 1, d, h => by
    have e1 : maskOf f (c :: l) / 2 = maskOf f l := by
      rw [maskOf]
      split <;> omega
    show Nat.beq ((maskOf f (c :: l) >>> (i + 1)) % 2) 1 = f d
    rw [Nat.shiftRight_succ_inside, e1]
    exact bitAt_mask f l i d h
def placed (ev : List Code) (m : Nat) : List (Code × Nat) := ev.zipIdx.filter fun q => bitAt m q.2
def pick (D : List (Code × Nat)) (m : Nat) : List Code := (D.filter fun q => bitAt m q.2).map (·.1)
theorem pick_placed (f g : Code → Bool) (ev : List Code) : pick (placed ev (maskOf f ev)) (maskOf g ev) = ev.filter fun c => f c && g c := by
  unfold pick placed
  rw [List.filter_filter]
  have e : ∀ q ∈ ev.zipIdx, (bitAt (maskOf g ev) q.2 && bitAt (maskOf f ev) q.2) = (f q.1 && g q.1) := by
    intro q hq
    have h := List.mem_zipIdx_iff_getElem?.1 hq
    rw [bitAt_mask g ev _ _ h, bitAt_mask f ev _ _ h, Bool.and_comm]
  rw [List.filter_congr e]
  have z := List.filter_map (f := fun q : Code × Nat => q.1) (p := fun c => f c && g c) (l := ev.zipIdx)
  rw [List.zipIdx_map_fst] at z
  exact z.symm
def frZ {α : Type} : List (Code × Nat) → (List (Code × Nat) → α) → α
  | [], k => k []
  | (x, i) :: l, k => frC x fun y => frN i fun i => frZ l fun r => k ((y, i) :: r)
theorem frZ_eq {α : Type} : ∀ (l : List (Code × Nat)) (k : List (Code × Nat) → α), frZ l k = k l
  | [], _ => rfl
  | (x, i) :: l, k => by
    rw [frZ, frC_eq, frN_eq, frZ_eq l]
def ckLap (p n : Nat) (D U : List (Code × Nat)) (one : Code) (y : Line) : Bool := match (pick D y.2.1).getLast?, (pick U y.2.2).head? with
  | some low, some high => decide (commonF p n one y.1 = some low) && decide (joinedF p one y.1 = some high) && ((pick D y.2.1).dropLast.all fun c => Nat.blt c.length low.length) && ((pick U y.2.2).tail.all fun c => Nat.blt high.length c.length) &&
    decide (high.length < 9) && decide (isWithinF p n low high = some true)
  | _, _ => false
def ckLaps (p n : Nat) (ev : List Code) (tb : List Line) (x : Line) : Bool := frZ (placed ev x.2.1) fun D => frZ (placed ev x.2.2) fun U => tb.all fun y => ckLap p n D U x.1 y
def countBetweenF (p n : Nat) (low high : Code) (rank : Nat) : Option Nat :=
  (isWithinF p n low high).bind fun b => some (if b = true then (if rank < low.length then 0 else gauss p (high.length - low.length) (rank - low.length)) else 0)
def ckDue (p n : Nat) (low high : Code) (due : List Code) : Bool := decide (low.length ≤ high.length) &&
  (match mapO (codesOfRankF p n low high) (List.range (high.length + 1 - low.length)) with
  | none => false
  | some ls => decide (ls.flatten = due) && ls.all srtB) &&
  (match codesOfRankF p n low high 1 with
  | none => false
  | some r => decide (r = due.filter fun c => decide (c.length = low.length + 1)) && srtB r) &&
  ((List.range (n + 1)).all fun k => decide (countBetweenF p n low high k = some (due.filter fun c => decide (c.length = k)).length)) &&
  (match baseOfF p low high with
  | none => true
  | some b => decide (b.length ≤ n)) && decide (due.length ≤ 1000)
def ckPair (p n : Nat) (ev : List Code) (x y : Line) : Bool := match isWithinF p n x.1 y.1 with
  | some true => frCs (dueOf n (selM ev x.2.2 y.2.1)) fun due => ckDue p n x.1 y.1 due
  | _ => true
end Cn

set_option Elab.async false
set_option linter.all false
set_option maxRecDepth 100000
set_option maxHeartbeats 0
namespace Cn
theorem wvF_eq (p n : Nat) (a b : Code) : wvF p n a b = wv p n a b := by
  unfold wvF wv
  rw [isWithinF_eq]
theorem countBetweenF_eq (p n : Nat) (low high : Code) (r : Nat) : countBetweenF p n low high r = countBetween p n low high r := by
  unfold countBetweenF countBetween
  rw [isWithinF_eq]
def ckZ (ev : List Code) : Bool := decide (0 < ev.length) && decide (ev.length ≤ 100) && decide ((ev.filter fun c => decide (c.length = 0)).length < 2)
theorem lineOf_eq (p n : Nat) (ev : List Code) (c : Code) : lineOf p n ev c = (c, maskOf (fun d => wv p n d c) ev, maskOf (fun d => wv p n c d) ev) := by
  unfold lineOf
  simp only [wvF_eq]
theorem mapO_pos {α β : Type} {f : α → Option β} : ∀ {l : List α} {r : List β}, mapO f l = some r → ∀ (i : Nat) (x : α), l[i]? = some x → ∃ y, f x = some y ∧ r[i]? = some y
  | [], _, _, i, x, hx => by cases hx
  | a :: l, r, h, i, x, hx => by
    unfold mapO at h
    cases e1 : f a with
    | none =>
      rw [e1] at h
      cases h
    | some y =>
      rw [e1] at h
      cases e2 : mapO f l with
      | none =>
        rw [e2] at h
        cases h
      | some r' =>
        rw [e2] at h
        cases h
        cases i with
        | zero =>
          cases hx
          exact ⟨y, e1, rfl⟩
        | succ i => exact mapO_pos e2 i x hx
theorem lap_of {p n : Nat} {ev : List Code} {a b : Code} (h : ckLap p n (placed ev (maskOf (fun d => wv p n d a) ev)) (placed ev (maskOf (fun d => wv p n a d) ev)) a (lineOf p n ev b) = true) : ∃ low high, LapOk p n ev a b low high := by
  rw [lineOf_eq] at h
  unfold ckLap at h
  dsimp only at h
  rw [pick_placed, pick_placed] at h
  cases e1 : (ev.filter fun c => wv p n c a && wv p n c b).getLast? with
  | none =>
    rw [e1] at h
    cases h
  | some low =>
    cases e2 : (ev.filter fun c => wv p n a c && wv p n b c).head? with
    | none =>
      rw [e1, e2] at h
      cases h
    | some high =>
      rw [e1, e2] at h
      simp only [Bool.and_eq_true, decide_eq_true_eq, List.all_eq_true] at h
      obtain ⟨⟨⟨⟨⟨h1, h2⟩, h3⟩, h4⟩, h5⟩, h6⟩ := h
      refine ⟨low, high, e1, e2, (commonF_eq _ _ _ _).symm.trans h1, (joinedF_eq _ _ _).symm.trans h2, fun c hc => ?_, fun c hc => ?_, h5, (isWithinF_eq _ _ _ _).symm.trans h6⟩
      · have z := h3 c hc
        exact Nat.le_of_ble_eq_true z
      · have z := h4 c hc
        exact Nat.le_of_ble_eq_true z
theorem pair_of {p n : Nat} {ev : List Code} {a b : Code} (hw : isWithin p n a b = some true) (h : ckPair p n ev (lineOf p n ev a) (lineOf p n ev b) = true) : PairOk p n ev a b := by
  rw [lineOf_eq, lineOf_eq] at h
  unfold ckPair at h
  dsimp only at h
  rw [isWithinF_eq, hw, selM_mask] at h
  dsimp only at h
  rw [frCs_eq] at h
  unfold ckDue at h
  change (_ && _) = true at h
  simp only [Bool.and_eq_true, decide_eq_true_eq] at h
  obtain ⟨⟨⟨⟨⟨h1, h2⟩, h3⟩, h4⟩, h5⟩, h6⟩ := h
  rw [codesOfRankF_eq] at h2 h3
  rw [baseOfF_eq] at h5
  have hd : dueOf n (ev.filter fun c => wv p n a c && wv p n c b) = dueOf n (rowsOf p n ev a b) := rfl
  rw [hd] at h2 h3 h4 h6
  cases e2 : mapO (codesOfRank p n a b) (List.range (b.length + 1 - a.length)) with
  | none =>
    rw [e2] at h2
    cases h2
  | some ls =>
    rw [e2] at h2
    simp only [Bool.and_eq_true, decide_eq_true_eq, List.all_eq_true] at h2
    cases e3 : codesOfRank p n a b 1 with
    | none =>
      rw [e3] at h3
      cases h3
    | some r1 =>
      rw [e3] at h3
      simp only [Bool.and_eq_true, decide_eq_true_eq] at h3
      refine ⟨h1, ?_, ?_, fun k hk => ?_, fun more r hm hr => ?_, fun r hr => ?_, fun bb hb => ?_, h6⟩
      · unfold allBetween
        rw [e2, ← h2.1]
        rfl
      · rw [e3, ← h3.1]
      · rw [List.all_eq_true] at h4
        have z := h4 k (List.mem_range.2 hk)
        rw [← countBetweenF_eq]
        exact of_decide_eq_true z
      · obtain ⟨y, hy, hl⟩ := mapO_pos e2 more more (by rw [List.getElem?_range hm])
        rw [hr] at hy
        cases hy
        exact h2.2 r (List.mem_of_getElem? hl)
      · rw [e3] at hr
        cases hr
        exact h3.2
      · rw [hb] at h5
        exact of_decide_eq_true h5
theorem grOk_of {p n : Nat} {ev : List Code} {tb : List Line} (he : every p n = ev) (hw : ckWin p n ev = true) (ht : ev.map (lineOf p n ev) = tb) (ho : ckOne n ev = true) (hl : (tb.all fun x => ckLaps p n ev tb x) = true) (hq : (tb.all fun x => tb.all fun y => ckPair p n ev x y) = true) (hz : ckZ ev = true) : GrOk p n ev := by
  subst ht
  unfold ckZ at hz
  simp only [Bool.and_eq_true, decide_eq_true_eq] at hz
  unfold ckWin at hw
  unfold ckOne at ho
  simp only [List.all_eq_true] at hw ho hl hq
  have hm : ∀ a ∈ ev, lineOf p n ev a ∈ ev.map (lineOf p n ev) := fun a ha => List.mem_map_of_mem ha
  have ho' : ∀ a ∈ ev, a.length ≤ 4 ∧ (∀ r ∈ a, r.length ≤ 4) ∧ ∃ c, complement n a = some c ∧ c.length + a.length = n ∧ c ∈ ev := by
    intro a ha
    have z := ho a ha
    simp only [Bool.and_eq_true, decide_eq_true_eq, List.all_eq_true] at z
    obtain ⟨⟨z1, z2⟩, z3⟩ := z
    refine ⟨z1, z2, ?_⟩
    cases e : complement n a with
    | none =>
      rw [e] at z3
      cases z3
    | some c =>
      rw [e] at z3
      simp only [Bool.and_eq_true, decide_eq_true_eq] at z3
      exact ⟨c, rfl, z3.1, z3.2⟩
  refine ⟨he, hz.1.1, hz.1.2, fun a ha => (ho' a ha).1, fun a ha => (ho' a ha).2.1, hz.2, fun a ha b hb => ?_, fun a ha => (ho' a ha).2.2, fun a ha b hb => ?_, fun a ha b hb hab => ?_⟩
  · have z := hw a ha b hb
    rw [isWithinF_eq] at z
    unfold wv
    cases e : isWithin p n a b with
    | none =>
      rw [e] at z
      cases z
    | some _ => rfl
  · have z := hl _ (hm a ha)
    rw [lineOf_eq] at z
    unfold ckLaps at z
    dsimp only at z
    rw [frZ_eq, frZ_eq] at z
    rw [List.all_eq_true] at z
    exact lap_of (z _ (hm b hb))
  · exact pair_of hab (hq _ (hm a ha) _ (hm b hb))
theorem all_cut {α : Type} {f : α → Bool} {l : List α} (k : Nat) (h1 : (l.take k).all f = true) (h2 : (l.drop k).all f = true) : l.all f = true := by
  rw [← List.take_append_drop k l, List.all_append, h1, h2]
  rfl
end Cn

set_option Elab.async false
set_option linter.all false
set_option maxRecDepth 100000
set_option maxHeartbeats 0
namespace Cn
def ev2_0 : List Code := [[]]
def tb2_0 : List Line := [([], (1, 1))]
theorem e2_0 : every 2 0 = ev2_0 := by decide +kernel
theorem w2_0 : ckWin 2 0 ev2_0 = true := by decide +kernel
theorem t2_0 : ev2_0.map (lineOf 2 0 ev2_0) = tb2_0 := by decide +kernel
theorem o2_0 : ckOne 0 ev2_0 = true := by decide +kernel
theorem z2_0 : ckZ ev2_0 = true := by decide +kernel
theorem l2_0 : (tb2_0.all fun x => ckLaps 2 0 ev2_0 tb2_0 x) = true := by decide +kernel
theorem q2_0 : (tb2_0.all fun x => tb2_0.all fun y => ckPair 2 0 ev2_0 x y) = true := by decide +kernel
theorem gr2_0 : GrOk 2 0 ev2_0 := grOk_of e2_0 w2_0 t2_0 o2_0 l2_0 q2_0 z2_0
def ev2_1 : List Code := [[], [[1]]]
def tb2_1 : List Line := [([], (1, 3)), ([[1]], (3, 2))]
theorem e2_1 : every 2 1 = ev2_1 := by decide +kernel
theorem w2_1 : ckWin 2 1 ev2_1 = true := by decide +kernel
theorem t2_1 : ev2_1.map (lineOf 2 1 ev2_1) = tb2_1 := by decide +kernel
theorem o2_1 : ckOne 1 ev2_1 = true := by decide +kernel
theorem z2_1 : ckZ ev2_1 = true := by decide +kernel
theorem l2_1 : (tb2_1.all fun x => ckLaps 2 1 ev2_1 tb2_1 x) = true := by decide +kernel
theorem q2_1 : (tb2_1.all fun x => tb2_1.all fun y => ckPair 2 1 ev2_1 x y) = true := by decide +kernel
theorem gr2_1 : GrOk 2 1 ev2_1 := grOk_of e2_1 w2_1 t2_1 o2_1 l2_1 q2_1 z2_1
def ev2_2 : List Code := [[], [[1, 0]], [[1, 1]], [[0, 1]], [[1, 0], [0, 1]]]
def tb2_2 : List Line := [([], (1, 31)), ([[1, 0]], (3, 18)), ([[1, 1]], (5, 20)), ([[0, 1]], (9, 24)), ([[1, 0], [0, 1]], (31, 16))]
theorem e2_2 : every 2 2 = ev2_2 := by decide +kernel
theorem w2_2 : ckWin 2 2 ev2_2 = true := by decide +kernel
theorem t2_2 : ev2_2.map (lineOf 2 2 ev2_2) = tb2_2 := by decide +kernel
theorem o2_2 : ckOne 2 ev2_2 = true := by decide +kernel
theorem z2_2 : ckZ ev2_2 = true := by decide +kernel
theorem l2_2 : (tb2_2.all fun x => ckLaps 2 2 ev2_2 tb2_2 x) = true := by decide +kernel
theorem q2_2 : (tb2_2.all fun x => tb2_2.all fun y => ckPair 2 2 ev2_2 x y) = true := by decide +kernel
theorem gr2_2 : GrOk 2 2 ev2_2 := grOk_of e2_2 w2_2 t2_2 o2_2 l2_2 q2_2 z2_2
def ev2_3 : List Code := [[], [[1, 0, 0]], [[1, 0, 1]], [[1, 1, 0]], [[1, 1, 1]], [[0, 1, 0]], [[0, 1, 1]], [[0, 0, 1]], [[1, 0, 0], [0, 1, 0]], [[1, 0, 0], [0, 1, 1]], [[1, 0, 1], [0, 1, 0]], [[1, 0, 1], [0, 1, 1]], [[1, 0, 0], [0, 0, 1]], [[1, 1, 0], [0, 0, 1]], [[0, 1, 0], [0, 0, 1]], [[1, 0, 0], [0, 1, 0], [0, 0, 1]]]
def tb2_3 : List Line := [([], (1, 65535)), ([[1, 0, 0]], (3, 37634)), ([[1, 0, 1]], (5, 39940)), ([[1, 1, 0]], (9, 43272)), ([[1, 1, 1]], (17, 42512)), ([[0, 1, 0]], (33, 50464)), ([[0, 1, 1]], (65, 51776)), ([[0, 0, 1]], (129, 61568)), ([[1, 0, 0], [0, 1, 0]], (299, 33024)), ([[1, 0, 0], [0, 1, 1]], (595, 33280)), ([[1, 0, 1], [0, 1, 0]], (1077, 33792)), ([[1, 0, 1], [0, 1, 1]], (2125, 34816)), ([[1, 0, 0], [0, 0, 1]], (4231, 36864)), ([[1, 1, 0], [0, 0, 1]], (8345, 40960)), ([[0, 1, 0], [0, 0, 1]], (16609, 49152)), ([[1, 0, 0], [0, 1, 0], [0, 0, 1]], (65535, 32768))]
theorem e2_3 : every 2 3 = ev2_3 := by decide +kernel
theorem w2_3 : ckWin 2 3 ev2_3 = true := by decide +kernel
theorem t2_3 : ev2_3.map (lineOf 2 3 ev2_3) = tb2_3 := by decide +kernel
theorem o2_3 : ckOne 3 ev2_3 = true := by decide +kernel
theorem z2_3 : ckZ ev2_3 = true := by decide +kernel
theorem l2_3 : (tb2_3.all fun x => ckLaps 2 3 ev2_3 tb2_3 x) = true := by decide +kernel
theorem q2_3 : (tb2_3.all fun x => tb2_3.all fun y => ckPair 2 3 ev2_3 x y) = true := by decide +kernel
theorem gr2_3 : GrOk 2 3 ev2_3 := grOk_of e2_3 w2_3 t2_3 o2_3 l2_3 q2_3 z2_3
def ev3_2 : List Code := [[], [[1, 0]], [[1, 1]], [[1, 2]], [[0, 1]], [[1, 0], [0, 1]]]
def tb3_2 : List Line := [([], (1, 63)), ([[1, 0]], (3, 34)), ([[1, 1]], (5, 36)), ([[1, 2]], (9, 40)), ([[0, 1]], (17, 48)), ([[1, 0], [0, 1]], (63, 32))]
theorem e3_2 : every 3 2 = ev3_2 := by decide +kernel
theorem w3_2 : ckWin 3 2 ev3_2 = true := by decide +kernel
theorem t3_2 : ev3_2.map (lineOf 3 2 ev3_2) = tb3_2 := by decide +kernel
theorem o3_2 : ckOne 2 ev3_2 = true := by decide +kernel
theorem z3_2 : ckZ ev3_2 = true := by decide +kernel
theorem l3_2 : (tb3_2.all fun x => ckLaps 3 2 ev3_2 tb3_2 x) = true := by decide +kernel
theorem q3_2 : (tb3_2.all fun x => tb3_2.all fun y => ckPair 3 2 ev3_2 x y) = true := by decide +kernel
theorem gr3_2 : GrOk 3 2 ev3_2 := grOk_of e3_2 w3_2 t3_2 o3_2 l3_2 q3_2 z3_2
def ev3_3 : List Code := [[], [[1, 0, 0]], [[1, 0, 1]], [[1, 0, 2]], [[1, 1, 0]], [[1, 1, 1]], [[1, 1, 2]], [[1, 2, 0]], [[1, 2, 1]], [[1, 2, 2]], [[0, 1, 0]], [[0, 1, 1]], [[0, 1, 2]], [[0, 0, 1]], [[1, 0, 0], [0, 1, 0]], [[1, 0, 0], [0, 1, 1]], [[1, 0, 0], [0, 1, 2]], [[1, 0, 1], [0, 1, 0]], [[1, 0, 1], [0, 1, 1]], [[1, 0, 1], [0, 1, 2]], [[1, 0, 2], [0, 1, 0]], [[1, 0, 2], [0, 1, 1]], [[1, 0, 2], [0, 1, 2]], [[1, 0, 0], [0, 0, 1]], [[1, 1, 0], [0, 0, 1]], [[1, 2, 0], [0, 0, 1]], [[0, 1, 0], [0, 0, 1]], [[1, 0, 0], [0, 1, 0], [0, 0, 1]]]
def tb3_3 : List Line := [([], (1, 268435455)), ([[1, 0, 0]], (3, 142721026)), ([[1, 0, 1]], (5, 143523844)), ([[1, 0, 2]], (9, 149946376)), ([[1, 1, 0]], (17, 153632784)), ([[1, 1, 1]], (33, 155353120)), ([[1, 1, 2]], (65, 152371264)), ([[1, 2, 0]], (129, 172245120)), ([[1, 2, 1]], (257, 170066176)), ([[1, 2, 2]], (513, 169378304)), ([[0, 1, 0]], (1025, 202523648)), ([[0, 1, 1]], (2049, 203720704)), ([[0, 1, 2]], (4097, 206114816)), ([[0, 0, 1]], (8193, 260055040)), ([[1, 0, 0], [0, 1, 0]], (17555, 134234112)), ([[1, 0, 0], [0, 1, 1]], (35363, 134250496)), ([[1, 0, 0], [0, 1, 2]], (69955, 134283264)), ([[1, 0, 1], [0, 1, 0]], (132389, 134348800)), ([[1, 0, 1], [0, 1, 1]], (264389, 134479872)), ([[1, 0, 1], [0, 1, 2]], (528917, 134742016)), ([[1, 0, 2], [0, 1, 0]], (1050185, 135266304)), ([[1, 0, 2], [0, 1, 1]], (2099481, 136314880)), ([[1, 0, 2], [0, 1, 2]], (4198569, 138412032)), ([[1, 0, 0], [0, 0, 1]], (8396815, 142606336)), ([[1, 1, 0], [0, 0, 1]], (16785521, 150994944)), ([[1, 2, 0], [0, 0, 1]], (33563521, 167772160)), ([[0, 1, 0], [0, 0, 1]], (67124225, 201326592)), ([[1, 0, 0], [0, 1, 0], [0, 0, 1]], (268435455, 134217728))]
theorem e3_3 : every 3 3 = ev3_3 := by decide +kernel
theorem w3_3 : ckWin 3 3 ev3_3 = true := by decide +kernel
theorem t3_3 : ev3_3.map (lineOf 3 3 ev3_3) = tb3_3 := by decide +kernel
theorem o3_3 : ckOne 3 ev3_3 = true := by decide +kernel
theorem z3_3 : ckZ ev3_3 = true := by decide +kernel
theorem l3_3 : (tb3_3.all fun x => ckLaps 3 3 ev3_3 tb3_3 x) = true := by decide +kernel
theorem q3_3 : (tb3_3.all fun x => tb3_3.all fun y => ckPair 3 3 ev3_3 x y) = true := by decide +kernel
theorem gr3_3 : GrOk 3 3 ev3_3 := grOk_of e3_3 w3_3 t3_3 o3_3 l3_3 q3_3 z3_3
def ev5_2 : List Code := [[], [[1, 0]], [[1, 1]], [[1, 2]], [[1, 3]], [[1, 4]], [[0, 1]], [[1, 0], [0, 1]]]
def tb5_2 : List Line := [([], (1, 255)), ([[1, 0]], (3, 130)), ([[1, 1]], (5, 132)), ([[1, 2]], (9, 136)), ([[1, 3]], (17, 144)), ([[1, 4]], (33, 160)), ([[0, 1]], (65, 192)), ([[1, 0], [0, 1]], (255, 128))]
theorem e5_2 : every 5 2 = ev5_2 := by decide +kernel
theorem w5_2 : ckWin 5 2 ev5_2 = true := by decide +kernel
theorem t5_2 : ev5_2.map (lineOf 5 2 ev5_2) = tb5_2 := by decide +kernel
theorem o5_2 : ckOne 2 ev5_2 = true := by decide +kernel
theorem z5_2 : ckZ ev5_2 = true := by decide +kernel
theorem l5_2 : (tb5_2.all fun x => ckLaps 5 2 ev5_2 tb5_2 x) = true := by decide +kernel
theorem q5_2 : (tb5_2.all fun x => tb5_2.all fun y => ckPair 5 2 ev5_2 x y) = true := by decide +kernel
theorem gr5_2 : GrOk 5 2 ev5_2 := grOk_of e5_2 w5_2 t5_2 o5_2 l5_2 q5_2 z5_2
def ev7_2 : List Code := [[], [[1, 0]], [[1, 1]], [[1, 2]], [[1, 3]], [[1, 4]], [[1, 5]], [[1, 6]], [[0, 1]], [[1, 0], [0, 1]]]
def tb7_2 : List Line := [([], (1, 1023)), ([[1, 0]], (3, 514)), ([[1, 1]], (5, 516)), ([[1, 2]], (9, 520)), ([[1, 3]], (17, 528)), ([[1, 4]], (33, 544)), ([[1, 5]], (65, 576)), ([[1, 6]], (129, 640)), ([[0, 1]], (257, 768)), ([[1, 0], [0, 1]], (1023, 512))]
theorem e7_2 : every 7 2 = ev7_2 := by decide +kernel
theorem w7_2 : ckWin 7 2 ev7_2 = true := by decide +kernel
theorem t7_2 : ev7_2.map (lineOf 7 2 ev7_2) = tb7_2 := by decide +kernel
theorem o7_2 : ckOne 2 ev7_2 = true := by decide +kernel
theorem z7_2 : ckZ ev7_2 = true := by decide +kernel
theorem l7_2 : (tb7_2.all fun x => ckLaps 7 2 ev7_2 tb7_2 x) = true := by decide +kernel
theorem q7_2 : (tb7_2.all fun x => tb7_2.all fun y => ckPair 7 2 ev7_2 x y) = true := by decide +kernel
theorem gr7_2 : GrOk 7 2 ev7_2 := grOk_of e7_2 w7_2 t7_2 o7_2 l7_2 q7_2 z7_2
def ev13_2 : List Code := [[], [[1, 0]], [[1, 1]], [[1, 2]], [[1, 3]], [[1, 4]], [[1, 5]], [[1, 6]], [[1, 7]], [[1, 8]], [[1, 9]], [[1, 10]], [[1, 11]], [[1, 12]], [[0, 1]], [[1, 0], [0, 1]]]
def tb13_2 : List Line := [([], (1, 65535)), ([[1, 0]], (3, 32770)), ([[1, 1]], (5, 32772)), ([[1, 2]], (9, 32776)), ([[1, 3]], (17, 32784)), ([[1, 4]], (33, 32800)), ([[1, 5]], (65, 32832)), ([[1, 6]], (129, 32896)), ([[1, 7]], (257, 33024)), ([[1, 8]], (513, 33280)), ([[1, 9]], (1025, 33792)), ([[1, 10]], (2049, 34816)), ([[1, 11]], (4097, 36864)), ([[1, 12]], (8193, 40960)), ([[0, 1]], (16385, 49152)), ([[1, 0], [0, 1]], (65535, 32768))]
theorem e13_2 : every 13 2 = ev13_2 := by decide +kernel
theorem w13_2 : ckWin 13 2 ev13_2 = true := by decide +kernel
theorem t13_2 : ev13_2.map (lineOf 13 2 ev13_2) = tb13_2 := by decide +kernel
theorem o13_2 : ckOne 2 ev13_2 = true := by decide +kernel
theorem z13_2 : ckZ ev13_2 = true := by decide +kernel
theorem l13_2 : (tb13_2.all fun x => ckLaps 13 2 ev13_2 tb13_2 x) = true := by decide +kernel
theorem q13_2 : (tb13_2.all fun x => tb13_2.all fun y => ckPair 13 2 ev13_2 x y) = true := by decide +kernel
theorem gr13_2 : GrOk 13 2 ev13_2 := grOk_of e13_2 w13_2 t13_2 o13_2 l13_2 q13_2 z13_2
def ev13_1 : List Code := [[], [[1]]]
def tb13_1 : List Line := [([], (1, 3)), ([[1]], (3, 2))]
theorem e13_1 : every 13 1 = ev13_1 := by decide +kernel
theorem w13_1 : ckWin 13 1 ev13_1 = true := by decide +kernel
theorem t13_1 : ev13_1.map (lineOf 13 1 ev13_1) = tb13_1 := by decide +kernel
theorem o13_1 : ckOne 1 ev13_1 = true := by decide +kernel
theorem z13_1 : ckZ ev13_1 = true := by decide +kernel
theorem l13_1 : (tb13_1.all fun x => ckLaps 13 1 ev13_1 tb13_1 x) = true := by decide +kernel
theorem q13_1 : (tb13_1.all fun x => tb13_1.all fun y => ckPair 13 1 ev13_1 x y) = true := by decide +kernel
theorem gr13_1 : GrOk 13 1 ev13_1 := grOk_of e13_1 w13_1 t13_1 o13_1 l13_1 q13_1 z13_1
end Cn

set_option Elab.async false
set_option linter.all false
set_option maxRecDepth 100000
set_option maxHeartbeats 0
namespace Cn
def ev2_4 : List Code := [[], [[1, 0, 0, 0]], [[1, 0, 0, 1]], [[1, 0, 1, 0]], [[1, 0, 1, 1]], [[1, 1, 0, 0]], [[1, 1, 0, 1]], [[1, 1, 1, 0]], [[1, 1, 1, 1]], [[0, 1, 0, 0]], [[0, 1, 0, 1]], [[0, 1, 1, 0]], [[0, 1, 1, 1]], [[0, 0, 1, 0]], [[0, 0, 1, 1]], [[0, 0, 0, 1]], [[1, 0, 0, 0], [0, 1, 0, 0]], [[1, 0, 0, 0], [0, 1, 0, 1]], [[1, 0, 0, 0], [0, 1, 1, 0]], [[1, 0, 0, 0], [0, 1, 1, 1]], [[1, 0, 0, 1], [0, 1, 0, 0]], [[1, 0, 0, 1], [0, 1, 0, 1]], [[1, 0, 0, 1], [0, 1, 1, 0]], [[1, 0, 0, 1], [0, 1, 1, 1]], [[1, 0, 1, 0], [0, 1, 0, 0]], [[1, 0, 1, 0], [0, 1, 0, 1]], [[1, 0, 1, 0], [0, 1, 1, 0]], [[1, 0, 1, 0], [0, 1, 1, 1]], [[1, 0, 1, 1], [0, 1, 0, 0]], [[1, 0, 1, 1], [0, 1, 0, 1]], [[1, 0, 1, 1], [0, 1, 1, 0]], [[1, 0, 1, 1], [0, 1, 1, 1]], [[1, 0, 0, 0], [0, 0, 1, 0]], [[1, 0, 0, 0], [0, 0, 1, 1]], [[1, 0, 0, 1], [0, 0, 1, 0]], [[1, 0, 0, 1], [0, 0, 1, 1]], [[1, 1, 0, 0], [0, 0, 1, 0]], [[1, 1, 0, 0], [0, 0, 1, 1]], [[1, 1, 0, 1], [0, 0, 1, 0]], [[1, 1, 0, 1], [0, 0, 1, 1]], [[1, 0, 0, 0], [0, 0, 0, 1]], [[1, 0, 1, 0], [0, 0, 0, 1]], [[1, 1, 0, 0], [0, 0, 0, 1]], [[1, 1, 1, 0], [0, 0, 0, 1]], [[0, 1, 0, 0], [0, 0, 1, 0]], [[0, 1, 0, 0], [0, 0, 1, 1]], [[0, 1, 0, 1], [0, 0, 1, 0]], [[0, 1, 0, 1], [0, 0, 1, 1]], [[0, 1, 0, 0], [0, 0, 0, 1]], [[0, 1, 1, 0], [0, 0, 0, 1]], [[0, 0, 1, 0], [0, 0, 0, 1]], [[1, 0, 0, 0], [0, 1, 0, 0], [0, 0, 1, 0]], [[1, 0, 0, 0], [0, 1, 0, 0], [0, 0, 1, 1]], [[1, 0, 0, 0], [0, 1, 0, 1], [0, 0, 1, 0]], [[1, 0, 0, 0], [0, 1, 0, 1], [0, 0, 1, 1]], [[1, 0, 0, 1], [0, 1, 0, 0], [0, 0, 1, 0]], [[1, 0, 0, 1], [0, 1, 0, 0], [0, 0, 1, 1]], [[1, 0, 0, 1], [0, 1, 0, 1], [0, 0, 1, 0]], [[1, 0, 0, 1], [0, 1, 0, 1], [0, 0, 1, 1]], [[1, 0, 0, 0], [0, 1, 0, 0], [0, 0, 0, 1]], [[1, 0, 0, 0], [0, 1, 1, 0], [0, 0, 0, 1]], [[1, 0, 1, 0], [0, 1, 0, 0], [0, 0, 0, 1]], [[1, 0, 1, 0], [0, 1, 1, 0], [0, 0, 0, 1]], [[1, 0, 0, 0], [0, 0, 1, 0], [0, 0, 0, 1]], [[1, 1, 0, 0], [0, 0, 1, 0], [0, 0, 0, 1]], [[0, 1, 0, 0], [0, 0, 1, 0], [0, 0, 0, 1]], [[1, 0, 0, 0], [0, 1, 0, 0], [0, 0, 1, 0], [0, 0, 0, 1]]]
def tb2_4 : List Line := [([], (1, 147573952589676412927)), ([[1, 0, 0, 0]], (3, 84773508698206044162)), ([[1, 0, 0, 1]], (5, 85280163694954676228)), ([[1, 0, 1, 0]], (9, 90299426566521749512)), ([[1, 0, 1, 1]], (17, 90130541571385327632)), ([[1, 1, 0, 0]], (33, 97860972709368889376)), ([[1, 1, 0, 1]], (65, 97556980351989055552)), ([[1, 1, 1, 0]], (129, 95928933277935861888)), ([[1, 1, 1, 1]], (257, 96030264063137677568)), ([[0, 1, 0, 0]], (513, 113677944246093545984)), ([[0, 1, 0, 1]], (1025, 114022627947548115968)), ([[0, 1, 1, 0]], (2049, 116790318617558517760)), ([[0, 1, 1, 1]], (4097, 116675424051647746048)), ([[0, 0, 1, 0]], (8193, 138543197762894176256)), ([[0, 0, 1, 1]], (16385, 138734689073059872768)), ([[0, 0, 0, 1]], (32769, 146999478654884413440)), ([[1, 0, 0, 0], [0, 1, 0, 0]], (66083, 74370192446582751232)), ([[1, 0, 0, 0], [0, 1, 0, 1]], (132163, 74390458644905984000)), ([[1, 0, 0, 0], [0, 1, 1, 0]], (264323, 74960163997768482816)), ([[1, 0, 0, 0], [0, 1, 1, 1]], (528643, 74953408598327689216)), ([[1, 0, 0, 1], [0, 1, 0, 0]], (1049157, 74471523438199570432)), ([[1, 0, 0, 1], [0, 1, 0, 1]], (2098213, 74795782611371294720)), ([[1, 0, 0, 1], [0, 1, 1, 0]], (4196613, 75264156972619923456)), ([[1, 0, 0, 1], [0, 1, 1, 1]], (8392837, 75156070581567225856)), ([[1, 0, 1, 0], [0, 1, 0, 0]], (16777865, 76167128697920290816)), ([[1, 0, 1, 0], [0, 1, 0, 1]], (33555721, 76390056879491907584)), ([[1, 0, 1, 0], [0, 1, 1, 0]], (67110953, 78689144489298100224)), ([[1, 0, 1, 0], [0, 1, 1, 1]], (134221897, 78479727106692481024)), ([[1, 0, 1, 1], [0, 1, 0, 0]], (268436241, 76133351700966670336)), ([[1, 0, 1, 1], [0, 1, 0, 1]], (536872081, 76254948891174109184)), ([[1, 0, 1, 1], [0, 1, 1, 0]], (1073743953, 78452705509867782144)), ([[1, 0, 1, 1], [0, 1, 1, 1]], (2147487793, 78547281103116304384)), ([[1, 0, 0, 0], [0, 0, 1, 0]], (4294975499, 83021607335056375808)), ([[1, 0, 0, 0], [0, 0, 1, 1]], (8589950995, 83032866338419769344)), ([[1, 0, 0, 1], [0, 0, 1, 0]], (17179877397, 83190492333967671296)), ([[1, 0, 0, 1], [0, 0, 1, 1]], (34359754765, 83370636336242360320)), ([[1, 1, 0, 0], [0, 0, 1, 0]], (68719485089, 92380087425156775936)), ([[1, 1, 0, 0], [0, 0, 1, 1]], (137438970145, 92526454481765793792)), ([[1, 1, 0, 1], [0, 0, 1, 0]], (274877915457, 92278756639699369984)), ([[1, 1, 0, 1], [0, 0, 1, 1]], (549755830465, 92323792910850981888)), ([[1, 0, 0, 0], [0, 0, 0, 1]], (1099511660551, 84739731688114880512)), ([[1, 0, 1, 0], [0, 0, 0, 1]], (2199023288345, 89927879558357319680)), ([[1, 1, 0, 0], [0, 0, 0, 1]], (4398046543969, 97421871537325080576)), ([[1, 1, 1, 0], [0, 0, 0, 1]], (8796093055361, 95692493678461321216)), ([[0, 1, 0, 0], [0, 0, 1, 0]], (17592186055169, 110718762631276003328)), ([[0, 1, 0, 0], [0, 0, 1, 1]], (35184372109825, 110757060820294696960)), ([[0, 1, 0, 1], [0, 0, 1, 0]], (70368744190977, 110833657198332084224)), ([[0, 1, 0, 1], [0, 0, 1, 1]], (140737488374785, 110986849954406858752)), ([[0, 1, 0, 0], [0, 0, 0, 1]], (281474976744961, 113563049678751137792)), ([[0, 1, 1, 0], [0, 0, 0, 1]], (562949953460225, 116445634915244965888)), ([[0, 0, 1, 0], [0, 0, 0, 1]], (1125899906899969, 138351706452728479744)), ([[1, 0, 0, 0], [0, 1, 0, 0], [0, 0, 1, 0]], (2269465098398379, 73789228094651891712)), ([[1, 0, 0, 0], [0, 1, 0, 0], [0, 0, 1, 1]], (4538932444877619, 73791479894465576960)), ([[1, 0, 0, 0], [0, 1, 0, 1], [0, 0, 1, 0]], (9077847340234059, 73795983494092947456)), ([[1, 0, 0, 0], [0, 1, 0, 1], [0, 0, 1, 1]], (18155695954611411, 73804990693347688448)), ([[1, 0, 0, 1], [0, 1, 0, 0], [0, 0, 1, 0]], (36046682610215765, 73823005091857170432)), ([[1, 0, 0, 1], [0, 1, 0, 0], [0, 0, 1, 1]], (72093362686022349, 73859033888876134400)), ([[1, 0, 0, 1], [0, 1, 0, 1], [0, 0, 1, 0]], (144185645414233269, 73931091482914062336)), ([[1, 0, 0, 1], [0, 1, 0, 1], [0, 0, 1, 1]], (288371285545733421, 74075206670989918208)), ([[1, 0, 0, 0], [0, 1, 0, 0], [0, 0, 0, 1]], (576747724841649767, 74363437047141629952)), ([[1, 0, 0, 0], [0, 1, 1, 0], [0, 0, 0, 1]], (1153494350178326919, 74939897799445053440)), ([[1, 0, 1, 0], [0, 1, 0, 0], [0, 0, 0, 1]], (2306135480162355097, 76092819304051900416)), ([[1, 0, 1, 0], [0, 1, 1, 0], [0, 0, 0, 1]], (4612255568873166969, 78398662313265594368)), ([[1, 0, 0, 0], [0, 0, 1, 0], [0, 0, 0, 1]], (9224501299721068575, 83010348331692982272)), ([[1, 1, 0, 0], [0, 0, 1, 0], [0, 0, 0, 1]], (18447884198548136417, 92233720368547758080)), ([[0, 1, 0, 0], [0, 0, 1, 0], [0, 0, 0, 1]], (36895722355046809089, 110680464442257309696)), ([[1, 0, 0, 0], [0, 1, 0, 0], [0, 0, 1, 0], [0, 0, 0, 1]], (147573952589676412927, 73786976294838206464))]
theorem e2_4 : every 2 4 = ev2_4 := by decide +kernel
theorem w2_4 : ckWin 2 4 ev2_4 = true := by decide +kernel
theorem t2_4 : ev2_4.map (lineOf 2 4 ev2_4) = tb2_4 := by decide +kernel
theorem o2_4 : ckOne 4 ev2_4 = true := by decide +kernel
theorem z2_4 : ckZ ev2_4 = true := by decide +kernel
theorem l2_4_0 : (((tb2_4.drop 0).take 12).all fun x => ckLaps 2 4 ev2_4 tb2_4 x) = true := by decide +kernel
theorem l2_4_1 : (((tb2_4.drop 12).take 12).all fun x => ckLaps 2 4 ev2_4 tb2_4 x) = true := by decide +kernel
theorem l2_4_2 : (((tb2_4.drop 24).take 12).all fun x => ckLaps 2 4 ev2_4 tb2_4 x) = true := by decide +kernel
theorem l2_4_3 : (((tb2_4.drop 36).take 12).all fun x => ckLaps 2 4 ev2_4 tb2_4 x) = true := by decide +kernel
theorem l2_4_4 : (((tb2_4.drop 48).take 12).all fun x => ckLaps 2 4 ev2_4 tb2_4 x) = true := by decide +kernel
theorem l2_4_5 : (((tb2_4.drop 60).take 7).all fun x => ckLaps 2 4 ev2_4 tb2_4 x) = true := by decide +kernel
theorem l2_4_7 : ((tb2_4.drop 67).all fun x => ckLaps 2 4 ev2_4 tb2_4 x) = true := rfl
theorem l2_4_j5 : ((tb2_4.drop 60).all fun x => ckLaps 2 4 ev2_4 tb2_4 x) = true := all_cut 7 l2_4_5 (by rw [List.drop_drop]; exact l2_4_7)
theorem l2_4_j4 : ((tb2_4.drop 48).all fun x => ckLaps 2 4 ev2_4 tb2_4 x) = true := all_cut 12 l2_4_4 (by rw [List.drop_drop]; exact l2_4_j5)
theorem l2_4_j3 : ((tb2_4.drop 36).all fun x => ckLaps 2 4 ev2_4 tb2_4 x) = true := all_cut 12 l2_4_3 (by rw [List.drop_drop]; exact l2_4_j4)
theorem l2_4_j2 : ((tb2_4.drop 24).all fun x => ckLaps 2 4 ev2_4 tb2_4 x) = true := all_cut 12 l2_4_2 (by rw [List.drop_drop]; exact l2_4_j3)
theorem l2_4_j1 : ((tb2_4.drop 12).all fun x => ckLaps 2 4 ev2_4 tb2_4 x) = true := all_cut 12 l2_4_1 (by rw [List.drop_drop]; exact l2_4_j2)
theorem l2_4_j0 : ((tb2_4.drop 0).all fun x => ckLaps 2 4 ev2_4 tb2_4 x) = true := all_cut 12 l2_4_0 (by rw [List.drop_drop]; exact l2_4_j1)
theorem l2_4 : (tb2_4.all fun x => ckLaps 2 4 ev2_4 tb2_4 x) = true := l2_4_j0
theorem q2_4 : (tb2_4.all fun x => tb2_4.all fun y => ckPair 2 4 ev2_4 x y) = true := by decide +kernel
theorem gr2_4 : GrOk 2 4 ev2_4 := grOk_of e2_4 w2_4 t2_4 o2_4 l2_4 q2_4 z2_4
end Cn

set_option Elab.async false
set_option linter.all false
set_option maxRecDepth 100000
set_option maxHeartbeats 4000000
namespace Cn
open PySem PySem.Spec PyProof.Rows L2 XR
abbrev lawN : List Str := ["_law_script","_law_source_here","_law_p","_law_n","_law_made","_law_every","_law_rank","_law_lap","_law_one","_law_other","_law_below","_law_above","_law_low","_law_high","_law_due","_law_rows","_law_k","_law_code"]
theorem scLaw : FnScope lawN ["_law_script"] (defScope sLaw) := ⟨rfl, rfl, rfl, by decide +kernel, rfl, by decide +kernel, by decide +kernel⟩
/-- the grounds that are drawn -/
def grounds : List (Nat × Nat) := [(2, 0), (2, 1), (2, 2), (2, 3), (2, 4), (3, 2), (3, 3), (5, 2), (7, 2), (13, 2), (13, 1)]
def AllOk : Prop := ∀ p n, (p, n) ∈ grounds → NumOk p n ∧ ∃ ev, GrOk p n ev
section
variable {K : PySem.W.Frag} {C : Addr}
theorem sTup2 {d ca : Addr} {H H' : Hp} {a : Addr} {xs : List V} (s : SrcAt H d ca) (e : But2 d ca H H') (h : SqT K H a xs) : SqT K H' a xs := by
  obtain ⟨_, cells, l, m, t, h1, h2⟩ := s
  have ne : ∀ {o : HO}, H a = some o → (∀ z, o ≠ .lst z) → (∀ z, o ≠ .dK z) → H' a = some o := fun {o} h n1 n2 => e a o (fun z => by
    subst z
    rw [h1] at h
    exact n2 _ (Option.some.inj h).symm) (fun z => by
    subst z
    rw [h2] at h
    exact n1 _ (Option.some.inj h).symm) h
  rcases h with (h | ⟨o, h⟩) | h
  · exact .inl (.inl (ne h (by intro z q; cases q) (by intro z q; cases q)))
  · exact .inl (.inr ⟨o, ne h (by intro z q; cases q) (by intro z q; cases q)⟩)
  · exact .inr h
theorem CodeV.but {d ca : Addr} {H H' : Hp} {v : V} {c : Code} (s : SrcAt H d ca) (e : But2 d ca H H') (h : CodeV K v c H) : CodeV K v c H' := by
  obtain ⟨a, vs, rfl, h, hh⟩ := h
  exact ⟨a, vs, rfl, sTup2 s e h, hh.mono fun v r ⟨b, q, hb⟩ => ⟨b, q, sTup2 s e hb⟩⟩
theorem PairV.but {d ca : Addr} {H H' : Hp} {v : V} {c : Nat × Nat} (s : SrcAt H d ca) (e : But2 d ca H H') (h : PairV K v c H) : PairV K v c H' := by
  obtain ⟨a, rfl, h⟩ := h
  exact ⟨a, rfl, sTup2 s e h⟩
theorem GroundAt.but {d ca : Addr} {H H' : Hp} {v : V} {p n : Nat} (s : SrcAt H d ca) (e : But2 d ca H H') (h : GroundAt C v p n H) : GroundAt C v p n H' := by
  obtain ⟨_, cells, l, m, t, h1, h2⟩ := s
  obtain ⟨g, dx, rfl, h⟩ := h
  refine ⟨g, dx, rfl, e _ _ (fun z => ?_) (fun z => ?_) h⟩
  · subst z
    rw [h1] at h
    cases h
  · subst z
    rw [h2] at h
    cases h
/-- what stands while the law runs -/
structure LawSt (K : PySem.W.Frag) (C d ca ea : Addr) (g : V) (p n : Nat) (ev : List Code) (evs : List V) (H : Hp) : Prop where
  src : SrcAt H d ca
  gr : GroundAt C g p n H
  el : H ea = some (.lst evs)
  ec : All2 (fun v c => CodeV K v c H) evs ev
  nd : ea ≠ d
  nc : ea ≠ ca
theorem LawSt.same {d ca ea : Addr} {g : V} {p n : Nat} {ev : List Code} {evs : List V} {H H' : Hp} (e : Same H H') (h : LawSt K C d ca ea g p n ev evs H) : LawSt K C d ca ea g p n ev evs H' :=
  ⟨h.src.same e, h.gr.same e, e _ _ h.el, h.ec.mono fun _ _ r => r.same e, h.nd, h.nc⟩
theorem LawSt.but {d ca ea : Addr} {g : V} {p n : Nat} {ev : List Code} {evs : List V} {H H' : Hp} (e : But2 d ca H H') (s : SrcAt H' d ca) (h : LawSt K C d ca ea g p n ev evs H) : LawSt K C d ca ea g p n ev evs H' :=
  ⟨s, h.gr.but h.src e, e _ _ h.nd h.nc h.el, h.ec.mono fun _ _ r => r.but h.src e, h.nd, h.nc⟩
def ListAt (K : PySem.W.Frag) (la : Addr) (l : List Code) (H : Hp) : Prop := ∃ ys, H la = some (.lst ys) ∧ All2 (fun v c => CodeV K v c H) ys l
theorem ListAt.same {la : Addr} {l : List Code} {H H' : Hp} (e : Same H H') (h : ListAt K la l H) : ListAt K la l H' := by
  obtain ⟨ys, h1, h2⟩ := h
  exact ⟨ys, e _ _ h1, h2.mono fun _ _ r => r.same e⟩
end
section
variable {P : Program} {w : World} {K : PySem.W.Frag} {mg : Str → Option Value} {C : Addr}
theorem lawBody {fa a : Addr} {cdv : Value} {s₁ : Shared} {base : Heap} {H : Hp} {ns : List Int} (T : Txt K mg C) (hr : Room 8 (callerA.deeper (envOfC "law" (defScope sLaw) s₁.heap.objs.size fa cdv)))
    (cS : CallOk P w K mg base "_law_source" 1 ["_law_script"] (spSource K)) (cO : CallOk P w K mg base "_law_of" 2 ["_law_source_here", "_law_some"] spOf) (mk : MakeOk P w K mg base C "Ground" 3 ["self", "p", "n"] (spInit C)) (cAC : CallOk P w K mg base "all_codes" 6 ["ground", "rank"] (spAllCodes K C))
    (cW : CallOk P w K mg base "is_within" 6 ["ground", "one", "other"] (spWithin K C)) (cC : CallOk P w K mg base "common" 6 ["ground", "one", "other"] (spCommon K C)) (cJ : CallOk P w K mg base "joined" 6 ["ground", "one", "other"] (spJoined K C)) (cA : CallOk P w K mg base "all_codes_between" 8 ["ground", "low", "high"] (spAllBetween K C))
    (cB : CallOk P w K mg base "between_codes" 8 ["ground", "low", "high"] (spBetween K C)) (cN : CallOk P w K mg base "count_between" 7 ["ground", "low", "high", "rank"] (spCountBetween K C)) (cM : CallOk P w K mg base "complement" 3 ["ground", "code"] (spComplement K C)) (hS : SqL K H a (ns.map V.int)) (hl : ns.length ≤ 63) (hall : AllOk) :
    ∃ t, PSs (cxOf CX0 P w K mg base lawN "law" (defScope sLaw) fa cdv callerA [] s₁ H E0).nox (defBody sLaw) t ∧ t { nx := fun _ H' => V.non = .bl true, rt := fun v _ => v = .bl true } (start lawN [.ref a]) H := by
  have hu4 : (callerA.deeper (envOfC "law" (defScope sLaw) s₁.heap.objs.size fa cdv)).units + 4 < cLine := by
    have := hr.units
    omega
  have hu65 : (callerA.deeper (envOfC "law" (defScope sLaw) s₁.heap.objs.size fa cdv)).units + 65 < cLine := by
    have := hr.un
    omega
  refine ⟨_, (pss_cons (ps_set (i := 1) scLaw.nd rfl (.inl rfl) (pcall cS (hr.mono (by decide)) (pa_cons (pv 0) pa_nil)))
      (Evl.pss_cut (ps_asg (pcall cO (hr.mono (by decide)) (pa_cons (pv 1) (pa_cons (pe_lst (pa_cons (pe_tup (pa_cons pe_int (pa_cons pe_int pa_nil))) (pa_cons (pe_tup (pa_cons pe_int (pa_cons pe_int pa_nil))) (pa_cons (pe_tup (pa_cons pe_int (pa_cons pe_int pa_nil))) (pa_cons (pe_tup (pa_cons pe_int (pa_cons pe_int pa_nil))) (pa_cons (pe_tup (pa_cons pe_int (pa_cons pe_int pa_nil))) (pa_cons (pe_tup (pa_cons pe_int (pa_cons pe_int pa_nil))) (pa_cons (pe_tup (pa_cons pe_int (pa_cons pe_int pa_nil))) (pa_cons (pe_tup (pa_cons pe_int (pa_cons pe_int pa_nil))) (pa_cons (pe_tup (pa_cons pe_int (pa_cons pe_int pa_nil))) (pa_cons (pe_tup (pa_cons pe_int (pa_cons pe_int pa_nil))) (pa_cons (pe_tup (pa_cons pe_int (pa_cons pe_int pa_nil))) pa_nil)))))))))))) pa_nil))) (pg_tup rfl (pgs_cons (pg_name (i := 2) scLaw.nd rfl (.inl rfl)) (pgs_cons (pg_name (i := 3) scLaw.nd rfl (.inl rfl)) pgs_nil))))
      (Evl.pss_cut (ps_asg (pe_tup (pa_cons (pmake mk (hr.mono (by decide)) (pa_cons (pv 2) (pa_cons (pv 3) pa_nil))) (pa_cons (pe_lst pa_nil) pa_nil))) (pg_tup rfl (pgs_cons (pg_name (i := 4) scLaw.nd rfl (.inr rfl)) (pgs_cons (pg_name (i := 5) scLaw.nd rfl (.inl rfl)) pgs_nil))))
      (Evl.pss_cut (ps_for PassesOwn.never rfl (pi_range1 (by rfl) T.range (pa_cons (pe_op op_add (pv 3) pe_int) pa_nil)) (pg_name (i := 6) scLaw.nd rfl (.inl rfl)) (pss_one (ps_set (i := 5) scLaw.nd rfl (.inl rfl) (pe_op op_cat (pv 5) (pcall cAC (hr.mono (by decide)) (pa_cons (pv 4) (pa_cons (pv 6) pa_nil)))))))
      (Evl.pss_cut (ps_for PassesOwn.never rfl (pi_range1 (by rfl) T.range (pa_cons pe_int pa_nil)) (pg_name (i := 7) scLaw.nd rfl (.inl rfl)) (Evl.pss_cut (ps_asg (pe_tup (pa_cons (pcall cO (hr.mono (by decide)) (pa_cons (pv 1) (pa_cons (pv 5) pa_nil))) (pa_cons (pcall cO (hr.mono (by decide)) (pa_cons (pv 1) (pa_cons (pv 5) pa_nil))) pa_nil))) (pg_tup rfl (pgs_cons (pg_name (i := 8) scLaw.nd rfl (.inr rfl)) (pgs_cons (pg_name (i := 9) scLaw.nd rfl (.inr rfl)) pgs_nil))))
      (Evl.pss_cut (ps_setLc (i := 10) (own := [("_law_code", 17)]) (g := gName 17) rfl scLaw.nd rfl rfl (sw_true rfl rfl rfl (by decide +kernel)) (pi_list (pv 5)) (blkOk_by (N := lawN) (sc := defScope sLaw) (by decide +kernel)) (fun _ _ _ _ _ => (pg_name (i := 17) scLaw.nd rfl (.inl rfl))) (fun _ _ _ _ _ => by exact (pts_one (PW.pt (pw_and (pt_val (pcall cW (hr.mono (by decide)) (pa_cons (pv 4) (pa_cons (pv 17) (pa_cons (pv 8) pa_nil))))) (pw_and1 (pt_val (pcall cW (hr.mono (by decide)) (pa_cons (pv 4) (pa_cons (pv 17) (pa_cons (pv 9) pa_nil)))))))))) (fun _ _ _ _ _ => by exact (pv 17)))
      (Evl.pss_cut (ps_setLc (i := 11) (own := [("_law_code", 17)]) (g := gName 17) rfl scLaw.nd rfl rfl (sw_true rfl rfl rfl (by decide +kernel)) (pi_list (pv 5)) (blkOk_by (N := lawN) (sc := defScope sLaw) (by decide +kernel)) (fun _ _ _ _ _ => (pg_name (i := 17) scLaw.nd rfl (.inl rfl))) (fun _ _ _ _ _ => by exact (pts_one (PW.pt (pw_and (pt_val (pcall cW (hr.mono (by decide)) (pa_cons (pv 4) (pa_cons (pv 8) (pa_cons (pv 17) pa_nil))))) (pw_and1 (pt_val (pcall cW (hr.mono (by decide)) (pa_cons (pv 4) (pa_cons (pv 9) (pa_cons (pv 17) pa_nil)))))))))) (fun _ _ _ _ _ => by exact (pv 17)))
      (Evl.pss_cut (ps_if (PW.pt (pw_or (pt_cmpR (op_neD (by exact hr.units)) (pcall cC (hr.mono (by decide)) (pa_cons (pv 4) (pa_cons (pv 8) (pa_cons (pv 9) pa_nil)))) (pe_ix ix_list (pv 10) (pe_un un_neg pe_int) (fun _ _ => rfl)) (nomark _)) (pw_or1 (pt_cmpR (op_neD (by exact hr.units)) (pcall cJ (hr.mono (by decide)) (pa_cons (pv 4) (pa_cons (pv 8) (pa_cons (pv 9) pa_nil)))) (pe_ix ix_list (pv 11) pe_int (fun _ _ => rfl)) (nomark _))))) (pss_one (ps_ret pe_bl)) pss_nil)
      (Evl.pss_cut (ps_if (PW.pt (pw_or (pt_cmpR op_ge (pe_callB (cr_max rfl) (by rfl) T.max boot_max (pa_cons (pe_op op_cat (pe_lc (own := [("_law_code", 17)]) (g := gName 17) (tt := tYes) rfl scLaw.nd (pi_list (pe_slice sl_list (pv 10) po_none (po_some (pe_un un_neg pe_int)))) (blkOk_by (N := lawN) (sc := defScope sLaw) (by decide +kernel)) (fun _ _ _ _ _ => (pg_name (i := 17) scLaw.nd rfl (.inl rfl))) (fun _ _ _ _ _ => pts_nil) (fun _ _ _ _ _ => by exact (pe_callB (lenK (K := K) rfl) (by rfl) T.len PySem.boot_len (pa_cons (pv 17) pa_nil)))) (pe_lst (pa_cons (pe_un un_neg pe_int) pa_nil))) pa_nil)) (pe_callB call_len_seq (by rfl) T.len PySem.boot_len (pa_cons (pe_ix ix_list (pv 10) (pe_un un_neg pe_int) (fun _ _ => rfl)) pa_nil)) (nomark _)) (pw_or1 (pt_cmpR op_le (pe_callB (cr_min rfl) (by rfl) T.min boot_min (pa_cons (pe_op op_cat (pe_lc (own := [("_law_code", 17)]) (g := gName 17) (tt := tYes) rfl scLaw.nd (pi_list (pe_slice sl_list (pv 11) (po_some pe_int) po_none)) (blkOk_by (N := lawN) (sc := defScope sLaw) (by decide +kernel)) (fun _ _ _ _ _ => (pg_name (i := 17) scLaw.nd rfl (.inl rfl))) (fun _ _ _ _ _ => pts_nil) (fun _ _ _ _ _ => by exact (pe_callB (lenK (K := K) rfl) (by rfl) T.len PySem.boot_len (pa_cons (pv 17) pa_nil)))) (pe_lst (pa_cons pe_int pa_nil))) pa_nil)) (pe_callB call_len_seq (by rfl) T.len PySem.boot_len (pa_cons (pe_ix ix_list (pv 11) pe_int (fun _ _ => rfl)) pa_nil)) (nomark _))))) (pss_one (ps_ret pe_bl)) pss_nil)
      (Evl.pss_cut (ps_asg (pe_tup (pa_cons (pe_ix ix_list (pv 10) (pe_un un_neg pe_int) (fun _ _ => rfl)) (pa_cons (pe_ix ix_list (pv 11) pe_int (fun _ _ => rfl)) pa_nil))) (pg_tup rfl (pgs_cons (pg_name (i := 12) scLaw.nd rfl (.inr rfl)) (pgs_cons (pg_name (i := 13) scLaw.nd rfl (.inr rfl)) pgs_nil))))
      (Evl.pss_cut (ps_set (i := 14) scLaw.nd rfl (.inr rfl) (pe_lc (own := [("_law_code", 17)]) (g := gName 17) rfl scLaw.nd (pi_list (pv 5)) (blkOk_by (N := lawN) (sc := defScope sLaw) (by decide +kernel)) (fun _ _ _ _ _ => (pg_name (i := 17) scLaw.nd rfl (.inl rfl))) (fun _ _ _ _ _ => by exact (pts_one (PW.pt (pw_and (pt_val (pcall cW (hr.mono (by decide)) (pa_cons (pv 4) (pa_cons (pv 12) (pa_cons (pv 17) pa_nil))))) (pw_and1 (pt_val (pcall cW (hr.mono (by decide)) (pa_cons (pv 4) (pa_cons (pv 17) (pa_cons (pv 13) pa_nil)))))))))) (fun _ _ _ _ _ => by exact (pv 17))))
      (pss_cons (ps_set (i := 15) scLaw.nd rfl (.inl rfl) (pv 14))
      (pss_cons (ps_set (i := 14) scLaw.nd rfl (.inr rfl) (pe_lst pa_nil))
      (Evl.pss_cut (ps_for PassesOwn.never rfl (pi_range1 (by rfl) T.range (pa_cons (pe_op op_add (pv 3) pe_int) pa_nil)) (pg_name (i := 16) scLaw.nd rfl (.inr rfl)) (pss_one (ps_set (i := 14) scLaw.nd rfl (.inr rfl) (pe_op op_cat (pv 14) (pe_callB (cr_sortedC (by exact hr.units)) (by rfl) T.sorted boot_sorted (pa_cons (pe_lc (own := [("_law_code", 17)]) (g := gName 17) rfl scLaw.nd (pi_list (pv 15)) (blkOk_by (N := lawN) (sc := defScope sLaw) (by decide +kernel)) (fun _ _ _ _ _ => (pg_name (i := 17) scLaw.nd rfl (.inl rfl))) (fun _ _ _ _ _ => by exact (pts_one (pt_cmpR op_eq (pe_callB (lenK (K := K) rfl) (by rfl) T.len PySem.boot_len (pa_cons (pv 17) pa_nil)) (pv 16) (nomark _)))) (fun _ _ _ _ _ => by exact (pv 17))) pa_nil))))))
      (Evl.pss_cut (ps_if (PW.pt (pw_or (pt_cmpR (op_neD (by exact hr.units)) (pcall cA (hr.mono (by decide)) (pa_cons (pv 4) (pa_cons (pv 12) (pa_cons (pv 13) pa_nil)))) (pv 14) (nomark _)) (pw_or1 (pt_cmpR (op_neD (by exact hr.units)) (pcall cB (hr.mono (by decide)) (pa_cons (pv 4) (pa_cons (pv 12) (pa_cons (pv 13) pa_nil)))) (pe_lc (own := [("_law_code", 17)]) (g := gName 17) rfl scLaw.nd (pi_list (pv 14)) (blkOk_by (N := lawN) (sc := defScope sLaw) (by decide +kernel)) (fun _ _ _ _ _ => (pg_name (i := 17) scLaw.nd rfl (.inl rfl))) (fun _ _ _ _ _ => by exact (pts_one (pt_cmpR op_eq (pe_callB (lenK (K := K) rfl) (by rfl) T.len PySem.boot_len (pa_cons (pv 17) pa_nil)) (pe_op op_add (pe_callB (lenK (K := K) rfl) (by rfl) T.len PySem.boot_len (pa_cons (pv 12) pa_nil)) pe_int) (nomark _)))) (fun _ _ _ _ _ => by exact (pv 17))) (nomark _))))) (pss_one (ps_ret pe_bl)) pss_nil)
      (Evl.pss_cut (ps_if (pt_cmpR op_ne (pe_callB (cr_reprL rfl (by exact hu4)) (by rfl) T.repr boot_repr (pa_cons (pe_lc (own := [("_law_k", 16)]) (g := gName 16) (tt := tYes) rfl scLaw.nd (pi_range1 (by rfl) T.range (pa_cons (pe_op op_add (pv 3) pe_int) pa_nil)) (blkOk_by (N := lawN) (sc := defScope sLaw) (by decide +kernel)) (fun _ _ _ _ _ => (pg_name (i := 16) scLaw.nd rfl (.inl rfl))) (fun _ _ _ _ _ => pts_nil) (fun _ _ _ _ _ => by exact (pcall cN (hr.mono (by decide)) (pa_cons (pv 4) (pa_cons (pv 12) (pa_cons (pv 13) (pa_cons (pv 16) pa_nil))))))) pa_nil)) (pe_callB (cr_reprL rfl (by exact hu4)) (by rfl) T.repr boot_repr (pa_cons (pe_lc (own := [("_law_k", 16)]) (g := gName 16) (tt := tYes) rfl scLaw.nd (pi_range1 (by rfl) T.range (pa_cons (pe_op op_add (pv 3) pe_int) pa_nil)) (blkOk_by (N := lawN) (sc := defScope sLaw) (by decide +kernel)) (fun _ _ _ _ _ => (pg_name (i := 16) scLaw.nd rfl (.inr rfl))) (fun _ _ _ _ _ => pts_nil) (fun _ _ _ _ _ => by exact (pe_callB (lenK (K := K) rfl) (by rfl) T.len PySem.boot_len (pa_cons (pe_lc (own := [("_law_code", 17)]) (g := gName 17) rfl scLaw.nd (listI (K := K) rfl (pv 14)) (blkOk_by (by rfl)) (fun _ _ _ _ _ => (pg_name (i := 17) scLaw.nd rfl (.inl rfl))) (fun _ _ _ _ _ => by exact (pts_one (pt_cmpR op_eq (pe_callB (lenK (K := K) rfl) (by rfl) T.len PySem.boot_len (pa_cons (pv 17) pa_nil)) (pv 16) (nomark _)))) (fun _ _ _ _ _ => by exact pe_int)) pa_nil)))) pa_nil)) (nomark _)) (pss_one (ps_ret pe_bl)) pss_nil)
      (pss_one (ps_if (PW.pt (pw_or (pt_cmpR op_ne (pe_callB call_len_seq (by rfl) T.len PySem.boot_len (pa_cons (pcall cM (hr.mono (by decide)) (pa_cons (pv 4) (pa_cons (pv 8) pa_nil))) pa_nil)) (pe_op op_sub (pv 3) (pe_callB call_len_seq (by rfl) T.len PySem.boot_len (pa_cons (pv 8) pa_nil))) (nomark _)) (pw_or1 (pt_cmpR (op_notInD (by exact hu65)) (pcall cM (hr.mono (by decide)) (pa_cons (pv 4) (pa_cons (pv 8) pa_nil))) (pv 5) (by rfl))))) (pss_one (ps_ret pe_bl)) pss_nil)))))))))))))))
      (pss_one (ps_ret pe_bl))))))), ?_⟩
  -- _law_source_here = _law_source(_law_script)
  refine ⟨_, rfl, a, ns, rfl, hS, hl, fun d ca H1 e1 s1 => ?_⟩
  refine ⟨fun σ H' => SrcAt H' d ca ∧ ∃ p n, (p, n) ∈ grounds ∧ σ = [some (.ref a), some (.ref d), some (iv p), some (iv n), none, none, none, none, none, none, none, none, none, none, none, none, none, none], ?_, ?_⟩
  · refine ⟨_, rfl, ?_⟩
    refine ⟨fl (by show 2 ≤ 100000; decide), fun t1 nt1 => ?_⟩
    have g1 : PairV K (.ref t1) (2, 0) (upd H1 t1 (.tup [V.int 2, V.int 0])) := ⟨t1, rfl, .inl (.inl upd_same)⟩
    have A1 := All2.one (R := fun v kc => PairV K v kc (upd H1 t1 (.tup [V.int 2, V.int 0]))) g1
    have s1_1 := s1.same (sNew (o := (.tup [V.int 2, V.int 0])) nt1)
    refine ⟨fl (by show 2 ≤ 100000; decide), fun t2 nt2 => ?_⟩
    have g2 : PairV K (.ref t2) (2, 1) (upd (upd H1 t1 (.tup [V.int 2, V.int 0])) t2 (.tup [V.int 2, V.int 1])) := ⟨t2, rfl, .inl (.inl upd_same)⟩
    have A2 := (A1.mono (S := fun v kc => PairV K v kc (upd (upd H1 t1 (.tup [V.int 2, V.int 0])) t2 (.tup [V.int 2, V.int 1]))) fun _ _ r => r.same (sNew nt2)).snoc g2
    have s1_2 := s1_1.same (sNew (o := (.tup [V.int 2, V.int 1])) nt2)
    refine ⟨fl (by show 2 ≤ 100000; decide), fun t3 nt3 => ?_⟩
    have g3 : PairV K (.ref t3) (2, 2) (upd (upd (upd H1 t1 (.tup [V.int 2, V.int 0])) t2 (.tup [V.int 2, V.int 1])) t3 (.tup [V.int 2, V.int 2])) := ⟨t3, rfl, .inl (.inl upd_same)⟩
    have A3 := (A2.mono (S := fun v kc => PairV K v kc (upd (upd (upd H1 t1 (.tup [V.int 2, V.int 0])) t2 (.tup [V.int 2, V.int 1])) t3 (.tup [V.int 2, V.int 2]))) fun _ _ r => r.same (sNew nt3)).snoc g3
    have s1_3 := s1_2.same (sNew (o := (.tup [V.int 2, V.int 2])) nt3)
    refine ⟨fl (by show 2 ≤ 100000; decide), fun t4 nt4 => ?_⟩
    have g4 : PairV K (.ref t4) (2, 3) (upd (upd (upd (upd H1 t1 (.tup [V.int 2, V.int 0])) t2 (.tup [V.int 2, V.int 1])) t3 (.tup [V.int 2, V.int 2])) t4 (.tup [V.int 2, V.int 3])) := ⟨t4, rfl, .inl (.inl upd_same)⟩
    have A4 := (A3.mono (S := fun v kc => PairV K v kc (upd (upd (upd (upd H1 t1 (.tup [V.int 2, V.int 0])) t2 (.tup [V.int 2, V.int 1])) t3 (.tup [V.int 2, V.int 2])) t4 (.tup [V.int 2, V.int 3]))) fun _ _ r => r.same (sNew nt4)).snoc g4
    have s1_4 := s1_3.same (sNew (o := (.tup [V.int 2, V.int 3])) nt4)
    refine ⟨fl (by show 2 ≤ 100000; decide), fun t5 nt5 => ?_⟩
    have g5 : PairV K (.ref t5) (2, 4) (upd (upd (upd (upd (upd H1 t1 (.tup [V.int 2, V.int 0])) t2 (.tup [V.int 2, V.int 1])) t3 (.tup [V.int 2, V.int 2])) t4 (.tup [V.int 2, V.int 3])) t5 (.tup [V.int 2, V.int 4])) := ⟨t5, rfl, .inl (.inl upd_same)⟩
    have A5 := (A4.mono (S := fun v kc => PairV K v kc (upd (upd (upd (upd (upd H1 t1 (.tup [V.int 2, V.int 0])) t2 (.tup [V.int 2, V.int 1])) t3 (.tup [V.int 2, V.int 2])) t4 (.tup [V.int 2, V.int 3])) t5 (.tup [V.int 2, V.int 4]))) fun _ _ r => r.same (sNew nt5)).snoc g5
    have s1_5 := s1_4.same (sNew (o := (.tup [V.int 2, V.int 4])) nt5)
    refine ⟨fl (by show 2 ≤ 100000; decide), fun t6 nt6 => ?_⟩
    have g6 : PairV K (.ref t6) (3, 2) (upd (upd (upd (upd (upd (upd H1 t1 (.tup [V.int 2, V.int 0])) t2 (.tup [V.int 2, V.int 1])) t3 (.tup [V.int 2, V.int 2])) t4 (.tup [V.int 2, V.int 3])) t5 (.tup [V.int 2, V.int 4])) t6 (.tup [V.int 3, V.int 2])) := ⟨t6, rfl, .inl (.inl upd_same)⟩
    have A6 := (A5.mono (S := fun v kc => PairV K v kc (upd (upd (upd (upd (upd (upd H1 t1 (.tup [V.int 2, V.int 0])) t2 (.tup [V.int 2, V.int 1])) t3 (.tup [V.int 2, V.int 2])) t4 (.tup [V.int 2, V.int 3])) t5 (.tup [V.int 2, V.int 4])) t6 (.tup [V.int 3, V.int 2]))) fun _ _ r => r.same (sNew nt6)).snoc g6
    have s1_6 := s1_5.same (sNew (o := (.tup [V.int 3, V.int 2])) nt6)
    refine ⟨fl (by show 2 ≤ 100000; decide), fun t7 nt7 => ?_⟩
    have g7 : PairV K (.ref t7) (3, 3) (upd (upd (upd (upd (upd (upd (upd H1 t1 (.tup [V.int 2, V.int 0])) t2 (.tup [V.int 2, V.int 1])) t3 (.tup [V.int 2, V.int 2])) t4 (.tup [V.int 2, V.int 3])) t5 (.tup [V.int 2, V.int 4])) t6 (.tup [V.int 3, V.int 2])) t7 (.tup [V.int 3, V.int 3])) := ⟨t7, rfl, .inl (.inl upd_same)⟩
    have A7 := (A6.mono (S := fun v kc => PairV K v kc (upd (upd (upd (upd (upd (upd (upd H1 t1 (.tup [V.int 2, V.int 0])) t2 (.tup [V.int 2, V.int 1])) t3 (.tup [V.int 2, V.int 2])) t4 (.tup [V.int 2, V.int 3])) t5 (.tup [V.int 2, V.int 4])) t6 (.tup [V.int 3, V.int 2])) t7 (.tup [V.int 3, V.int 3]))) fun _ _ r => r.same (sNew nt7)).snoc g7
    have s1_7 := s1_6.same (sNew (o := (.tup [V.int 3, V.int 3])) nt7)
    refine ⟨fl (by show 2 ≤ 100000; decide), fun t8 nt8 => ?_⟩
    have g8 : PairV K (.ref t8) (5, 2) (upd (upd (upd (upd (upd (upd (upd (upd H1 t1 (.tup [V.int 2, V.int 0])) t2 (.tup [V.int 2, V.int 1])) t3 (.tup [V.int 2, V.int 2])) t4 (.tup [V.int 2, V.int 3])) t5 (.tup [V.int 2, V.int 4])) t6 (.tup [V.int 3, V.int 2])) t7 (.tup [V.int 3, V.int 3])) t8 (.tup [V.int 5, V.int 2])) := ⟨t8, rfl, .inl (.inl upd_same)⟩
    have A8 := (A7.mono (S := fun v kc => PairV K v kc (upd (upd (upd (upd (upd (upd (upd (upd H1 t1 (.tup [V.int 2, V.int 0])) t2 (.tup [V.int 2, V.int 1])) t3 (.tup [V.int 2, V.int 2])) t4 (.tup [V.int 2, V.int 3])) t5 (.tup [V.int 2, V.int 4])) t6 (.tup [V.int 3, V.int 2])) t7 (.tup [V.int 3, V.int 3])) t8 (.tup [V.int 5, V.int 2]))) fun _ _ r => r.same (sNew nt8)).snoc g8
    have s1_8 := s1_7.same (sNew (o := (.tup [V.int 5, V.int 2])) nt8)
    refine ⟨fl (by show 2 ≤ 100000; decide), fun t9 nt9 => ?_⟩
    have g9 : PairV K (.ref t9) (7, 2) (upd (upd (upd (upd (upd (upd (upd (upd (upd H1 t1 (.tup [V.int 2, V.int 0])) t2 (.tup [V.int 2, V.int 1])) t3 (.tup [V.int 2, V.int 2])) t4 (.tup [V.int 2, V.int 3])) t5 (.tup [V.int 2, V.int 4])) t6 (.tup [V.int 3, V.int 2])) t7 (.tup [V.int 3, V.int 3])) t8 (.tup [V.int 5, V.int 2])) t9 (.tup [V.int 7, V.int 2])) := ⟨t9, rfl, .inl (.inl upd_same)⟩
    have A9 := (A8.mono (S := fun v kc => PairV K v kc (upd (upd (upd (upd (upd (upd (upd (upd (upd H1 t1 (.tup [V.int 2, V.int 0])) t2 (.tup [V.int 2, V.int 1])) t3 (.tup [V.int 2, V.int 2])) t4 (.tup [V.int 2, V.int 3])) t5 (.tup [V.int 2, V.int 4])) t6 (.tup [V.int 3, V.int 2])) t7 (.tup [V.int 3, V.int 3])) t8 (.tup [V.int 5, V.int 2])) t9 (.tup [V.int 7, V.int 2]))) fun _ _ r => r.same (sNew nt9)).snoc g9
    have s1_9 := s1_8.same (sNew (o := (.tup [V.int 7, V.int 2])) nt9)
    refine ⟨fl (by show 2 ≤ 100000; decide), fun t10 nt10 => ?_⟩
    have g10 : PairV K (.ref t10) (13, 2) (upd (upd (upd (upd (upd (upd (upd (upd (upd (upd H1 t1 (.tup [V.int 2, V.int 0])) t2 (.tup [V.int 2, V.int 1])) t3 (.tup [V.int 2, V.int 2])) t4 (.tup [V.int 2, V.int 3])) t5 (.tup [V.int 2, V.int 4])) t6 (.tup [V.int 3, V.int 2])) t7 (.tup [V.int 3, V.int 3])) t8 (.tup [V.int 5, V.int 2])) t9 (.tup [V.int 7, V.int 2])) t10 (.tup [V.int 13, V.int 2])) := ⟨t10, rfl, .inl (.inl upd_same)⟩
    have A10 := (A9.mono (S := fun v kc => PairV K v kc (upd (upd (upd (upd (upd (upd (upd (upd (upd (upd H1 t1 (.tup [V.int 2, V.int 0])) t2 (.tup [V.int 2, V.int 1])) t3 (.tup [V.int 2, V.int 2])) t4 (.tup [V.int 2, V.int 3])) t5 (.tup [V.int 2, V.int 4])) t6 (.tup [V.int 3, V.int 2])) t7 (.tup [V.int 3, V.int 3])) t8 (.tup [V.int 5, V.int 2])) t9 (.tup [V.int 7, V.int 2])) t10 (.tup [V.int 13, V.int 2]))) fun _ _ r => r.same (sNew nt10)).snoc g10
    have s1_10 := s1_9.same (sNew (o := (.tup [V.int 13, V.int 2])) nt10)
    refine ⟨fl (by show 2 ≤ 100000; decide), fun t11 nt11 => ?_⟩
    have g11 : PairV K (.ref t11) (13, 1) (upd (upd (upd (upd (upd (upd (upd (upd (upd (upd (upd H1 t1 (.tup [V.int 2, V.int 0])) t2 (.tup [V.int 2, V.int 1])) t3 (.tup [V.int 2, V.int 2])) t4 (.tup [V.int 2, V.int 3])) t5 (.tup [V.int 2, V.int 4])) t6 (.tup [V.int 3, V.int 2])) t7 (.tup [V.int 3, V.int 3])) t8 (.tup [V.int 5, V.int 2])) t9 (.tup [V.int 7, V.int 2])) t10 (.tup [V.int 13, V.int 2])) t11 (.tup [V.int 13, V.int 1])) := ⟨t11, rfl, .inl (.inl upd_same)⟩
    have A11 := (A10.mono (S := fun v kc => PairV K v kc (upd (upd (upd (upd (upd (upd (upd (upd (upd (upd (upd H1 t1 (.tup [V.int 2, V.int 0])) t2 (.tup [V.int 2, V.int 1])) t3 (.tup [V.int 2, V.int 2])) t4 (.tup [V.int 2, V.int 3])) t5 (.tup [V.int 2, V.int 4])) t6 (.tup [V.int 3, V.int 2])) t7 (.tup [V.int 3, V.int 3])) t8 (.tup [V.int 5, V.int 2])) t9 (.tup [V.int 7, V.int 2])) t10 (.tup [V.int 13, V.int 2])) t11 (.tup [V.int 13, V.int 1]))) fun _ _ r => r.same (sNew nt11)).snoc g11
    have s1_11 := s1_10.same (sNew (o := (.tup [V.int 13, V.int 1])) nt11)
    refine ⟨fl (by show 11 ≤ 100000; decide), fun la nla => ?_⟩
    have sl : SrcAt (upd (upd (upd (upd (upd (upd (upd (upd (upd (upd (upd (upd H1 t1 (.tup [V.int 2, V.int 0])) t2 (.tup [V.int 2, V.int 1])) t3 (.tup [V.int 2, V.int 2])) t4 (.tup [V.int 2, V.int 3])) t5 (.tup [V.int 2, V.int 4])) t6 (.tup [V.int 3, V.int 2])) t7 (.tup [V.int 3, V.int 3])) t8 (.tup [V.int 5, V.int 2])) t9 (.tup [V.int 7, V.int 2])) t10 (.tup [V.int 13, V.int 2])) t11 (.tup [V.int 13, V.int 1])) la (.lst [V.ref t1, V.ref t2, V.ref t3, V.ref t4, V.ref t5, V.ref t6, V.ref t7, V.ref t8, V.ref t9, V.ref t10, V.ref t11])) d ca := s1_11.same (sNew nla)
    have Al := A11.mono (S := fun v kc => PairV K v kc (upd (upd (upd (upd (upd (upd (upd (upd (upd (upd (upd (upd H1 t1 (.tup [V.int 2, V.int 0])) t2 (.tup [V.int 2, V.int 1])) t3 (.tup [V.int 2, V.int 2])) t4 (.tup [V.int 2, V.int 3])) t5 (.tup [V.int 2, V.int 4])) t6 (.tup [V.int 3, V.int 2])) t7 (.tup [V.int 3, V.int 3])) t8 (.tup [V.int 5, V.int 2])) t9 (.tup [V.int 7, V.int 2])) t10 (.tup [V.int 13, V.int 2])) t11 (.tup [V.int 13, V.int 1])) la (.lst [V.ref t1, V.ref t2, V.ref t3, V.ref t4, V.ref t5, V.ref t6, V.ref t7, V.ref t8, V.ref t9, V.ref t10, V.ref t11]))) fun _ _ r => r.same (sNew nla)
    obtain ⟨_, cells, l, m, u, h1, h2⟩ := id s1_11
    refine ⟨d, ca, la, [V.ref t1, V.ref t2, V.ref t3, V.ref t4, V.ref t5, V.ref t6, V.ref t7, V.ref t8, V.ref t9, V.ref t10, V.ref t11], rfl, (ne_of_none h2 nla).symm, (ne_of_none h1 nla).symm, upd_same, by show 1 ≤ 11; decide, by show 11 ≤ 10000; decide, sl, fun i v H' hx e s' => ?_⟩
    obtain ⟨⟨p, n⟩, hpn, hv⟩ := Al.at hx
    obtain ⟨t, rfl, ht⟩ := hv.but sl e
    exact ⟨t, _, rfl, ht, rfl, _, _, rfl, _, _, rfl, rfl, s', p, n, List.mem_of_getElem? hpn, rfl⟩
  rintro σ H2 ⟨s2, p, n, hpn, rfl⟩
  obtain ⟨hN, ev, G⟩ := hall p n hpn
  have hn4 := hN.n4
  have hp2 := hN.pr.1
  have hp13 := hN.pr.2.1
  -- _law_made, _law_every = (Ground(_law_p, _law_n), [])
  refine ⟨fun σ H' => SrcAt H' d ca ∧ ∃ x ea, GroundAt C (.ref x) p n H' ∧ H' ea = some (.lst []) ∧ ea ≠ d ∧ ea ≠ ca ∧ σ = [some (.ref a), some (.ref d), some (iv p), some (iv n), some (.ref x), some (.ref ea), none, none, none, none, none, none, none, none, none, none, none, none], ?_, ?_⟩
  · refine ⟨_, rfl, _, rfl, ?_⟩
    intro x dx nx ndx nex
    refine ⟨x, dx, p, n, rfl, hN.pr, upd_same, fun H3 k3 w3 => ⟨rfl, ?_⟩⟩
    have e3 : Same H2 H3 := Same.made nx ndx k3
    refine ⟨Nat.zero_le _, fun ea nea => ?_⟩
    have e4 : Same H3 (upd H3 ea (.lst [])) := sNew nea
    refine ⟨fl (by show 2 ≤ 100000; decide), fun t nt => ⟨t, _, rfl, .inl (.inl upd_same), rfl, _, _, rfl, _, _, rfl, rfl, ?_⟩⟩
    have e5 : Same (upd H3 ea (.lst [])) (upd (upd H3 ea (.lst [])) t (.tup [V.ref x, V.ref ea])) := sNew nt
    have s3 := s2.same e3
    obtain ⟨_, cells, l, m, u, h1, h2⟩ := id s3
    exact ⟨s3.same (e4.trans e5), x, ea, ⟨x, dx, rfl, e5 _ _ (e4 _ _ w3)⟩, e5 _ _ upd_same, (ne_of_none h1 nea).symm, (ne_of_none h2 nea).symm, rfl⟩
  rintro σ H3 ⟨s3, x, ea, hg3, hea, hd3, hc3, rfl⟩
  -- the codes of all ranks
  refine ⟨fun σ H' => ∃ ea evs y6, LawSt K C d ca ea (.ref x) p n ev evs H' ∧ σ = [some (.ref a), some (.ref d), some (iv p), some (iv n), some (.ref x), some (.ref ea), y6, none, none, none, none, none, none, none, none, none, none, none], ?_, ?_⟩
  · refine ⟨_, rfl, _, _, rfl, rfl, _, rfl, by omega, by omega, ?_⟩
    refine for_range (n := n + 1) (fun i σ H' => SrcAt H' d ca ∧ GroundAt C (.ref x) p n H' ∧ ∃ ea evs y6, σ = [some (.ref a), some (.ref d), some (iv p), some (iv n), some (.ref x), some (.ref ea), y6, none, none, none, none, none, none, none, none, none, none, none] ∧ H' ea = some (.lst evs) ∧ ea ≠ d ∧ ea ≠ ca ∧ evs.length ≤ 1000 * i ∧ All2 (fun v c => CodeV K v c H') evs ((List.range i).flatMap (allCodes p n)))
      ⟨s3, hg3, ea, [], none, rfl, hea, hd3, hc3, Nat.zero_le _, .nil⟩ ?_ ?_
    · rintro i σ H4 hi ⟨s4, hg4, ea, evs, y6, rfl, hea4, hd4, hc4, hel, hh⟩
      refine ⟨_, rfl, _, rfl, _, rfl, _, p, n, i, ?_, hg4, hN, fun D ys H5 nD e5 hD hys => ?_⟩
      · show [V.ref x, V.int (0 + (i : Int))] = _
        rw [Int.zero_add]
      have hyl := hys.1
      have hgs := gauss_small (r := i) hN
      have hacl : (allCodes p n i).length = gauss p n i := by simp [allCodes]
      refine ⟨ea, D, evs, ys, rfl, rfl, e5 _ _ hea4, hD, fl (by omega), fun R nR => ?_⟩
      have e6 : Same H5 (upd H5 R (.lst (evs ++ ys))) := sNew nR
      have s5 := s4.same e5
      obtain ⟨_, cells, l, m, u, h1, h2⟩ := id s5
      refine ⟨s5.same e6, hg4.same (e5.trans e6), R, evs ++ ys, some (V.int (0 + (i : Int))), rfl, upd_same, (ne_of_none h1 nR).symm, (ne_of_none h2 nR).symm, by rw [List.length_append]; omega, ?_⟩
      rw [List.range_succ, List.flatMap_append]
      simp only [List.flatMap_cons, List.flatMap_nil, List.append_nil]
      exact ((hh.mono fun _ _ r => r.same e5).append hys).mono fun _ _ r => r.same e6
    · rintro σ H4 ⟨s4, hg4, ea, evs, y6, rfl, hea4, hd4, hc4, hel, hh⟩
      exact ⟨ea, evs, y6, ⟨s4, hg4, hea4, by rw [← G.hev]; exact hh, hd4, hc4⟩, rfl⟩
  rintro σ H4 ⟨ea, evs, y6, L4, rfl⟩
  have hevl := L4.ec.1
  have hev100 := G.len
  -- the laps
  refine ⟨fun σ H' => True, ?_, fun σ H' _ => rfl⟩
  refine ⟨_, rfl, by decide, by decide, ?_⟩
  refine for_range (n := 4) (fun i σ H' => LawSt K C d ca ea (.ref x) p n ev evs H' ∧ ∃ y7 y8 y9 y10 y11 y12 y13 y14 y15 y16, σ = [some (.ref a), some (.ref d), some (iv p), some (iv n), some (.ref x), some (.ref ea), y6, y7, y8, y9, y10, y11, y12, y13, y14, y15, y16, none])
    ⟨L4, none, none, none, none, none, none, none, none, none, none, rfl⟩ ?_ (fun _ _ _ => trivial)
  rintro i σ H5 hi ⟨L5, y7, y8, y9, y10, y11, y12, y13, y14, y15, y16, rfl⟩
  -- _law_one, _law_other
  have hev1 := G.ne
  refine ⟨fun σ H' => LawSt K C d ca ea (.ref x) p n ev evs H' ∧ ∃ v8 v9 one other, one ∈ ev ∧ other ∈ ev ∧ CodeV K v8 one H' ∧ CodeV K v9 other H' ∧ σ = [some (.ref a), some (.ref d), some (iv p), some (iv n), some (.ref x), some (.ref ea), y6, some (V.int (0 + (i : Int))), some v8, some v9, y10, y11, y12, y13, y14, y15, y16, none], ?_, ?_⟩
  · refine ⟨_, rfl, _, rfl, d, ca, ea, evs, rfl, L5.nc, L5.nd, L5.el, by omega, by omega, L5.src, fun i8 v8 H6 hx8 e6 s6 => ?_⟩
    have L6 := L5.but e6 s6
    refine ⟨_, rfl, _, rfl, d, ca, ea, evs, rfl, L6.nc, L6.nd, L6.el, by omega, by omega, L6.src, fun i9 v9 H7 hx9 e7 s7 => ?_⟩
    obtain ⟨one, hone, h8⟩ := L6.ec.at hx8
    obtain ⟨other, hother, h9⟩ := (L6.but e7 s7).ec.at hx9
    refine ⟨fl (by show 2 ≤ 100000; decide), fun t nt => ⟨t, _, rfl, .inl (.inl upd_same), rfl, _, _, rfl, _, _, rfl, rfl, ?_⟩⟩
    exact ⟨(L6.but e7 s7).same (sNew nt), v8, v9, one, other, List.mem_of_getElem? hone, List.mem_of_getElem? hother, (h8.but s6 e7).same (sNew nt), h9.same (sNew nt), rfl⟩
  rintro σ H6 ⟨L6, v8, v9, one, other, ho, hr', c8, c9, rfl⟩
  obtain ⟨low, high, LP⟩ := G.lap one ho other hr'
  have hlow : low ∈ ev := (List.mem_filter.mp (List.mem_of_getLast? LP.hlow)).1
  have hhigh : high ∈ ev := (List.mem_filter.mp (List.mem_of_head? LP.hhigh)).1
  have PO := G.pair low hlow high hhigh LP.win
  have hB : ∀ c ∈ ev, c.length ≤ 1000 ∧ ∀ r ∈ c, r.length ≤ 1000 := fun c hc => ⟨Nat.le_trans (G.rank c hc) (by decide), fun r hr0 => Nat.le_trans (G.rows c hc r hr0) (by decide)⟩
  have hB2 : ∀ c ∈ ev, c.length ≤ 100 ∧ ∀ r ∈ c, r.length ≤ 100 := fun c hc => ⟨Nat.le_trans (G.rank c hc) (by decide), fun r hr0 => Nat.le_trans (G.rows c hc r hr0) (by decide)⟩
  have e66 : Same H6 H6 := Same.refl _
  -- _law_below
  refine ⟨fun σ H' => Same H6 H' ∧ ∃ ba, ListAt K ba (belowOf p n ev one other) H' ∧ σ = [some (.ref a), some (.ref d), some (iv p), some (iv n), some (.ref x), some (.ref ea), y6, some (V.int (0 + (i : Int))), some v8, some v9, some (.ref ba), y11, y12, y13, y14, y15, y16, none], ?_, ?_⟩
  · refine ⟨_, rfl, ea, rfl, ⟨_, SqL.of L6.el⟩, ?_⟩
    refine lcP (walk_list (xs := evs)) (by omega) (fun H9 e9 => SqL.of (e9 _ _ (e66 _ _ L6.el))) (fun i => wv p n (ev.getD i []) one && wv p n (ev.getD i []) other) (fun i => ev.getD i []) (CodeV K) codeStays (fun i y H9 H9' P' hi s9 hy k => ?_) (fun D ys H9 nD e9 hD hh => ?_)
    · obtain ⟨rfl, hy⟩ := hy
      obtain ⟨c, ec, hc⟩ := L6.ec.at hy
      have hcm := List.mem_of_getElem? ec
      refine k _ _ rfl (Same.refl _) (fun H10 s10 Q' q' => ?_) (fun _ H10 s10 Q' q' => ⟨_, rfl, q' _ _ (Same.refl _) (by rw [getD_of ec]; exact hc.same ((e66.trans s9).trans s10))⟩)
      have E10 : Same H6 H10 := (e66.trans s9).trans s10
      rw [getD_of ec] at q'
      refine ⟨_, rfl, _, rfl, _, rfl, .ref x, _, _, p, n, c, one, _, rfl, L6.gr.same E10, by omega, by omega, (hc.same (E10)), (hB c hcm).1, (hB c hcm).2, (c8.same (E10)), (hB one ho).2, G.win c hcm one ho, fun H11 e11 => ⟨_, rfl, ?_⟩⟩
      cases hb1 : wv p n c one with
      | false =>
        refine iteF ?_
        rw [hb1] at q'
        exact q' _ e11
      | true =>
        refine iteT ?_
        rw [hb1] at q'
        have E11 : Same H6 H11 := E10.trans e11
        refine ⟨_, rfl, _, rfl, _, rfl, .ref x, _, _, p, n, c, other, _, rfl, L6.gr.same E11, by omega, by omega, (hc.same (E11)), (hB c hcm).1, (hB c hcm).2, (c9.same (E11)), (hB other hr').2, G.win c hcm other hr', fun H12 e12 => ⟨_, rfl, ?_⟩⟩
        exact q' _ (e11.trans e12)
    rw [outOf_flt ev (fun c => wv p n c one && wv p n c other) hevl] at hh
    exact ⟨e9, D, ⟨ys, hD, hh⟩, rfl⟩
  rintro σ H7 ⟨e7, ba, hb7, rfl⟩
  -- _law_above
  refine ⟨fun σ H' => Same H6 H' ∧ ListAt K ba (belowOf p n ev one other) H' ∧ ∃ aa, ListAt K aa (aboveOf p n ev one other) H' ∧ σ = [some (.ref a), some (.ref d), some (iv p), some (iv n), some (.ref x), some (.ref ea), y6, some (V.int (0 + (i : Int))), some v8, some v9, some (.ref ba), some (.ref aa), y12, y13, y14, y15, y16, none], ?_, ?_⟩
  · refine ⟨_, rfl, ea, rfl, ⟨_, SqL.of (e7 _ _ L6.el)⟩, ?_⟩
    refine lcP (walk_list (xs := evs)) (by omega) (fun H9 e9 => SqL.of (e9 _ _ (e7 _ _ L6.el))) (fun i => wv p n one (ev.getD i []) && wv p n other (ev.getD i [])) (fun i => ev.getD i []) (CodeV K) codeStays (fun i y H9 H9' P' hi s9 hy k => ?_) (fun D ys H9 nD e9 hD hh => ?_)
    · obtain ⟨rfl, hy⟩ := hy
      obtain ⟨c, ec, hc⟩ := L6.ec.at hy
      have hcm := List.mem_of_getElem? ec
      refine k _ _ rfl (Same.refl _) (fun H10 s10 Q' q' => ?_) (fun _ H10 s10 Q' q' => ⟨_, rfl, q' _ _ (Same.refl _) (by rw [getD_of ec]; exact hc.same ((e7.trans s9).trans s10))⟩)
      have E10 : Same H6 H10 := (e7.trans s9).trans s10
      rw [getD_of ec] at q'
      refine ⟨_, rfl, _, rfl, _, rfl, .ref x, _, _, p, n, one, c, _, rfl, L6.gr.same E10, by omega, by omega, (c8.same (E10)), (hB one ho).1, (hB one ho).2, (hc.same (E10)), (hB c hcm).2, G.win one ho c hcm, fun H11 e11 => ⟨_, rfl, ?_⟩⟩
      cases hb1 : wv p n one c with
      | false =>
        refine iteF ?_
        rw [hb1] at q'
        exact q' _ e11
      | true =>
        refine iteT ?_
        rw [hb1] at q'
        have E11 : Same H6 H11 := E10.trans e11
        refine ⟨_, rfl, _, rfl, _, rfl, .ref x, _, _, p, n, other, c, _, rfl, L6.gr.same E11, by omega, by omega, (c9.same (E11)), (hB other hr').1, (hB other hr').2, (hc.same (E11)), (hB c hcm).2, G.win other hr' c hcm, fun H12 e12 => ⟨_, rfl, ?_⟩⟩
        exact q' _ (e11.trans e12)
    rw [outOf_flt ev (fun c => wv p n one c && wv p n other c) hevl] at hh
    exact ⟨e7.trans e9, hb7.same e9, D, ⟨ys, hD, hh⟩, rfl⟩
  rintro σ H8 ⟨e8, hb8, aa, ha8, rfl⟩
  obtain ⟨yb, hyb, hhb⟩ := hb8
  obtain ⟨ya, hya, hha⟩ := ha8
  have ebl : belowOf p n ev one other = (belowOf p n ev one other).dropLast ++ [low] := by
    obtain ⟨zs, ez⟩ := List.getLast?_eq_some_iff.mp LP.hlow
    rw [ez, List.dropLast_concat]
  obtain ⟨ab, eab⟩ := List.head?_eq_some_iff.mp LP.hhigh
  rw [ebl] at hhb
  rw [eab] at hha
  have hlows := LP.lows
  have hhighs := LP.highs
  rw [eab] at hhighs
  have hbl : (belowOf p n ev one other).dropLast.length ≤ 100 := by
    have z := List.length_filter_le (fun c => wv p n c one && wv p n c other) ev
    have z2 : (belowOf p n ev one other).length ≤ ev.length := z
    rw [List.length_dropLast]
    omega
  have hab : ab.length ≤ 100 := by
    have z := List.length_filter_le (fun c => wv p n one c && wv p n other c) ev
    have z2 : (aboveOf p n ev one other).length ≤ ev.length := z
    rw [eab, List.length_cons] at z2
    omega
  generalize (belowOf p n ev one other).dropLast = bl at hhb hlows hbl
  obtain ⟨yb0, vl, rfl, hhb0, c12⟩ := hhb.last
  obtain ⟨vh, ya1, rfl, c13, hha1⟩ := hha.head
  have hbl0 := hhb0.1
  have hal1 := hha1.1
  obtain ⟨lva, lvs, rfl, hlva, hlvs⟩ := id c12
  obtain ⟨hva, hvs, rfl, hhva, hhvs⟩ := id c13
  have hlvl := hlvs.1
  have hhvl := hhvs.1
  clear ebl eab hhb hha
  -- if common(..) != _law_below[-1] or joined(..) != _law_above[0]
  refine ⟨fun σ H' => Same H8 H' ∧ σ = [some (.ref a), some (.ref d), some (iv p), some (iv n), some (.ref x), some (.ref ea), y6, some (V.int (0 + (i : Int))), some v8, some v9, some (.ref ba), some (.ref aa), y12, y13, y14, y15, y16, none], ?_, ?_⟩
  · refine ⟨_, rfl, _, rfl, _, rfl, .ref x, _, _, p, n, one, other, low, rfl, L6.gr.same e8, hN.pr, by omega, c8.same e8, (hB2 one ho).1, (hB2 one ho).2, c9.same e8, (hB2 other hr').1, (hB2 other hr').2, LP.com, fun vc H9 e9 hvc => ?_⟩
    refine ⟨_, rfl, _, rfl, ba, _, (-1), _, rfl, rfl, SqL.of (e9 _ _ hyb), atI_last yb0 _, encC low, encC low, hvc.dp, (c12.same e9).dp, shC low, shC low, _, rfl, ?_⟩
    refine ite2 (fun z => absurd z (by rw [eqvC]; simp)) (fun _ => ?_)
    refine ⟨_, rfl, _, rfl, _, rfl, .ref x, _, _, p, n, one, other, high, rfl, L6.gr.same (e8.trans e9), hN.pr, c8.same (e8.trans e9), (hB2 one ho).1, (hB2 one ho).2, c9.same (e8.trans e9), (hB2 other hr').1, (hB2 other hr').2, LP.joi, fun vj H10 e10 hvj => ?_⟩
    refine ⟨_, rfl, aa, _, (0 : Int), _, rfl, rfl, SqL.of (e10 _ _ (e9 _ _ hya)), atI_nat (j := 0) rfl, encC high, encC high, hvj.dp, (c13.same (e9.trans e10)).dp, shC high, shC high, _, rfl, ?_⟩
    refine ite2 (fun z => absurd z (by rw [eqvC]; simp)) (fun _ => ?_)
    exact ⟨e9.trans e10, rfl⟩
  rintro σ H9 ⟨e9, rfl⟩
  have e69 := e8.trans e9
  -- if max(..) >= .. or min(..) <= ..
  refine ⟨fun σ H' => Same H9 H' ∧ σ = [some (.ref a), some (.ref d), some (iv p), some (iv n), some (.ref x), some (.ref ea), y6, some (V.int (0 + (i : Int))), some v8, some v9, some (.ref ba), some (.ref aa), y12, y13, y14, y15, y16, none], ?_, ?_⟩
  · refine ⟨_, rfl, _, rfl, _, rfl, ba, _, rfl, SqL.of (e9 _ _ hyb), fun sp nsp => ?_⟩
    rw [cut_init]
    refine ⟨sp, rfl, ⟨_, SqL.of upd_same⟩, ?_⟩
    refine lcP (walk_list (xs := yb0)) (by omega) (fun H11 e11 => SqL.of (e11 _ _ upd_same)) (fun _ => true) (fun i => (((bl.getD i []).length : Nat) : Int)) (fun v (b : Int) _ => v = V.int b) flatStays (fun i y H11 H12 P' hi s11 hy k => ?_) (fun D ys H11 nD e11 hD hh => ?_)
    · obtain ⟨rfl, hy⟩ := hy
      obtain ⟨c, ec, hc⟩ := hhb0.at hy
      refine k _ _ rfl (Same.refl _) yes_ev fun _ H13 s13 Q' q' => ?_
      obtain ⟨cva, cvs, rfl, hcva, hcvs⟩ := hc.same (((e9.trans (sNew (o := _) nsp)).trans s11).trans s13)
      refine ⟨_, rfl, cva, cvs, rfl, .inr hcva, q' _ _ (Same.refl _) ?_⟩
      rw [getD_of ec, hcvs.1]
    have ey := all2_map (H := H11) hh
    rw [outOf_map bl (fun c => ((c.length : Nat) : Int)) hhb0.1] at ey
    subst ey
    have es : Same H9 (upd H9 sp (.lst yb0)) := sNew nsp
    refine ⟨_, rfl, fl (by show 1 ≤ 100000; decide), fun l nl => ⟨D, l, _, [V.int (-1)], rfl, rfl, sNew nl _ _ hD, upd_same, fl (by simp; omega), fun R nR => ?_⟩⟩
    refine ⟨R, bl.map (fun c => ((c.length : Nat) : Int)) ++ [-1], rfl, SqL.of (by rw [upd_same, List.map_append]; rfl), by simp, fun m hm _ => ?_⟩
    have E12 : Same H9 (upd (upd H11 l (.lst [V.int (-1)])) R (.lst ((bl.map (fun c => ((c.length : Nat) : Int))).map V.int ++ [V.int (-1)]))) := (es.trans e11).trans ((sNew nl).trans (sNew nR))
    generalize upd (upd H11 l (.lst [V.int (-1)])) R (.lst ((bl.map (fun c => ((c.length : Nat) : Int))).map V.int ++ [V.int (-1)])) = H12 at E12
    have hmlt : m < (lvs.length : Int) := by
      rw [hlvl]
      rcases List.mem_append.mp hm with z | z
      · obtain ⟨c, hc, rfl⟩ := List.mem_map.mp z
        have := hlows c hc
        omega
      · cases List.mem_singleton.mp z
        omega
    refine ⟨_, rfl, _, rfl, ba, _, (-1), _, rfl, rfl, SqL.of (E12 _ _ (e9 _ _ hyb)), atI_last yb0 _, lva, lvs, rfl, .inr (sTup (e9.trans E12) hlva), _, _, rfl, rfl, _, rfl, ?_⟩
    refine ite2 (fun z => absurd (of_decide_eq_true z) (by omega)) (fun _ => ?_)
    refine ⟨_, rfl, _, rfl, aa, _, rfl, SqL.of (E12 _ _ (e9 _ _ hya)), fun sp2 nsp2 => ?_⟩
    rw [cut_tail]
    refine ⟨sp2, rfl, ⟨_, SqL.of upd_same⟩, ?_⟩
    refine lcP (walk_list (xs := ya1)) (by omega) (fun H21 e21 => SqL.of (e21 _ _ upd_same)) (fun _ => true) (fun i => (((ab.getD i []).length : Nat) : Int)) (fun v (b : Int) _ => v = V.int b) flatStays (fun i y H21 H12 P' hi s11 hy k => ?_) (fun D2 ys2 H21 nD2 e21 hD2 hh => ?_)
    · obtain ⟨rfl, hy⟩ := hy
      obtain ⟨c, ec, hc⟩ := hha1.at hy
      refine k _ _ rfl (Same.refl _) yes_ev fun _ H13 s13 Q' q' => ?_
      obtain ⟨cva, cvs, rfl, hcva, hcvs⟩ := hc.same ((((e9.trans E12).trans (sNew (o := _) nsp2)).trans s11).trans s13)
      refine ⟨_, rfl, cva, cvs, rfl, .inr hcva, q' _ _ (Same.refl _) ?_⟩
      rw [getD_of ec, hcvs.1]
    have ey2 := all2_map (H := H21) hh
    rw [outOf_map ab (fun c => ((c.length : Nat) : Int)) hha1.1] at ey2
    subst ey2
    have es2 : Same H12 (upd H12 sp2 (.lst ya1)) := sNew nsp2
    refine ⟨fl (by show 1 ≤ 100000; decide), fun l2 nl2 => ⟨D2, l2, _, [V.int 9], rfl, rfl, sNew nl2 _ _ hD2, upd_same, fl (by simp; omega), fun R2 nR2 => ?_⟩⟩
    refine ⟨R2, ab.map (fun c => ((c.length : Nat) : Int)) ++ [9], rfl, SqL.of (by rw [upd_same, List.map_append]; rfl), by simp, fun m2 hm2 _ => ?_⟩
    have E13 : Same H12 (upd (upd H21 l2 (.lst [V.int 9])) R2 (.lst ((ab.map (fun c => ((c.length : Nat) : Int))).map V.int ++ [V.int 9]))) := (es2.trans e21).trans ((sNew nl2).trans (sNew nR2))
    generalize upd (upd H21 l2 (.lst [V.int 9])) R2 (.lst ((ab.map (fun c => ((c.length : Nat) : Int))).map V.int ++ [V.int 9])) = H13 at E13
    have hn9 := LP.nine
    have hmgt : (hvs.length : Int) < m2 := by
      rw [hhvl]
      rcases List.mem_append.mp hm2 with z | z
      · obtain ⟨c, hc, rfl⟩ := List.mem_map.mp z
        have := hhighs c hc
        omega
      · cases List.mem_singleton.mp z
        omega
    refine ⟨_, rfl, aa, _, (0 : Int), _, rfl, rfl, SqL.of (E13 _ _ (E12 _ _ (e9 _ _ hya))), atI_nat (j := 0) rfl, hva, hvs, rfl, .inr (sTup ((e9.trans E12).trans E13) hhva), _, _, rfl, rfl, _, rfl, ?_⟩
    refine ite2 (fun z => absurd (of_decide_eq_true z) (by omega)) (fun _ => ?_)
    exact ⟨E12.trans E13, rfl⟩
  rintro σ H10 ⟨e10, rfl⟩
  have e610 := e69.trans e10
  -- _law_low, _law_high
  have e810 := e9.trans e10
  refine ⟨fun σ H' => Same H10 H' ∧ σ = [some (.ref a), some (.ref d), some (iv p), some (iv n), some (.ref x), some (.ref ea), y6, some (V.int (0 + (i : Int))), some v8, some v9, some (.ref ba), some (.ref aa), some (.ref lva), some (.ref hva), y14, y15, y16, none], ?_, ?_⟩
  · refine ⟨_, rfl, _, rfl, ba, _, (-1), _, rfl, rfl, SqL.of (e810 _ _ hyb), atI_last yb0 _, _, rfl, aa, _, (0 : Int), _, rfl, rfl, SqL.of (e810 _ _ hya), atI_nat (j := 0) rfl, fl (by show 2 ≤ 100000; decide), fun t nt => ⟨t, _, rfl, .inl (.inl upd_same), rfl, _, _, rfl, _, _, rfl, rfl, sNew nt, rfl⟩⟩
  rintro σ H11 ⟨e11, rfl⟩
  have e611 := e610.trans e11
  have LL := L6.same e611
  have d12 := c12.same (e810.trans e11)
  have d13 := c13.same (e810.trans e11)
  -- _law_due
  refine ⟨fun σ H' => Same H11 H' ∧ ∃ da, ListAt K da (rowsOf p n ev low high) H' ∧ σ = [some (.ref a), some (.ref d), some (iv p), some (iv n), some (.ref x), some (.ref ea), y6, some (V.int (0 + (i : Int))), some v8, some v9, some (.ref ba), some (.ref aa), some (.ref lva), some (.ref hva), some (.ref da), y15, y16, none], ?_, ?_⟩
  · refine ⟨_, rfl, ea, rfl, ⟨_, SqL.of LL.el⟩, ?_⟩
    refine lcP (walk_list (xs := evs)) (by omega) (fun J9 e9 => SqL.of (e9 _ _ ((Same.refl _) _ _ LL.el))) (fun i => wv p n low (ev.getD i []) && wv p n (ev.getD i []) high) (fun i => ev.getD i []) (CodeV K) codeStays (fun i y J9 J9' P' hi s9 hy k => ?_) (fun D ys J9 nD e9 hD hh => ?_)
    · obtain ⟨rfl, hy⟩ := hy
      obtain ⟨c, ec, hc⟩ := LL.ec.at hy
      have hcm := List.mem_of_getElem? ec
      refine k _ _ rfl (Same.refl _) (fun J10 s10 Q' q' => ?_) (fun _ J10 s10 Q' q' => ⟨_, rfl, q' _ _ (Same.refl _) (by rw [getD_of ec]; exact hc.same (((Same.refl _).trans s9).trans s10))⟩)
      have E10 : Same H11 J10 := ((Same.refl _).trans s9).trans s10
      rw [getD_of ec] at q'
      refine ⟨_, rfl, _, rfl, _, rfl, .ref x, _, _, p, n, low, c, _, rfl, LL.gr.same E10, by omega, by omega, (d12.same (E10)), (hB low hlow).1, (hB low hlow).2, (hc.same (E10)), (hB c hcm).2, G.win low hlow c hcm, fun J11 e11 => ⟨_, rfl, ?_⟩⟩
      cases hb1 : wv p n low c with
      | false =>
        refine iteF ?_
        rw [hb1] at q'
        exact q' _ e11
      | true =>
        refine iteT ?_
        rw [hb1] at q'
        have E11 : Same H11 J11 := E10.trans e11
        refine ⟨_, rfl, _, rfl, _, rfl, .ref x, _, _, p, n, c, high, _, rfl, LL.gr.same E11, by omega, by omega, (hc.same (E11)), (hB c hcm).1, (hB c hcm).2, (d13.same (E11)), (hB high hhigh).2, G.win c hcm high hhigh, fun J12 e12 => ⟨_, rfl, ?_⟩⟩
        exact q' _ (e11.trans e12)
    rw [outOf_flt ev (fun c => wv p n low c && wv p n c high) hevl] at hh
    exact ⟨e9, D, ⟨ys, hD, hh⟩, rfl⟩
  rintro σ H12 ⟨e12, da, hda, rfl⟩
  -- _law_rows = _law_due; _law_due = []
  refine ⟨_, rfl, Nat.zero_le _, fun u0 nu0 => ?_⟩
  have e13 : Same H12 (upd H12 u0 (.lst [])) := sNew nu0
  have hu0 : (upd H12 u0 (.lst [])) u0 = some (.lst []) := upd_same
  have hda13 := hda.same e13
  generalize upd H12 u0 (.lst []) = H13 at e13 hu0 hda13 ⊢
  have e613 := (e611.trans e12).trans e13
  have pA := PO.all
  have pB := PO.one
  have pC := PO.cnt
  have pD := PO.small
  have hremp : ((rowsOf p n ev low high).filter fun c => decide (c.length = 0)).length < 2 := by
    have z := (List.Sublist.filter (fun c : Code => decide (c.length = 0)) (List.filter_sublist (p := fun c => wv p n low c && wv p n c high) (l := ev))).length_le
    have z2 := G.emp
    exact Nat.lt_of_le_of_lt z z2
  have hrlen : (rowsOf p n ev low high).length ≤ 100 := Nat.le_trans (List.length_filter_le _ _) hev100
  clear hda
  generalize rowsOf p n ev low high = rows at hda13 pA pB pC pD hremp hrlen
  have hrk : ∀ k, (rows.filter fun c => decide (c.length = k)).length ≤ 100 := fun k => Nat.le_trans (List.length_filter_le _ _) hrlen
  -- the rows by their lengths, each sorted
  refine ⟨fun σ H' => Same H13 H' ∧ ∃ ua y16, ListAt K ua (dueOf n rows) H' ∧ σ = [some (.ref a), some (.ref d), some (iv p), some (iv n), some (.ref x), some (.ref ea), y6, some (V.int (0 + (i : Int))), some v8, some v9, some (.ref ba), some (.ref aa), some (.ref lva), some (.ref hva), some (.ref ua), some (.ref da), y16, none], ?_, ?_⟩
  · refine ⟨_, rfl, _, _, rfl, rfl, _, rfl, by omega, by omega, ?_⟩
    refine for_range (n := n + 1) (fun i2 σ H' => Same H13 H' ∧ ∃ ua us y16, H' ua = some (.lst us) ∧ us.length ≤ 1000 * i2 ∧ All2 (fun v c => CodeV K v c H') us ((List.range i2).flatMap fun k => sortUp (rows.filter fun c => decide (c.length = k))) ∧ σ = [some (.ref a), some (.ref d), some (iv p), some (iv n), some (.ref x), some (.ref ea), y6, some (V.int (0 + (i : Int))), some v8, some v9, some (.ref ba), some (.ref aa), some (.ref lva), some (.ref hva), some (.ref ua), some (.ref da), y16, none])
      ⟨Same.refl _, u0, [], y16, hu0, Nat.zero_le _, .nil, rfl⟩ ?_ ?_
    · rintro i2 σ H14 hi2 ⟨e14, ua, us, y16, hua, hul, hus, rfl⟩
      obtain ⟨ds, hds, hhd⟩ := hda13.same e14
      have hdl := hhd.1
      refine ⟨_, rfl, _, rfl, da, rfl, ⟨_, SqL.of hds⟩, ?_⟩
      refine lcP (walk_list (xs := ds)) (by omega) (fun H15 e15 => SqL.of (e15 _ _ hds)) (fun j => decide ((rows.getD j []).length = i2)) (fun j => rows.getD j []) (CodeV K) codeStays (fun j y H15 H15' P' hj s15 hy k => ?_) (fun D ys H15 nD e15 hD hh => ?_)
      · obtain ⟨rfl, hy⟩ := hy
        obtain ⟨c, ec, hc⟩ := hhd.at hy
        refine k _ _ rfl (Same.refl _) (fun H16 s16 Q' q' => ?_) (fun _ H16 s16 Q' q' => ⟨_, rfl, q' _ _ (Same.refl _) (by rw [getD_of ec]; exact hc.same (s15.trans s16))⟩)
        rw [getD_of ec] at q'
        obtain ⟨cva, cvs, rfl, hcva, hcvs⟩ := hc.same (s15.trans s16)
        refine ⟨_, rfl, cva, cvs, rfl, .inr hcva, _, rfl, rfl, _, rfl, ?_⟩
        have eb : decide (V.int (cvs.length : Int) = V.int (0 + (i2 : Int))) = decide (c.length = i2) := by
          rw [dec_int, hcvs.1, Bool.eq_iff_iff]
          simp
          omega
        show Q' (decide (V.int (cvs.length : Int) = V.int (0 + (i2 : Int)))) _
        rw [eb]
        exact q' _ (Same.refl _)
      rw [outOf_flt rows (fun c => decide (c.length = i2)) hdl] at hh
      have hyl := hh.1
      have hrk2 := hrk i2
      by_cases h0 : i2 = 0
      · have hsh : (rows.filter fun c => decide (c.length = i2)).length < 2 := by
          rw [h0]
          exact hremp
        refine .inl ⟨D, ys, rfl, SqL.of hD, by omega, fun D2 nD2 => ?_⟩
        obtain ⟨ys2, eys⟩ : ∃ ys2, ys2 = ys := ⟨_, rfl⟩
        rw [← eys]
        have hs2 : All2 (fun v c => CodeV K v c (upd H15 D2 (.lst ys2))) ys2 (sortUp (rows.filter fun c => decide (c.length = i2))) := by
          rw [sortUp_short hsh, eys]
          exact hh.mono fun _ _ r => r.same (sNew nD2)
        have hl2 : ys2.length ≤ 100 := by
          rw [eys]
          omega
        have e16 : Same H15 (upd H15 D2 (.lst ys2)) := sNew nD2
        refine ⟨ua, D2, us, ys2, rfl, rfl, e16 _ _ (e15 _ _ hua), upd_same, fl (by omega), fun R nR => ?_⟩
        have e17 : Same (upd H15 D2 (.lst ys2)) (upd (upd H15 D2 (.lst ys2)) R (.lst (us ++ ys2))) := sNew nR
        refine ⟨(e14.trans (e15.trans e16)).trans e17, R, us ++ ys2, some (V.int (0 + (i2 : Int))), upd_same, by rw [List.length_append]; omega, ?_, rfl⟩
        rw [List.range_succ, List.flatMap_append]
        simp only [List.flatMap_cons, List.flatMap_nil, List.append_nil]
        exact ((hus.mono fun _ _ r => r.same (e15.trans e16)).append hs2).mono fun _ _ r => r.same e17
      · refine .inr ⟨D, ys, (rows.filter fun c => decide (c.length = i2)).map encC, rfl, SqL.of hD, dpAll2 (fun _ _ r => r.dp) hh, sortOkC (fun c hc z => ?_), fun D2 ys2 nD2 hys => ?_⟩
        · have z2 := of_decide_eq_true (List.mem_filter.mp hc).2
          rw [z] at z2
          exact h0 z2.symm
        rw [srtUp] at hys
        have hs2 : All2 (fun v c => CodeV K v c (upd H15 D2 (.lst ys2))) ys2 (sortUp (rows.filter fun c => decide (c.length = i2))) := (codes_back hys).mono fun _ _ r => r.same (sNew nD2)
        have hl2 : ys2.length ≤ 100 := by
          have z1 := hs2.1
          rw [(sortUp_perm _).length_eq] at z1
          omega
        have e16 : Same H15 (upd H15 D2 (.lst ys2)) := sNew nD2
        refine ⟨ua, D2, us, ys2, rfl, rfl, e16 _ _ (e15 _ _ hua), upd_same, fl (by omega), fun R nR => ?_⟩
        have e17 : Same (upd H15 D2 (.lst ys2)) (upd (upd H15 D2 (.lst ys2)) R (.lst (us ++ ys2))) := sNew nR
        refine ⟨(e14.trans (e15.trans e16)).trans e17, R, us ++ ys2, some (V.int (0 + (i2 : Int))), upd_same, by rw [List.length_append]; omega, ?_, rfl⟩
        rw [List.range_succ, List.flatMap_append]
        simp only [List.flatMap_cons, List.flatMap_nil, List.append_nil]
        exact ((hus.mono fun _ _ r => r.same (e15.trans e16)).append hs2).mono fun _ _ r => r.same e17
    · rintro σ H14 ⟨e14, ua, us, y16', hua, _, hus, rfl⟩
      exact ⟨e14, ua, y16', ⟨us, hua, hus⟩, rfl⟩
  clear y16
  rintro σ H14 ⟨e14, ua, y16, hua, rfl⟩
  have e614 := e613.trans e14
  have e1114 := (e12.trans e13).trans e14
  have LM := L6.same e614
  have TW : TwoOk K C (.ref x) (.ref lva) (.ref hva) p n low high H14 := ⟨LM.gr, hN, d12.same e1114, d13.same e1114, (hB2 low hlow).1, (hB2 high hhigh).1, (hB2 low hlow).2, (hB2 high hhigh).2, PO.base⟩
  generalize dueOf n rows = due at hua pA pB pC pD
  -- if all_codes_between(..) != _law_due or between_codes(..) != [..]
  refine ⟨fun σ H' => Same H14 H' ∧ σ = [some (.ref a), some (.ref d), some (iv p), some (iv n), some (.ref x), some (.ref ea), y6, some (V.int (0 + (i : Int))), some v8, some v9, some (.ref ba), some (.ref aa), some (.ref lva), some (.ref hva), some (.ref ua), some (.ref da), y16, none], ?_, ?_⟩
  · refine ⟨_, rfl, _, rfl, _, rfl, .ref x, _, _, p, n, low, high, due, rfl, TW, PO.le, pA, by omega, fun more r hm hr0 => srtOk_of (PO.srt more r hm hr0), fun D ys H15 nD e15 hD hys => ?_⟩
    obtain ⟨us, hus, hhu⟩ := hua.same e15
    have hul := hhu.1
    refine ⟨_, rfl, .list (due.map encC), .list (due.map encC), CodesV.dp ⟨D, ys, rfl, SqL.of hD, hys⟩, CodesV.dp ⟨ua, us, rfl, SqL.of hus, hhu⟩, shCodes due, shCodes due, _, rfl, ?_⟩
    have eqvL : ∀ l : List Code, PyData.eqv (.list (l.map encC)) (.list (l.map encC)) = true := fun l => by
      simp only [PyData.eqv]
      rw [eqvCodes]
      simp
    refine ite2 (fun z => absurd z (by rw [eqvL]; simp)) (fun _ => ?_)
    refine ⟨_, rfl, _, rfl, _, rfl, .ref x, _, _, p, n, low, high, _, rfl, TW.same e15, pB, srtOk_of (PO.srt1 _ pB), fun D2 ys2 H16 nD2 e16 hD2 hys2 => ?_⟩
    refine ⟨_, rfl, ua, rfl, ⟨_, SqL.of (e16 _ _ hus)⟩, ?_⟩
    have tl := TW.h1.same (e15.trans e16)
    obtain ⟨lva', lvs', elv, hlva', hlvs'⟩ := tl
    cases elv
    refine lcP (walk_list (xs := us)) (by omega) (fun H17 e17 => SqL.of (e17 _ _ (e16 _ _ hus))) (fun j => decide ((due.getD j []).length = low.length + 1)) (fun j => due.getD j []) (CodeV K) codeStays (fun j y H17 H17' P' hj s17 hy k => ?_) (fun D3 ys3 H17 nD3 e17 hD3 hh => ?_)
    · obtain ⟨rfl, hy⟩ := hy
      obtain ⟨c, ec, hc⟩ := hhu.at hy
      refine k _ _ rfl (Same.refl _) (fun H18 s18 Q' q' => ?_) (fun _ H18 s18 Q' q' => ⟨_, rfl, q' _ _ (Same.refl _) (by rw [getD_of ec]; exact hc.same ((e16.trans s17).trans s18))⟩)
      rw [getD_of ec] at q'
      obtain ⟨cva, cvs, rfl, hcva, hcvs⟩ := hc.same ((e16.trans s17).trans s18)
      refine ⟨_, rfl, cva, cvs, rfl, .inr hcva, _, rfl, _, lvs', rfl, .inr (sTup (s17.trans s18) hlva'), _, _, rfl, rfl, rfl, _, rfl, ?_⟩
      have eb : decide (V.int (cvs.length : Int) = V.int ((lvs'.length : Int) + 1)) = decide (c.length = low.length + 1) := by
        rw [dec_int, hcvs.1, hlvs'.1, Bool.eq_iff_iff]
        simp
        omega
      show Q' (decide (V.int (cvs.length : Int) = V.int ((lvs'.length : Int) + 1))) _
      rw [eb]
      exact q' _ (Same.refl _)
    rw [outOf_flt due (fun c => decide (c.length = low.length + 1)) hul] at hh
    have hv2 : CodesV K (.ref D2) (due.filter fun c => decide (c.length = low.length + 1)) H17 := ⟨D2, ys2, rfl, SqL.of (e17 _ _ hD2), hys2.mono fun _ _ r => r.same e17⟩
    have hv3 : CodesV K (.ref D3) (due.filter fun c => decide (c.length = low.length + 1)) H17 := ⟨D3, ys3, rfl, SqL.of hD3, hh⟩
    refine ⟨_, _, hv2.dp, hv3.dp, shCodes _, shCodes _, _, rfl, ?_⟩
    refine ite2 (fun z => absurd z (by rw [eqvL]; simp)) (fun _ => ?_)
    exact ⟨(e15.trans e16).trans e17, rfl⟩
  rintro σ H15 ⟨e15, rfl⟩
  have hTW := TW.same e15
  have hhn : high.length ≤ n := by
    obtain ⟨c, _, z, _⟩ := G.comp high hhigh
    omega
  have hua15 := hua.same e15
  have hcnt : ∀ m ∈ (List.range (n + 1)).map (fun k => (((due.filter fun c => decide (c.length = k)).length : Nat) : Int)), 0 ≤ m ∧ m ≤ 1000 := fun m hm => by
    obtain ⟨k, _, rfl⟩ := List.mem_map.mp hm
    have z := List.length_filter_le (fun c : Code => decide (c.length = k)) due
    omega
  have hclen : ((List.range (n + 1)).map (fun k => (((due.filter fun c => decide (c.length = k)).length : Nat) : Int))).length ≤ 100 := by
    rw [List.length_map, List.length_range]
    omega
  -- if repr([..]) != repr([..])
  refine ⟨fun σ H' => Same H15 H' ∧ σ = [some (.ref a), some (.ref d), some (iv p), some (iv n), some (.ref x), some (.ref ea), y6, some (V.int (0 + (i : Int))), some v8, some v9, some (.ref ba), some (.ref aa), some (.ref lva), some (.ref hva), some (.ref ua), some (.ref da), y16, none], ?_, ?_⟩
  · refine ⟨_, rfl, _, _, rfl, rfl, _, rfl, by omega, by omega, ?_⟩
    refine lcP (walk_range (lo := 0) (n := n + 1)) (by omega) (fun _ _ => trivial) (fun _ => true) (fun k => (((due.filter fun c => decide (c.length = k)).length : Nat) : Int)) (fun v (b : Int) _ => v = V.int b) flatStays (fun k2 y H16 H17 P' hk s16 hy k => ?_) (fun D ys H16 nD e16 hD hh => ?_)
    · obtain ⟨rfl, rfl⟩ := hy
      refine k _ _ rfl (Same.refl _) yes_ev fun _ H18 s18 Q' q' => ?_
      have W8 := hTW.same (s16.trans s18)
      refine ⟨_, rfl, _, rfl, _, rfl, _, rfl, .ref x, _, _, p, n, k2, low, high, _, ?_, W8.hg, hN, W8.h1, PO.le, hhn, (hB low hlow).2, W8.h2, (hB high hhigh).2, pC k2 hk, fun H19 e19 => q' _ _ e19 rfl⟩
      show [V.ref x, V.ref lva, V.ref hva, V.int (0 + (k2 : Int))] = _
      rw [Int.zero_add]
    rw [outOf_all] at hh
    have ey := all2_map (H := H16) hh
    subst ey
    refine ⟨D, _, rfl, SqL.of hD, fun m hm => log2S (hcnt m hm), shownL hclen hcnt, ?_⟩
    refine ⟨_, rfl, _, _, rfl, rfl, _, rfl, by omega, by omega, ?_⟩
    refine lcP (walk_range (lo := 0) (n := n + 1)) (by omega) (fun _ _ => trivial) (fun _ => true) (fun k => (((due.filter fun c => decide (c.length = k)).length : Nat) : Int)) (fun v (b : Int) _ => v = V.int b) flatStays (fun k2 y H17 H18 P' hk s17 hy k => ?_) (fun D2 ys2 H17 nD2 e17 hD2 hh2 => ?_)
    · obtain ⟨rfl, rfl⟩ := hy
      refine k _ _ rfl (Same.refl _) yes_ev fun _ H19 s19 Q' q' => ?_
      obtain ⟨us, hus, hhu⟩ := hua15.same ((e16.trans s17).trans s19)
      have hul := hhu.1
      refine ⟨_, rfl, ua, rfl, ⟨_, SqL.of hus⟩, ?_⟩
      refine lcP (walk_list (xs := us)) (by omega) (fun H20 e20 => SqL.of (e20 _ _ hus)) (fun j => decide ((due.getD j []).length = k2)) (fun _ => (1 : Int)) (fun v (b : Int) _ => v = V.int b) flatStays (fun j y H20 H20' P'' hj s20 hy kk => ?_) (fun D3 ys3 H20 nD3 e20 hD3 hh3 => ?_)
      · obtain ⟨rfl, hy⟩ := hy
        obtain ⟨c, ec, hc⟩ := hhu.at hy
        refine kk _ _ rfl (Same.refl _) (fun H21 s21 Q'' q'' => ?_) (fun _ H21 s21 Q'' q'' => q'' _ _ (Same.refl _) rfl)
        rw [getD_of ec] at q''
        obtain ⟨cva, cvs, rfl, hcva, hcvs⟩ := hc.same (s20.trans s21)
        refine ⟨_, rfl, cva, cvs, rfl, .inr hcva, _, rfl, rfl, _, rfl, ?_⟩
        have eb : decide (V.int (cvs.length : Int) = V.int (0 + (k2 : Int))) = decide (c.length = k2) := by
          rw [dec_int, hcvs.1, Bool.eq_iff_iff]
          simp
          omega
        show Q'' (decide (V.int (cvs.length : Int) = V.int (0 + (k2 : Int)))) _
        rw [eb]
        exact q'' _ (Same.refl _)
      refine ⟨D3, ys3, rfl, .inl (SqL.of hD3), q' _ _ e20 ?_⟩
      have z1 := hh3.1
      have z2 := congrArg List.length (outOf_flt due (fun c => decide (c.length = k2)) hul)
      unfold outOf at z1 z2
      rw [List.length_map] at z1 z2
      rw [z1, z2]
    rw [outOf_all] at hh2
    have ey2 := all2_map (H := H17) hh2
    subst ey2
    refine ⟨D2, _, rfl, SqL.of hD2, fun m hm => log2S (hcnt m hm), shownL hclen hcnt, ?_⟩
    refine ⟨rfl, _, rfl, ?_⟩
    refine ite2 (fun z => absurd z (by simp)) (fun _ => ?_)
    exact ⟨e16.trans e17, rfl⟩
  rintro σ H16 ⟨e16, rfl⟩
  -- if len(complement(..)) != .. or complement(..) not in ..
  obtain ⟨cm, hcm, hcl, hcin⟩ := G.comp one ho
  have e616 := (e614.trans e15).trans e16
  have LN := L6.same e616
  have c8n := c8.same e616
  obtain ⟨a8, vs8, rfl, ha8, hvs8⟩ := id c8n
  refine ⟨_, rfl, _, rfl, .ref x, _, p, n, one, cm, rfl, LN.gr, by omega, c8n, (hB2 one ho).1, hcm, fun vc H17 e17 hvc => ?_⟩
  obtain ⟨ca1, cvs1, rfl, hca1, hcvs1⟩ := id hvc
  refine ⟨ca1, cvs1, rfl, .inr hca1, _, rfl, _, rfl, a8, vs8, rfl, .inr (sTup e17 ha8), _, _, rfl, rfl, rfl, _, rfl, ?_⟩
  have eb : V.int (cvs1.length : Int) = V.int ((n : Int) - (vs8.length : Int)) := by
    rw [hcvs1.1, hvs8.1]
    congr 1
    omega
  refine ite2 (fun z => absurd z (by rw [eb]; simp)) (fun _ => ?_)
  refine ⟨_, rfl, _, rfl, .ref x, _, p, n, one, cm, rfl, LN.gr.same e17, by omega, c8n.same e17, (hB2 one ho).1, hcm, fun vc2 H18 e18 hvc2 => ?_⟩
  have LO := LN.same (e17.trans e18)
  refine ⟨_, rfl, encC cm, ev.map encC, hvc2.dp, CodesV.dp ⟨ea, evs, rfl, SqL.of LO.el, LO.ec⟩, shC cm, shCodes ev, _, rfl, ?_⟩
  have hany : ((ev.map encC).any fun z => PyData.eqv z (encC cm)) = true := by
    rw [List.any_eq_true]
    exact ⟨encC cm, List.mem_map_of_mem hcin, by rw [eqvC]; simp⟩
  refine ite2 (fun z => absurd z (by rw [hany]; simp)) (fun _ => ?_)
  exact ⟨LO, _, _, _, _, _, _, _, _, _, _, rfl⟩

end
end Cn

set_option Elab.async false
set_option linter.all false
set_option maxRecDepth 100000
set_option maxHeartbeats 4000000
namespace Cn
theorem primeOf {p : Nat} (h2 : 2 ≤ p) (h13 : p ≤ 13) (h : p % 2 ≠ 0 ∨ p < 4) (h' : p % 3 ≠ 0 ∨ p < 9) : PrimeOk p := by
  refine ⟨h2, h13, fun d hd hdd => ?_⟩
  have h4 : d < 4 := Nat.lt_of_not_le fun z => by
    have := Nat.mul_le_mul z z
    omega
  have h5 : d = 2 ∨ d = 3 := by omega
  rcases h5 with rfl | rfl <;> omega
theorem numOf {p n : Nat} (hp : PrimeOk p) (h4 : n ≤ 4) (h : ((List.range (n + 1)).all fun r => decide (0 < gaussB p r) && decide (gaussB p r < 1073741824) && (List.range (r + 1)).all fun q => decide (gauss p r q < 1000)) = true) : NumOk p n := by
  simp only [List.all_eq_true, List.mem_range, Bool.and_eq_true, decide_eq_true_eq] at h
  exact ⟨hp, h4, fun r hr => (h r (by omega)).1, fun m hm r hr => (h m (by omega)).2 r (by omega)⟩
theorem allOk : AllOk := by
  intro p n h
  unfold grounds at h
  simp only [List.mem_cons, List.mem_nil_iff, or_false, Prod.mk.injEq] at h
  rcases h with ⟨rfl, rfl⟩ | ⟨rfl, rfl⟩ | ⟨rfl, rfl⟩ | ⟨rfl, rfl⟩ | ⟨rfl, rfl⟩ | ⟨rfl, rfl⟩ | ⟨rfl, rfl⟩ | ⟨rfl, rfl⟩ | ⟨rfl, rfl⟩ | ⟨rfl, rfl⟩ | ⟨rfl, rfl⟩
  · exact ⟨numOf (primeOf (by decide) (by decide) (by decide) (by decide)) (by decide) (by decide +kernel), _, gr2_0⟩
  · exact ⟨numOf (primeOf (by decide) (by decide) (by decide) (by decide)) (by decide) (by decide +kernel), _, gr2_1⟩
  · exact ⟨numOf (primeOf (by decide) (by decide) (by decide) (by decide)) (by decide) (by decide +kernel), _, gr2_2⟩
  · exact ⟨numOf (primeOf (by decide) (by decide) (by decide) (by decide)) (by decide) (by decide +kernel), _, gr2_3⟩
  · exact ⟨numOf (primeOf (by decide) (by decide) (by decide) (by decide)) (by decide) (by decide +kernel), _, gr2_4⟩
  · exact ⟨numOf (primeOf (by decide) (by decide) (by decide) (by decide)) (by decide) (by decide +kernel), _, gr3_2⟩
  · exact ⟨numOf (primeOf (by decide) (by decide) (by decide) (by decide)) (by decide) (by decide +kernel), _, gr3_3⟩
  · exact ⟨numOf (primeOf (by decide) (by decide) (by decide) (by decide)) (by decide) (by decide +kernel), _, gr5_2⟩
  · exact ⟨numOf (primeOf (by decide) (by decide) (by decide) (by decide)) (by decide) (by decide +kernel), _, gr7_2⟩
  · exact ⟨numOf (primeOf (by decide) (by decide) (by decide) (by decide)) (by decide) (by decide +kernel), _, gr13_2⟩
  · exact ⟨numOf (primeOf (by decide) (by decide) (by decide) (by decide)) (by decide) (by decide +kernel), _, gr13_1⟩
end Cn

set_option Elab.async false
set_option linter.all false
set_option maxRecDepth 100000
set_option maxHeartbeats 4000000
namespace Cn
open PySem PySem.Spec PyProof.Rows L2 XR
/-- what the law's body does, from what the top has left -/
theorem all_mk {P : Program} {w : World} {K : PySem.W.Frag} {h : Heap} {mg : Str → Option Value} {fa C f0 f1 f2 f3 f4 f5 f6 f7 f8 f9 f10 f11 f12 f13 f14 f15 f16 f17 f18 f19 f20 f21 f22 f23 f24 f25 f26 f27 f28 f29 f30 f31 f32 f33 f34 f35 f36 f37 f38 : Addr} (X : K.In h) (G : h.Ns mainGlobals mg) (hfa : mg "law" = some (.ref fa))
    {od0 an0 od1 an1 od2 an2 od3 an3 od4 an4 od5 an5 od6 an6 od7 an7 od8 an8 od9 an9 od10 an10 od11 an11 od12 an12 od13 an13 od14 an14 od15 an15 od16 an16 od17 an17 od18 an18 od19 an19 od20 an20 od21 an21 od22 an22 od23 an23 od24 an24 od25 an25 od26 an26 od27 an27 od28 an28 od29 an29 od30 an30 od31 an31 od32 an32 od33 an33 od34 an34 od35 an35 od36 an36 od37 an37 od38 an38 : Option Addr} {sl0 sl1 sl2 sl3 sl4 sl5 sl6 sl7 sl8 sl9 sl10 sl11 sl12 sl13 sl14 sl15 sl16 sl17 sl18 sl19 sl20 sl21 sl22 sl23 sl24 sl25 sl26 sl27 sl28 sl29 sl30 sl31 sl32 sl33 sl34 sl35 sl36 sl37 sl38 : Array (Option Value)} {oc0 kV0 dc0 pm0 cd0 ct0 oc1 kV1 dc1 pm1 cd1 ct1 oc2 kV2 dc2 pm2 cd2 ct2 oc3 kV3 dc3 pm3 cd3 ct3 oc4 kV4 dc4 pm4 cd4 ct4 oc5 kV5 dc5 pm5 cd5 ct5 oc6 kV6 dc6 pm6 cd6 ct6 oc7 kV7 dc7 pm7 cd7 ct7 oc8 kV8 dc8 pm8 cd8 ct8 oc9 kV9 dc9 pm9 cd9 ct9 oc10 kV10 dc10 pm10 cd10 ct10 oc11 kV11 dc11 pm11 cd11 ct11 oc12 kV12 dc12 pm12 cd12 ct12 oc13 kV13 dc13 pm13 cd13 ct13 oc14 kV14 dc14 pm14 cd14 ct14 oc15 kV15 dc15 pm15 cd15 ct15 oc16 kV16 dc16 pm16 cd16 ct16 oc17 kV17 dc17 pm17 cd17 ct17 oc18 kV18 dc18 pm18 cd18 ct18 oc19 kV19 dc19 pm19 cd19 ct19 oc20 kV20 dc20 pm20 cd20 ct20 oc21 kV21 dc21 pm21 cd21 ct21 oc22 kV22 dc22 pm22 cd22 ct22 oc23 kV23 dc23 pm23 cd23 ct23 oc24 kV24 dc24 pm24 cd24 ct24 oc25 kV25 dc25 pm25 cd25 ct25 oc26 kV26 dc26 pm26 cd26 ct26 oc27 kV27 dc27 pm27 cd27 ct27 oc28 kV28 dc28 pm28 cd28 ct28 oc29 kV29 dc29 pm29 cd29 ct29 oc30 kV30 dc30 pm30 cd30 ct30 oc31 kV31 dc31 pm31 cd31 ct31 oc32 kV32 dc32 pm32 cd32 ct32 oc33 kV33 dc33 pm33 cd33 ct33 oc34 kV34 dc34 pm34 cd34 ct34 oc35 kV35 dc35 pm35 cd35 ct35 oc36 kV36 dc36 pm36 cd36 ct36 oc37 kV37 dc37 pm37 cd37 ct37 oc38 kV38 dc38 pm38 cd38 ct38 : Value}
    (aC : PySem.W.nsIn K mainGlobals "Ground" = some (some (.ref C)))
    (a0 : PySem.W.nsIn K mainGlobals "is_number" = some (some (.ref f0)))
    (l0 : K.lookup f0 = some ⟨oc0, od0, .func (PySem.W.fnOf "is_number" "is_number" (defArgs sIsNumber) (defBody sIsNumber) (defScope sIsNumber) .none kV0 dc0 pm0 an0 cd0 ct0), sl0⟩)
    (c0 : PySem.W.codeIn K cd0 "is_number" = true)
    (k0 : PySem.W.keepIn K (.ref f0) = true)
    (a1 : PySem.W.nsIn K mainGlobals "power" = some (some (.ref f1)))
    (l1 : K.lookup f1 = some ⟨oc1, od1, .func (PySem.W.fnOf "power" "power" (defArgs sPower) (defBody sPower) (defScope sPower) .none kV1 dc1 pm1 an1 cd1 ct1), sl1⟩)
    (c1 : PySem.W.codeIn K cd1 "power" = true)
    (k1 : PySem.W.keepIn K (.ref f1) = true)
    (a2 : PySem.W.nsIn K mainGlobals "is_prime" = some (some (.ref f2)))
    (l2 : K.lookup f2 = some ⟨oc2, od2, .func (PySem.W.fnOf "is_prime" "is_prime" (defArgs sIsPrime) (defBody sIsPrime) (defScope sIsPrime) .none kV2 dc2 pm2 an2 cd2 ct2), sl2⟩)
    (c2 : PySem.W.codeIn K cd2 "is_prime" = true)
    (k2 : PySem.W.keepIn K (.ref f2) = true)
    (a3 : PySem.W.findIn K (.ref C) "__init__" = some (some (.ref f3)))
    (i3 : PySem.W.isFn K (.ref f3) = true)
    (l3 : K.lookup f3 = some ⟨oc3, od3, .func (PySem.W.fnOf "__init__" "Ground.__init__" (defArgs sInit) (defBody sInit) (defScope sInit) .none kV3 dc3 pm3 an3 cd3 ct3), sl3⟩)
    (c3 : PySem.W.codeIn K cd3 "Ground.__init__" = true)
    (k3 : PySem.W.keepIn K (.ref f3) = true)
    (a4 : PySem.W.findIn K (.ref C) "p" = some (some (.ref f4)))
    (i4 : PySem.W.isFn K (.ref f4) = true)
    (l4 : K.lookup f4 = some ⟨oc4, od4, .func (PySem.W.fnOf "p" "Ground.p" (defArgs sP) (defBody sP) (defScope sP) .none kV4 dc4 pm4 an4 cd4 ct4), sl4⟩)
    (c4 : PySem.W.codeIn K cd4 "Ground.p" = true)
    (k4 : PySem.W.keepIn K (.ref f4) = true)
    (a5 : PySem.W.findIn K (.ref C) "n" = some (some (.ref f5)))
    (i5 : PySem.W.isFn K (.ref f5) = true)
    (l5 : K.lookup f5 = some ⟨oc5, od5, .func (PySem.W.fnOf "n" "Ground.n" (defArgs sN) (defBody sN) (defScope sN) .none kV5 dc5 pm5 an5 cd5 ct5), sl5⟩)
    (c5 : PySem.W.codeIn K cd5 "Ground.n" = true)
    (k5 : PySem.W.keepIn K (.ref f5) = true)
    (a6 : PySem.W.findIn K (.ref C) "zero" = some (some (.ref f6)))
    (i6 : PySem.W.isFn K (.ref f6) = true)
    (l6 : K.lookup f6 = some ⟨oc6, od6, .func (PySem.W.fnOf "zero" "Ground.zero" (defArgs sZero) (defBody sZero) (defScope sZero) .none kV6 dc6 pm6 an6 cd6 ct6), sl6⟩)
    (c6 : PySem.W.codeIn K cd6 "Ground.zero" = true)
    (k6 : PySem.W.keepIn K (.ref f6) = true)
    (a7 : PySem.W.findIn K (.ref C) "units" = some (some (.ref f7)))
    (i7 : PySem.W.isFn K (.ref f7) = true)
    (l7 : K.lookup f7 = some ⟨oc7, od7, .func (PySem.W.fnOf "units" "Ground.units" (defArgs sUnits) (defBody sUnits) (defScope sUnits) .none kV7 dc7 pm7 an7 cd7 ct7), sl7⟩)
    (c7 : PySem.W.codeIn K cd7 "Ground.units" = true)
    (k7 : PySem.W.keepIn K (.ref f7) = true)
    (a8 : PySem.W.findIn K (.ref C) "inverse_of" = some (some (.ref f8)))
    (i8 : PySem.W.isFn K (.ref f8) = true)
    (l8 : K.lookup f8 = some ⟨oc8, od8, .func (PySem.W.fnOf "inverse_of" "Ground.inverse_of" (defArgs sInv) (defBody sInv) (defScope sInv) .none kV8 dc8 pm8 an8 cd8 ct8), sl8⟩)
    (c8 : PySem.W.codeIn K cd8 "Ground.inverse_of" = true)
    (k8 : PySem.W.keepIn K (.ref f8) = true)
    (a9 : PySem.W.nsIn K mainGlobals "added" = some (some (.ref f9)))
    (l9 : K.lookup f9 = some ⟨oc9, od9, .func (PySem.W.fnOf "added" "added" (defArgs sAdded) (defBody sAdded) (defScope sAdded) .none kV9 dc9 pm9 an9 cd9 ct9), sl9⟩)
    (c9 : PySem.W.codeIn K cd9 "added" = true)
    (k9 : PySem.W.keepIn K (.ref f9) = true)
    (a10 : PySem.W.nsIn K mainGlobals "subtracted" = some (some (.ref f10)))
    (l10 : K.lookup f10 = some ⟨oc10, od10, .func (PySem.W.fnOf "subtracted" "subtracted" (defArgs sSubtracted) (defBody sSubtracted) (defScope sSubtracted) .none kV10 dc10 pm10 an10 cd10 ct10), sl10⟩)
    (c10 : PySem.W.codeIn K cd10 "subtracted" = true)
    (k10 : PySem.W.keepIn K (.ref f10) = true)
    (a11 : PySem.W.nsIn K mainGlobals "scaled" = some (some (.ref f11)))
    (l11 : K.lookup f11 = some ⟨oc11, od11, .func (PySem.W.fnOf "scaled" "scaled" (defArgs sScaled) (defBody sScaled) (defScope sScaled) .none kV11 dc11 pm11 an11 cd11 ct11), sl11⟩)
    (c11 : PySem.W.codeIn K cd11 "scaled" = true)
    (k11 : PySem.W.keepIn K (.ref f11) = true)
    (a12 : PySem.W.nsIn K mainGlobals "pivot" = some (some (.ref f12)))
    (l12 : K.lookup f12 = some ⟨oc12, od12, .func (PySem.W.fnOf "pivot" "pivot" (defArgs sPivot) (defBody sPivot) (defScope sPivot) .none kV12 dc12 pm12 an12 cd12 ct12), sl12⟩)
    (c12 : PySem.W.codeIn K cd12 "pivot" = true)
    (k12 : PySem.W.keepIn K (.ref f12) = true)
    (a13 : PySem.W.nsIn K mainGlobals "combined" = some (some (.ref f13)))
    (l13 : K.lookup f13 = some ⟨oc13, od13, .func (PySem.W.fnOf "combined" "combined" (defArgs sCombined) (defBody sCombined) (defScope sCombined) .none kV13 dc13 pm13 an13 cd13 ct13), sl13⟩)
    (c13 : PySem.W.codeIn K cd13 "combined" = true)
    (k13 : PySem.W.keepIn K (.ref f13) = true)
    (a14 : PySem.W.nsIn K mainGlobals "without" = some (some (.ref f14)))
    (l14 : K.lookup f14 = some ⟨oc14, od14, .func (PySem.W.fnOf "without" "without" (defArgs sWithout) (defBody sWithout) (defScope sWithout) .none kV14 dc14 pm14 an14 cd14 ct14), sl14⟩)
    (c14 : PySem.W.codeIn K cd14 "without" = true)
    (k14 : PySem.W.keepIn K (.ref f14) = true)
    (a15 : PySem.W.nsIn K mainGlobals "reduced" = some (some (.ref f15)))
    (l15 : K.lookup f15 = some ⟨oc15, od15, .func (PySem.W.fnOf "reduced" "reduced" (defArgs sReduced) (defBody sReduced) (defScope sReduced) .none kV15 dc15 pm15 an15 cd15 ct15), sl15⟩)
    (c15 : PySem.W.codeIn K cd15 "reduced" = true)
    (k15 : PySem.W.keepIn K (.ref f15) = true)
    (a16 : PySem.W.nsIn K mainGlobals "code_of" = some (some (.ref f16)))
    (l16 : K.lookup f16 = some ⟨oc16, od16, .func (PySem.W.fnOf "code_of" "code_of" (defArgs sCodeOf) (defBody sCodeOf) (defScope sCodeOf) .none kV16 dc16 pm16 an16 cd16 ct16), sl16⟩)
    (c16 : PySem.W.codeIn K cd16 "code_of" = true)
    (k16 : PySem.W.keepIn K (.ref f16) = true)
    (a17 : PySem.W.nsIn K mainGlobals "pivots" = some (some (.ref f17)))
    (l17 : K.lookup f17 = some ⟨oc17, od17, .func (PySem.W.fnOf "pivots" "pivots" (defArgs sPivots) (defBody sPivots) (defScope sPivots) .none kV17 dc17 pm17 an17 cd17 ct17), sl17⟩)
    (c17 : PySem.W.codeIn K cd17 "pivots" = true)
    (k17 : PySem.W.keepIn K (.ref f17) = true)
    (a18 : PySem.W.nsIn K mainGlobals "rest" = some (some (.ref f18)))
    (l18 : K.lookup f18 = some ⟨oc18, od18, .func (PySem.W.fnOf "rest" "rest" (defArgs sRest) (defBody sRest) (defScope sRest) .none kV18 dc18 pm18 an18 cd18 ct18), sl18⟩)
    (c18 : PySem.W.codeIn K cd18 "rest" = true)
    (k18 : PySem.W.keepIn K (.ref f18) = true)
    (a19 : PySem.W.nsIn K mainGlobals "is_in" = some (some (.ref f19)))
    (l19 : K.lookup f19 = some ⟨oc19, od19, .func (PySem.W.fnOf "is_in" "is_in" (defArgs sIsIn) (defBody sIsIn) (defScope sIsIn) .none kV19 dc19 pm19 an19 cd19 ct19), sl19⟩)
    (c19 : PySem.W.codeIn K cd19 "is_in" = true)
    (k19 : PySem.W.keepIn K (.ref f19) = true)
    (a20 : PySem.W.nsIn K mainGlobals "is_within" = some (some (.ref f20)))
    (l20 : K.lookup f20 = some ⟨oc20, od20, .func (PySem.W.fnOf "is_within" "is_within" (defArgs sIsWithin) (defBody sIsWithin) (defScope sIsWithin) .none kV20 dc20 pm20 an20 cd20 ct20), sl20⟩)
    (c20 : PySem.W.codeIn K cd20 "is_within" = true)
    (k20 : PySem.W.keepIn K (.ref f20) = true)
    (a21 : PySem.W.nsIn K mainGlobals "gauss" = some (some (.ref f21)))
    (l21 : K.lookup f21 = some ⟨oc21, od21, .func (PySem.W.fnOf "gauss" "gauss" (defArgs sGauss) (defBody sGauss) (defScope sGauss) .none kV21 dc21 pm21 an21 cd21 ct21), sl21⟩)
    (c21 : PySem.W.codeIn K cd21 "gauss" = true)
    (k21 : PySem.W.keepIn K (.ref f21) = true)
    (a22 : PySem.W.nsIn K mainGlobals "count_codes" = some (some (.ref f22)))
    (l22 : K.lookup f22 = some ⟨oc22, od22, .func (PySem.W.fnOf "count_codes" "count_codes" (defArgs sCountCodes) (defBody sCountCodes) (defScope sCountCodes) .none kV22 dc22 pm22 an22 cd22 ct22), sl22⟩)
    (c22 : PySem.W.codeIn K cd22 "count_codes" = true)
    (k22 : PySem.W.keepIn K (.ref f22) = true)
    (a23 : PySem.W.nsIn K mainGlobals "count_between" = some (some (.ref f23)))
    (l23 : K.lookup f23 = some ⟨oc23, od23, .func (PySem.W.fnOf "count_between" "count_between" (defArgs sCountBetween) (defBody sCountBetween) (defScope sCountBetween) .none kV23 dc23 pm23 an23 cd23 ct23), sl23⟩)
    (c23 : PySem.W.codeIn K cd23 "count_between" = true)
    (k23 : PySem.W.keepIn K (.ref f23) = true)
    (a24 : PySem.W.nsIn K mainGlobals "many_behind" = some (some (.ref f24)))
    (l24 : K.lookup f24 = some ⟨oc24, od24, .func (PySem.W.fnOf "many_behind" "many_behind" (defArgs sManyBehind) (defBody sManyBehind) (defScope sManyBehind) .none kV24 dc24 pm24 an24 cd24 ct24), sl24⟩)
    (c24 : PySem.W.codeIn K cd24 "many_behind" = true)
    (k24 : PySem.W.keepIn K (.ref f24) = true)
    (a25 : PySem.W.nsIn K mainGlobals "pivots_at" = some (some (.ref f25)))
    (l25 : K.lookup f25 = some ⟨oc25, od25, .func (PySem.W.fnOf "pivots_at" "pivots_at" (defArgs sPivotsAt) (defBody sPivotsAt) (defScope sPivotsAt) .none kV25 dc25 pm25 an25 cd25 ct25), sl25⟩)
    (c25 : PySem.W.codeIn K cd25 "pivots_at" = true)
    (k25 : PySem.W.keepIn K (.ref f25) = true)
    (a26 : PySem.W.nsIn K mainGlobals "free_places" = some (some (.ref f26)))
    (l26 : K.lookup f26 = some ⟨oc26, od26, .func (PySem.W.fnOf "free_places" "free_places" (defArgs sFreePlaces) (defBody sFreePlaces) (defScope sFreePlaces) .none kV26 dc26 pm26 an26 cd26 ct26), sl26⟩)
    (c26 : PySem.W.codeIn K cd26 "free_places" = true)
    (k26 : PySem.W.keepIn K (.ref f26) = true)
    (a27 : PySem.W.nsIn K mainGlobals "code_at" = some (some (.ref f27)))
    (l27 : K.lookup f27 = some ⟨oc27, od27, .func (PySem.W.fnOf "code_at" "code_at" (defArgs sCodeAt) (defBody sCodeAt) (defScope sCodeAt) .none kV27 dc27 pm27 an27 cd27 ct27), sl27⟩)
    (c27 : PySem.W.codeIn K cd27 "code_at" = true)
    (k27 : PySem.W.keepIn K (.ref f27) = true)
    (a28 : PySem.W.nsIn K mainGlobals "all_codes" = some (some (.ref f28)))
    (l28 : K.lookup f28 = some ⟨oc28, od28, .func (PySem.W.fnOf "all_codes" "all_codes" (defArgs sAllCodes) (defBody sAllCodes) (defScope sAllCodes) .none kV28 dc28 pm28 an28 cd28 ct28), sl28⟩)
    (c28 : PySem.W.codeIn K cd28 "all_codes" = true)
    (k28 : PySem.W.keepIn K (.ref f28) = true)
    (a29 : PySem.W.nsIn K mainGlobals "common" = some (some (.ref f29)))
    (l29 : K.lookup f29 = some ⟨oc29, od29, .func (PySem.W.fnOf "common" "common" (defArgs sCommon) (defBody sCommon) (defScope sCommon) .none kV29 dc29 pm29 an29 cd29 ct29), sl29⟩)
    (c29 : PySem.W.codeIn K cd29 "common" = true)
    (k29 : PySem.W.keepIn K (.ref f29) = true)
    (a30 : PySem.W.nsIn K mainGlobals "joined" = some (some (.ref f30)))
    (l30 : K.lookup f30 = some ⟨oc30, od30, .func (PySem.W.fnOf "joined" "joined" (defArgs sJoined) (defBody sJoined) (defScope sJoined) .none kV30 dc30 pm30 an30 cd30 ct30), sl30⟩)
    (c30 : PySem.W.codeIn K cd30 "joined" = true)
    (k30 : PySem.W.keepIn K (.ref f30) = true)
    (a31 : PySem.W.nsIn K mainGlobals "complement" = some (some (.ref f31)))
    (l31 : K.lookup f31 = some ⟨oc31, od31, .func (PySem.W.fnOf "complement" "complement" (defArgs sComplement) (defBody sComplement) (defScope sComplement) .none kV31 dc31 pm31 an31 cd31 ct31), sl31⟩)
    (c31 : PySem.W.codeIn K cd31 "complement" = true)
    (k31 : PySem.W.keepIn K (.ref f31) = true)
    (a32 : PySem.W.nsIn K mainGlobals "codes_of_rank" = some (some (.ref f32)))
    (l32 : K.lookup f32 = some ⟨oc32, od32, .func (PySem.W.fnOf "codes_of_rank" "codes_of_rank" (defArgs sCodesOfRank) (defBody sCodesOfRank) (defScope sCodesOfRank) .none kV32 dc32 pm32 an32 cd32 ct32), sl32⟩)
    (c32 : PySem.W.codeIn K cd32 "codes_of_rank" = true)
    (k32 : PySem.W.keepIn K (.ref f32) = true)
    (a33 : PySem.W.nsIn K mainGlobals "between_codes" = some (some (.ref f33)))
    (l33 : K.lookup f33 = some ⟨oc33, od33, .func (PySem.W.fnOf "between_codes" "between_codes" (defArgs sBetween) (defBody sBetween) (defScope sBetween) .none kV33 dc33 pm33 an33 cd33 ct33), sl33⟩)
    (c33 : PySem.W.codeIn K cd33 "between_codes" = true)
    (k33 : PySem.W.keepIn K (.ref f33) = true)
    (a34 : PySem.W.nsIn K mainGlobals "all_codes_between" = some (some (.ref f34)))
    (l34 : K.lookup f34 = some ⟨oc34, od34, .func (PySem.W.fnOf "all_codes_between" "all_codes_between" (defArgs sAllBetween) (defBody sAllBetween) (defScope sAllBetween) .none kV34 dc34 pm34 an34 cd34 ct34), sl34⟩)
    (c34 : PySem.W.codeIn K cd34 "all_codes_between" = true)
    (k34 : PySem.W.keepIn K (.ref f34) = true)
    (a35 : PySem.W.nsIn K mainGlobals "_law_source" = some (some (.ref f35)))
    (l35 : K.lookup f35 = some ⟨oc35, od35, .func (PySem.W.fnOf "_law_source" "_law_source" (defArgs sSource) (defBody sSource) (defScope sSource) .none kV35 dc35 pm35 an35 cd35 ct35), sl35⟩)
    (c35 : PySem.W.codeIn K cd35 "_law_source" = true)
    (k35 : PySem.W.keepIn K (.ref f35) = true)
    (a36 : PySem.W.nsIn K mainGlobals "_law_pick" = some (some (.ref f36)))
    (l36 : K.lookup f36 = some ⟨oc36, od36, .func (PySem.W.fnOf "_law_pick" "_law_pick" (defArgs sPick) (defBody sPick) (defScope sPick) .none kV36 dc36 pm36 an36 cd36 ct36), sl36⟩)
    (c36 : PySem.W.codeIn K cd36 "_law_pick" = true)
    (k36 : PySem.W.keepIn K (.ref f36) = true)
    (a37 : PySem.W.nsIn K mainGlobals "_law_of" = some (some (.ref f37)))
    (l37 : K.lookup f37 = some ⟨oc37, od37, .func (PySem.W.fnOf "_law_of" "_law_of" (defArgs sOf) (defBody sOf) (defScope sOf) .none kV37 dc37 pm37 an37 cd37 ct37), sl37⟩)
    (c37 : PySem.W.codeIn K cd37 "_law_of" = true)
    (k37 : PySem.W.keepIn K (.ref f37) = true)
    (a38 : PySem.W.nsIn K mainGlobals "law" = some (some (.ref f38)))
    (l38 : K.lookup f38 = some ⟨oc38, od38, .func (PySem.W.fnOf "law" "law" (defArgs sLaw) (defBody sLaw) (defScope sLaw) .none kV38 dc38 pm38 an38 cd38 ct38), sl38⟩)
    (c38 : PySem.W.codeIn K cd38 "law" = true)
    (k38 : PySem.W.keepIn K (.ref f38) = true)
    (pg : PySem.W.plainGet K C Str.empty = true)
    (hd : PySem.W.hasDictIn K C = true)
    (po : PySem.W.plainOver K C = true)
    (sa : PySem.W.findIn K (.ref C) "__setattr__" = some (some (.builtin "object.__setattr__")))
    (mkC : PySem.W.makesIn K C = true)
    (kcC : PySem.W.keepIn K (.ref C) = true)
    (nP : PySem.W.findIn K (.ref C) "prime" = some none)
    (nL : PySem.W.findIn K (.ref C) "length" = some none)
    (z_isinstance : PySem.W.nsIn K mainGlobals "isinstance" = some none)
    (z_int : PySem.W.nsIn K mainGlobals "int" = some none)
    (z_bool : PySem.W.nsIn K mainGlobals "bool" = some none)
    (z_range : PySem.W.nsIn K mainGlobals "range" = some none)
    (z_tuple : PySem.W.nsIn K mainGlobals "tuple" = some none)
    (z_zip : PySem.W.nsIn K mainGlobals "zip" = some none)
    (z_enumerate : PySem.W.nsIn K mainGlobals "enumerate" = some none)
    (z_sorted : PySem.W.nsIn K mainGlobals "sorted" = some none)
    (z_all : PySem.W.nsIn K mainGlobals "all" = some none)
    (z_len : PySem.W.nsIn K mainGlobals "len" = some none)
    (z_list : PySem.W.nsIn K mainGlobals "list" = some none)
    (z_abs : PySem.W.nsIn K mainGlobals "abs" = some none)
    (z_max : PySem.W.nsIn K mainGlobals "max" = some none)
    (z_min : PySem.W.nsIn K mainGlobals "min" = some none)
    (z_repr : PySem.W.nsIn K mainGlobals "repr" = some none) :
    ∃ fd : FuncData, Fun K "law" "law" sLaw fa fd ∧ (∀ (s : Shared) (u : Value), BindsTo s fd ⟨[u], []⟩ [("_law_script", u)]) ∧
      ∀ (base : Heap) (H : Hp) (cdv : Value) (a : Addr) (s₁ : Shared) (ns : List Int), SqL K H a (ns.map V.int) → ns.length ≤ 63 → Room 8 (callerA.deeper (envOfC "law" (defScope sLaw) s₁.heap.objs.size fa cdv)) →
        ∃ t, PSs (cxOf CX0 P w K mg base lawN "law" (defScope sLaw) fa cdv callerA [] s₁ H E0).nox (defBody sLaw) t ∧ t { nx := fun _ H' => V.non = .bl true, rt := fun v _ => v = .bl true } (start lawN [.ref a]) H := by
  have e := hfa.symm.trans (PySem.W.mg_of X G a38)
  cases e
  have T : Txt K mg C := ⟨⟨pg, hd, po, sa⟩, nP, nL, PySem.W.mg_of X G aC, PySem.W.mg_none_of X G z_isinstance, PySem.W.mg_none_of X G z_int, PySem.W.mg_none_of X G z_bool, PySem.W.mg_none_of X G z_range, PySem.W.mg_none_of X G z_tuple, PySem.W.mg_none_of X G z_zip, PySem.W.mg_none_of X G z_enumerate, PySem.W.mg_none_of X G z_sorted, PySem.W.mg_none_of X G z_all, PySem.W.mg_none_of X G z_len, PySem.W.mg_none_of X G z_list, PySem.W.mg_none_of X G z_abs, PySem.W.mg_none_of X G z_max, PySem.W.mg_none_of X G z_min, PySem.W.mg_none_of X G z_repr⟩
  have F0 := fun_mk (st := sIsNumber) l0 c0 k0
  have b0 := F0.binds (ps := ["value"]) fun _ _ _ _ _ _ us hl => match us, hl with | [_], _ => rfl
  have F1 := fun_mk (st := sPower) l1 c1 k1
  have b1 := F1.binds (ps := ["number", "many"]) fun _ _ _ _ _ _ us hl => match us, hl with | [_, _], _ => rfl
  have F2 := fun_mk (st := sIsPrime) l2 c2 k2
  have b2 := F2.binds (ps := ["value"]) fun _ _ _ _ _ _ us hl => match us, hl with | [_], _ => rfl
  have F3 := fun_mk (st := sInit) l3 c3 k3
  have b3 := F3.binds (ps := ["self", "p", "n"]) fun _ _ _ _ _ _ us hl => match us, hl with | [_, _, _], _ => rfl
  have F4 := fun_mk (st := sP) l4 c4 k4
  have b4 := F4.binds (ps := ["self"]) fun _ _ _ _ _ _ us hl => match us, hl with | [_], _ => rfl
  have F5 := fun_mk (st := sN) l5 c5 k5
  have b5 := F5.binds (ps := ["self"]) fun _ _ _ _ _ _ us hl => match us, hl with | [_], _ => rfl
  have F6 := fun_mk (st := sZero) l6 c6 k6
  have b6 := F6.binds (ps := ["self"]) fun _ _ _ _ _ _ us hl => match us, hl with | [_], _ => rfl
  have F7 := fun_mk (st := sUnits) l7 c7 k7
  have b7 := F7.binds (ps := ["self"]) fun _ _ _ _ _ _ us hl => match us, hl with | [_], _ => rfl
  have F8 := fun_mk (st := sInv) l8 c8 k8
  have b8 := F8.binds (ps := ["self", "number"]) fun _ _ _ _ _ _ us hl => match us, hl with | [_, _], _ => rfl
  have F9 := fun_mk (st := sAdded) l9 c9 k9
  have b9 := F9.binds (ps := ["ground", "one", "other"]) fun _ _ _ _ _ _ us hl => match us, hl with | [_, _, _], _ => rfl
  have F10 := fun_mk (st := sSubtracted) l10 c10 k10
  have b10 := F10.binds (ps := ["ground", "one", "other"]) fun _ _ _ _ _ _ us hl => match us, hl with | [_, _, _], _ => rfl
  have F11 := fun_mk (st := sScaled) l11 c11 k11
  have b11 := F11.binds (ps := ["ground", "number", "row"]) fun _ _ _ _ _ _ us hl => match us, hl with | [_, _, _], _ => rfl
  have F12 := fun_mk (st := sPivot) l12 c12 k12
  have b12 := F12.binds (ps := ["row"]) fun _ _ _ _ _ _ us hl => match us, hl with | [_], _ => rfl
  have F13 := fun_mk (st := sCombined) l13 c13 k13
  have b13 := F13.binds (ps := ["ground", "numbers", "rows"]) fun _ _ _ _ _ _ us hl => match us, hl with | [_, _, _], _ => rfl
  have F14 := fun_mk (st := sWithout) l14 c14 k14
  have b14 := F14.binds (ps := ["ground", "row", "base"]) fun _ _ _ _ _ _ us hl => match us, hl with | [_, _, _], _ => rfl
  have F15 := fun_mk (st := sReduced) l15 c15 k15
  have b15 := F15.binds (ps := ["ground", "rows"]) fun _ _ _ _ _ _ us hl => match us, hl with | [_, _], _ => rfl
  have F16 := fun_mk (st := sCodeOf) l16 c16 k16
  have b16 := F16.binds (ps := ["ground", "rows"]) fun _ _ _ _ _ _ us hl => match us, hl with | [_, _], _ => rfl
  have F17 := fun_mk (st := sPivots) l17 c17 k17
  have b17 := F17.binds (ps := ["code"]) fun _ _ _ _ _ _ us hl => match us, hl with | [_], _ => rfl
  have F18 := fun_mk (st := sRest) l18 c18 k18
  have b18 := F18.binds (ps := ["ground", "code", "row"]) fun _ _ _ _ _ _ us hl => match us, hl with | [_, _, _], _ => rfl
  have F19 := fun_mk (st := sIsIn) l19 c19 k19
  have b19 := F19.binds (ps := ["ground", "code", "row"]) fun _ _ _ _ _ _ us hl => match us, hl with | [_, _, _], _ => rfl
  have F20 := fun_mk (st := sIsWithin) l20 c20 k20
  have b20 := F20.binds (ps := ["ground", "one", "other"]) fun _ _ _ _ _ _ us hl => match us, hl with | [_, _, _], _ => rfl
  have F21 := fun_mk (st := sGauss) l21 c21 k21
  have b21 := F21.binds (ps := ["p", "n", "rank"]) fun _ _ _ _ _ _ us hl => match us, hl with | [_, _, _], _ => rfl
  have F22 := fun_mk (st := sCountCodes) l22 c22 k22
  have b22 := F22.binds (ps := ["ground", "rank"]) fun _ _ _ _ _ _ us hl => match us, hl with | [_, _], _ => rfl
  have F23 := fun_mk (st := sCountBetween) l23 c23 k23
  have b23 := F23.binds (ps := ["ground", "low", "high", "rank"]) fun _ _ _ _ _ _ us hl => match us, hl with | [_, _, _, _], _ => rfl
  have F24 := fun_mk (st := sManyBehind) l24 c24 k24
  have b24 := F24.binds (ps := ["ground", "column", "chosen", "left"]) fun _ _ _ _ _ _ us hl => match us, hl with | [_, _, _, _], _ => rfl
  have F25 := fun_mk (st := sPivotsAt) l25 c25 k25
  have b25 := F25.binds (ps := ["ground", "rank", "number"]) fun _ _ _ _ _ _ us hl => match us, hl with | [_, _, _], _ => rfl
  have F26 := fun_mk (st := sFreePlaces) l26 c26 k26
  have b26 := F26.binds (ps := ["ground", "columns"]) fun _ _ _ _ _ _ us hl => match us, hl with | [_, _], _ => rfl
  have F27 := fun_mk (st := sCodeAt) l27 c27 k27
  have b27 := F27.binds (ps := ["ground", "rank", "number"]) fun _ _ _ _ _ _ us hl => match us, hl with | [_, _, _], _ => rfl
  have F28 := fun_mk (st := sAllCodes) l28 c28 k28
  have b28 := F28.binds (ps := ["ground", "rank"]) fun _ _ _ _ _ _ us hl => match us, hl with | [_, _], _ => rfl
  have F29 := fun_mk (st := sCommon) l29 c29 k29
  have b29 := F29.binds (ps := ["ground", "one", "other"]) fun _ _ _ _ _ _ us hl => match us, hl with | [_, _, _], _ => rfl
  have F30 := fun_mk (st := sJoined) l30 c30 k30
  have b30 := F30.binds (ps := ["ground", "one", "other"]) fun _ _ _ _ _ _ us hl => match us, hl with | [_, _, _], _ => rfl
  have F31 := fun_mk (st := sComplement) l31 c31 k31
  have b31 := F31.binds (ps := ["ground", "code"]) fun _ _ _ _ _ _ us hl => match us, hl with | [_, _], _ => rfl
  have F32 := fun_mk (st := sCodesOfRank) l32 c32 k32
  have b32 := F32.binds (ps := ["ground", "low", "high", "more"]) fun _ _ _ _ _ _ us hl => match us, hl with | [_, _, _, _], _ => rfl
  have F33 := fun_mk (st := sBetween) l33 c33 k33
  have b33 := F33.binds (ps := ["ground", "low", "high"]) fun _ _ _ _ _ _ us hl => match us, hl with | [_, _, _], _ => rfl
  have F34 := fun_mk (st := sAllBetween) l34 c34 k34
  have b34 := F34.binds (ps := ["ground", "low", "high"]) fun _ _ _ _ _ _ us hl => match us, hl with | [_, _, _], _ => rfl
  have F35 := fun_mk (st := sSource) l35 c35 k35
  have b35 := F35.binds (ps := ["_law_script"]) fun _ _ _ _ _ _ us hl => match us, hl with | [_], _ => rfl
  have F36 := fun_mk (st := sPick) l36 c36 k36
  have b36 := F36.binds (ps := ["_law_source_here", "_law_many"]) fun _ _ _ _ _ _ us hl => match us, hl with | [_, _], _ => rfl
  have F37 := fun_mk (st := sOf) l37 c37 k37
  have b37 := F37.binds (ps := ["_law_source_here", "_law_some"]) fun _ _ _ _ _ _ us hl => match us, hl with | [_, _], _ => rfl
  have F38 := fun_mk (st := sLaw) l38 c38 k38
  refine ⟨PySem.W.fnOf "law" "law" (defArgs sLaw) (defBody sLaw) (defScope sLaw) .none kV38 dc38 pm38 an38 cd38 ct38, F38, fun s v => .of_eq rfl, fun base H cdv a s₁ ns hS hl hr => ?_⟩
  have c_is_number : CallOk P w K mg base "is_number" _ _ _ := ⟨⟨_, _, ok_is_number (P := P) (w := w) (base := base) F0 T, PySem.W.mg_of X G a0, k0, b0⟩⟩
  have c_power : CallOk P w K mg base "power" _ _ _ := ⟨⟨_, _, ok_power (P := P) (w := w) (base := base) F1 T, PySem.W.mg_of X G a1, k1, b1⟩⟩
  have c_is_prime : CallOk P w K mg base "is_prime" _ _ _ := ⟨⟨_, _, ok_is_prime (P := P) (w := w) (base := base) F2 c_is_number, PySem.W.mg_of X G a2, k2, b2⟩⟩
  have mkGround : MakeOk P w K mg base C "Ground" _ _ _ := ⟨⟨_, _, ok_init (P := P) (w := w) (base := base) F3 T c_is_number c_is_prime, ⟨mkC, a3, i3, kcC⟩, PySem.W.mg_of X G aC, b3⟩⟩
  have m_p : MethOk P w K mg base C "p" _ _ _ := ⟨⟨_, _, ok_p (P := P) (w := w) (base := base) F4 T, ⟨a4, i4, k4⟩, b4⟩⟩
  have m_n : MethOk P w K mg base C "n" _ _ _ := ⟨⟨_, _, ok_n (P := P) (w := w) (base := base) F5 T, ⟨a5, i5, k5⟩, b5⟩⟩
  have m_zero : MethOk P w K mg base C "zero" _ _ _ := ⟨⟨_, _, ok_zero (P := P) (w := w) (base := base) F6 T, ⟨a6, i6, k6⟩, b6⟩⟩
  have m_units : MethOk P w K mg base C "units" _ _ _ := ⟨⟨_, _, ok_units (P := P) (w := w) (base := base) F7 T, ⟨a7, i7, k7⟩, b7⟩⟩
  have m_inverse_of : MethOk P w K mg base C "inverse_of" _ _ _ := ⟨⟨_, _, ok_inv (P := P) (w := w) (base := base) F8 T, ⟨a8, i8, k8⟩, b8⟩⟩
  have c_added : CallOk P w K mg base "added" _ _ _ := ⟨⟨_, _, ok_added (P := P) (w := w) (base := base) F9 T m_p, PySem.W.mg_of X G a9, k9, b9⟩⟩
  have c_subtracted : CallOk P w K mg base "subtracted" _ _ _ := ⟨⟨_, _, ok_subtracted (P := P) (w := w) (base := base) F10 T m_p, PySem.W.mg_of X G a10, k10, b10⟩⟩
  have c_scaled : CallOk P w K mg base "scaled" _ _ _ := ⟨⟨_, _, ok_scaled (P := P) (w := w) (base := base) F11 T m_p, PySem.W.mg_of X G a11, k11, b11⟩⟩
  have c_pivot : CallOk P w K mg base "pivot" _ _ _ := ⟨⟨_, _, ok_pivot (P := P) (w := w) (base := base) F12 T, PySem.W.mg_of X G a12, k12, b12⟩⟩
  have c_combined : CallOk P w K mg base "combined" _ _ _ := ⟨⟨_, _, ok_combined (P := P) (w := w) (base := base) F13 T m_zero c_added c_scaled, PySem.W.mg_of X G a13, k13, b13⟩⟩
  have c_without : CallOk P w K mg base "without" _ _ _ := ⟨⟨_, _, ok_without (P := P) (w := w) (base := base) F14 T c_subtracted c_scaled c_pivot, PySem.W.mg_of X G a14, k14, b14⟩⟩
  have c_reduced : CallOk P w K mg base "reduced" _ _ _ := ⟨⟨_, _, ok_reduced (P := P) (w := w) (base := base) F15 T c_without c_subtracted c_scaled c_pivot m_inverse_of, PySem.W.mg_of X G a15, k15, b15⟩⟩
  have c_code_of : CallOk P w K mg base "code_of" _ _ _ := ⟨⟨_, _, ok_code_of (P := P) (w := w) (base := base) F16 c_reduced, PySem.W.mg_of X G a16, k16, b16⟩⟩
  have c_pivots : CallOk P w K mg base "pivots" _ _ _ := ⟨⟨_, _, ok_pivots (P := P) (w := w) (base := base) F17 T c_pivot, PySem.W.mg_of X G a17, k17, b17⟩⟩
  have c_rest : CallOk P w K mg base "rest" _ _ _ := ⟨⟨_, _, ok_rest (P := P) (w := w) (base := base) F18 c_without, PySem.W.mg_of X G a18, k18, b18⟩⟩
  have c_is_in : CallOk P w K mg base "is_in" _ _ _ := ⟨⟨_, _, ok_is_in (P := P) (w := w) (base := base) F19 T c_rest m_zero, PySem.W.mg_of X G a19, k19, b19⟩⟩
  have c_is_within : CallOk P w K mg base "is_within" _ _ _ := ⟨⟨_, _, ok_is_within (P := P) (w := w) (base := base) F20 T c_is_in, PySem.W.mg_of X G a20, k20, b20⟩⟩
  have c_gauss : CallOk P w K mg base "gauss" _ _ _ := ⟨⟨_, _, ok_gauss (P := P) (w := w) (base := base) F21 T c_power, PySem.W.mg_of X G a21, k21, b21⟩⟩
  have c_count_codes : CallOk P w K mg base "count_codes" _ _ _ := ⟨⟨_, _, ok_count_codes (P := P) (w := w) (base := base) F22 T c_gauss m_p m_n, PySem.W.mg_of X G a22, k22, b22⟩⟩
  have c_count_between : CallOk P w K mg base "count_between" _ _ _ := ⟨⟨_, _, ok_count_between (P := P) (w := w) (base := base) F23 T c_is_within c_gauss m_p, PySem.W.mg_of X G a23, k23, b23⟩⟩
  have c_many_behind : CallOk P w K mg base "many_behind" _ _ _ := ⟨⟨_, _, ok_many_behind (P := P) (w := w) (base := base) F24 T c_gauss c_power m_p m_n, PySem.W.mg_of X G a24, k24, b24⟩⟩
  have c_pivots_at : CallOk P w K mg base "pivots_at" _ _ _ := ⟨⟨_, _, ok_pivots_at (P := P) (w := w) (base := base) F25 T c_many_behind c_power m_p m_n, PySem.W.mg_of X G a25, k25, b25⟩⟩
  have c_free_places : CallOk P w K mg base "free_places" _ _ _ := ⟨⟨_, _, ok_free (P := P) (w := w) (base := base) F26 T m_n, PySem.W.mg_of X G a26, k26, b26⟩⟩
  have c_code_at : CallOk P w K mg base "code_at" _ _ _ := ⟨⟨_, _, ok_code_at (P := P) (w := w) (base := base) F27 T c_count_codes c_pivots_at c_free_places m_units m_p, PySem.W.mg_of X G a27, k27, b27⟩⟩
  have c_all_codes : CallOk P w K mg base "all_codes" _ _ _ := ⟨⟨_, _, ok_all_codes (P := P) (w := w) (base := base) F28 T c_count_codes c_code_at, PySem.W.mg_of X G a28, k28, b28⟩⟩
  have c_common : CallOk P w K mg base "common" _ _ _ := ⟨⟨_, _, ok_common (P := P) (w := w) (base := base) F29 T mkGround c_reduced c_code_of c_pivot m_p m_n m_zero, PySem.W.mg_of X G a29, k29, b29⟩⟩
  have c_joined : CallOk P w K mg base "joined" _ _ _ := ⟨⟨_, _, ok_joined (P := P) (w := w) (base := base) F30 c_code_of, PySem.W.mg_of X G a30, k30, b30⟩⟩
  have c_complement : CallOk P w K mg base "complement" _ _ _ := ⟨⟨_, _, ok_complement (P := P) (w := w) (base := base) F31 T c_pivots m_units, PySem.W.mg_of X G a31, k31, b31⟩⟩
  have c_codes_of_rank : CallOk P w K mg base "codes_of_rank" _ _ _ := ⟨⟨_, _, ok_rank (P := P) (w := w) (base := base) F32 T mkGround c_code_of c_rest c_all_codes c_combined m_p, PySem.W.mg_of X G a32, k32, b32⟩⟩
  have c_between_codes : CallOk P w K mg base "between_codes" _ _ _ := ⟨⟨_, _, ok_between (P := P) (w := w) (base := base) F33 c_codes_of_rank, PySem.W.mg_of X G a33, k33, b33⟩⟩
  have c_all_codes_between : CallOk P w K mg base "all_codes_between" _ _ _ := ⟨⟨_, _, ok_all_between (P := P) (w := w) (base := base) F34 T c_codes_of_rank, PySem.W.mg_of X G a34, k34, b34⟩⟩
  have c__law_source : CallOk P w K mg base "_law_source" _ _ _ := ⟨⟨_, _, ok_source (P := P) (w := w) (base := base) F35 T, PySem.W.mg_of X G a35, k35, b35⟩⟩
  have c__law_pick : CallOk P w K mg base "_law_pick" _ _ _ := ⟨⟨_, _, ok_pick (P := P) (w := w) (base := base) F36 T, PySem.W.mg_of X G a36, k36, b36⟩⟩
  have c__law_of : CallOk P w K mg base "_law_of" _ _ _ := ⟨⟨_, _, ok_of (P := P) (w := w) (base := base) F37 T c__law_pick, PySem.W.mg_of X G a37, k37, b37⟩⟩
  exact lawBody T hr c__law_source c__law_of mkGround c_all_codes c_is_within c_common c_joined c_all_codes_between c_between_codes c_count_between c_complement hS hl allOk
theorem walk {l : PySem.W.OpenLaw} {q : Program} {loose : List Str} {XP : (Str → Option Value) → Heap → Prop} {YP : World → Heap → Prop} {d : DefRec} {K : Params → PySem.W.Frag} (hn : l.most = some 63) (hdf : d.params.defaults = [])
    (hY : ∀ (w : World) (h : Heap), YP w h → (K w.params).In h)
    (F : ∀ (w : World) (mg : Str → Option Value) (fa : Addr) (h : Heap), (K w.params).In h → h.Ns mainGlobals mg → mg d.name = some (.ref fa) →
      ∃ fd : FuncData, Fun (K w.params) "law" "law" sLaw fa fd ∧ (∀ (s : Shared) (u : Value), BindsTo s fd ⟨[u], []⟩ [("_law_script", u)]) ∧
      ∀ (base : Heap) (H : Hp) (cdv : Value) (a : Addr) (s₁ : Shared) (ns : List Int), SqL (K w.params) H a (ns.map V.int) → ns.length ≤ 63 → Room 8 (callerA.deeper (envOfC "law" (defScope sLaw) s₁.heap.objs.size fa cdv)) →
        ∃ t, PSs (cxOf CX0 l.prog w (K w.params) mg base lawN "law" (defScope sLaw) fa cdv callerA [] s₁ H E0).nox (defBody sLaw) t ∧ t { nx := fun _ H' => V.non = .bl true, rt := fun v _ => v = .bl true } (start lawN [.ref a]) H) :
    PySem.W.WalkO q loose XP YP l.row.toRowW d [] (fun f vs => PySem.call f vs) := by
  refine Att.attach_call hn hdf fun w s₀ s₁ mg mb fa o pm cd doc a vs ns G Y ho hd hcd hmg hobj hints hlen hg => ?_
  have KX := hY w _ Y
  obtain ⟨fd, F1, hb, hbody⟩ := F w mg fa _ KX G.T.g hmg
  exact law_at (l := l) KX G.T.g G.T.b G.T.builtins G.T.nolimit hg hobj hints (Nat.le_trans hlen (by decide)) ⟨rfl, by decide, by decide⟩ F1 scLaw hb fun base H cdv hK hNs hS hrd => hbody base H cdv a s₁ ns hS hlen hrd
end Cn

open PySem PySem.W PyProof.Rows
set_option Elab.async false
set_option maxHeartbeats 0 in
open_top head for PySem.Challenge.rw_codenests_k18_whole_codes_by_themselves

open PySem PySem.W PyProof.Rows
set_option Elab.async false
set_option linter.all false
set_option maxRecDepth 100000 in
set_option maxHeartbeats 0 in
theorem PySem.Challenge.cw_codenests_k18_whole_codes_by_themselves_holds : PySem.Challenge.rw_codenests_k18_whole_codes_by_themselves.Holds := by
  refine head ?_
  k_fill
  refine Cn.walk (l := PySem.Challenge.rw_codenests_k18_whole_codes_by_themselves) rfl rfl (fun w h Y => PySem.W.kIn_of Y) ?F
  case F =>
    intro w mg fa h KX G hmg
    refine' Cn.all_mk KX G hmg ?aC ?a0 ?l0 ?c0 ?k0 ?a1 ?l1 ?c1 ?k1 ?a2 ?l2 ?c2 ?k2 ?a3 ?i3 ?l3 ?c3 ?k3 ?a4 ?i4 ?l4 ?c4 ?k4 ?a5 ?i5 ?l5 ?c5 ?k5 ?a6 ?i6 ?l6 ?c6 ?k6 ?a7 ?i7 ?l7 ?c7 ?k7 ?a8 ?i8 ?l8 ?c8 ?k8 ?a9 ?l9 ?c9 ?k9 ?a10 ?l10 ?c10 ?k10 ?a11 ?l11 ?c11 ?k11 ?a12 ?l12 ?c12 ?k12 ?a13 ?l13 ?c13 ?k13 ?a14 ?l14 ?c14 ?k14 ?a15 ?l15 ?c15 ?k15 ?a16 ?l16 ?c16 ?k16 ?a17 ?l17 ?c17 ?k17 ?a18 ?l18 ?c18 ?k18 ?a19 ?l19 ?c19 ?k19 ?a20 ?l20 ?c20 ?k20 ?a21 ?l21 ?c21 ?k21 ?a22 ?l22 ?c22 ?k22 ?a23 ?l23 ?c23 ?k23 ?a24 ?l24 ?c24 ?k24 ?a25 ?l25 ?c25 ?k25 ?a26 ?l26 ?c26 ?k26 ?a27 ?l27 ?c27 ?k27 ?a28 ?l28 ?c28 ?k28 ?a29 ?l29 ?c29 ?k29 ?a30 ?l30 ?c30 ?k30 ?a31 ?l31 ?c31 ?k31 ?a32 ?l32 ?c32 ?k32 ?a33 ?l33 ?c33 ?k33 ?a34 ?l34 ?c34 ?k34 ?a35 ?l35 ?c35 ?k35 ?a36 ?l36 ?c36 ?k36 ?a37 ?l37 ?c37 ?k37 ?a38 ?l38 ?c38 ?k38 ?pg ?hd ?po ?sa ?mkC ?kcC ?nP ?nL ?z_isinstance ?z_int ?z_bool ?z_range ?z_tuple ?z_zip ?z_enumerate ?z_sorted ?z_all ?z_len ?z_list ?z_abs ?z_max ?z_min ?z_repr
    (case aC => k_is)
    (case a0 => k_is)
    (case l0 => k_is)
    (case c0 => k_is)
    (case k0 => k_is)
    (case a1 => k_is)
    (case l1 => k_is)
    (case c1 => k_is)
    (case k1 => k_is)
    (case a2 => k_is)
    (case l2 => k_is)
    (case c2 => k_is)
    (case k2 => k_is)
    (case a3 => k_is)
    (case i3 => k_is)
    (case l3 => k_is)
    (case c3 => k_is)
    (case k3 => k_is)
    (case a4 => k_is)
    (case i4 => k_is)
    (case l4 => k_is)
    (case c4 => k_is)
    (case k4 => k_is)
    (case a5 => k_is)
    (case i5 => k_is)
    (case l5 => k_is)
    (case c5 => k_is)
    (case k5 => k_is)
    (case a6 => k_is)
    (case i6 => k_is)
    (case l6 => k_is)
    (case c6 => k_is)
    (case k6 => k_is)
    (case a7 => k_is)
    (case i7 => k_is)
    (case l7 => k_is)
    (case c7 => k_is)
    (case k7 => k_is)
    (case a8 => k_is)
    (case i8 => k_is)
    (case l8 => k_is)
    (case c8 => k_is)
    (case k8 => k_is)
    (case a9 => k_is)
    (case l9 => k_is)
    (case c9 => k_is)
    (case k9 => k_is)
    (case a10 => k_is)
    (case l10 => k_is)
    (case c10 => k_is)
    (case k10 => k_is)
    (case a11 => k_is)
    (case l11 => k_is)
    (case c11 => k_is)
    (case k11 => k_is)
    (case a12 => k_is)
    (case l12 => k_is)
    (case c12 => k_is)
    (case k12 => k_is)
    (case a13 => k_is)
    (case l13 => k_is)
    (case c13 => k_is)
    (case k13 => k_is)
    (case a14 => k_is)
    (case l14 => k_is)
    (case c14 => k_is)
    (case k14 => k_is)
    (case a15 => k_is)
    (case l15 => k_is)
    (case c15 => k_is)
    (case k15 => k_is)
    (case a16 => k_is)
    (case l16 => k_is)
    (case c16 => k_is)
    (case k16 => k_is)
    (case a17 => k_is)
    (case l17 => k_is)
    (case c17 => k_is)
    (case k17 => k_is)
    (case a18 => k_is)
    (case l18 => k_is)
    (case c18 => k_is)
    (case k18 => k_is)
    (case a19 => k_is)
    (case l19 => k_is)
    (case c19 => k_is)
    (case k19 => k_is)
    (case a20 => k_is)
    (case l20 => k_is)
    (case c20 => k_is)
    (case k20 => k_is)
    (case a21 => k_is)
    (case l21 => k_is)
    (case c21 => k_is)
    (case k21 => k_is)
    (case a22 => k_is)
    (case l22 => k_is)
    (case c22 => k_is)
    (case k22 => k_is)
    (case a23 => k_is)
    (case l23 => k_is)
    (case c23 => k_is)
    (case k23 => k_is)
    (case a24 => k_is)
    (case l24 => k_is)
    (case c24 => k_is)
    (case k24 => k_is)
    (case a25 => k_is)
    (case l25 => k_is)
    (case c25 => k_is)
    (case k25 => k_is)
    (case a26 => k_is)
    (case l26 => k_is)
    (case c26 => k_is)
    (case k26 => k_is)
    (case a27 => k_is)
    (case l27 => k_is)
    (case c27 => k_is)
    (case k27 => k_is)
    (case a28 => k_is)
    (case l28 => k_is)
    (case c28 => k_is)
    (case k28 => k_is)
    (case a29 => k_is)
    (case l29 => k_is)
    (case c29 => k_is)
    (case k29 => k_is)
    (case a30 => k_is)
    (case l30 => k_is)
    (case c30 => k_is)
    (case k30 => k_is)
    (case a31 => k_is)
    (case l31 => k_is)
    (case c31 => k_is)
    (case k31 => k_is)
    (case a32 => k_is)
    (case l32 => k_is)
    (case c32 => k_is)
    (case k32 => k_is)
    (case a33 => k_is)
    (case l33 => k_is)
    (case c33 => k_is)
    (case k33 => k_is)
    (case a34 => k_is)
    (case l34 => k_is)
    (case c34 => k_is)
    (case k34 => k_is)
    (case a35 => k_is)
    (case l35 => k_is)
    (case c35 => k_is)
    (case k35 => k_is)
    (case a36 => k_is)
    (case l36 => k_is)
    (case c36 => k_is)
    (case k36 => k_is)
    (case a37 => k_is)
    (case l37 => k_is)
    (case c37 => k_is)
    (case k37 => k_is)
    (case a38 => k_is)
    (case l38 => k_is)
    (case c38 => k_is)
    (case k38 => k_is)
    (case pg => k_is)
    (case hd => k_is)
    (case po => k_is)
    (case sa => k_is)
    (case mkC => k_is)
    (case kcC => k_is)
    (case nP => k_is)
    (case nL => k_is)
    (case z_isinstance => k_is)
    (case z_int => k_is)
    (case z_bool => k_is)
    (case z_range => k_is)
    (case z_tuple => k_is)
    (case z_zip => k_is)
    (case z_enumerate => k_is)
    (case z_sorted => k_is)
    (case z_all => k_is)
    (case z_len => k_is)
    (case z_list => k_is)
    (case z_abs => k_is)
    (case z_max => k_is)
    (case z_min => k_is)
    (case z_repr => k_is)

