import PyProof.Rows.All
import Wide.All
import OpenK.AllK
import Wide.FinOn
import HandS.ForMost
import HandS.ForExc
import HandS.SortInts
import HandS.Conv
import HandS.Zip
import HandS.Rev
import HandS.RevRange
import HandS.Deep
import HandS.IsInst
import HandS.ExcIs
import HandS.More
import HandS.SetFor
import HandS.Flow
import HandS.Style
import HandS.TupAny
import KE.SortData
import PyProof.P3In
import HandS.HotCalls
import PySem.Challenge.RW_shapeorders_k14_each_refusal_its_own

set_option Elab.async false
set_option linter.all false
set_option maxRecDepth 100000
/-! Sh0: own words over the hand layer: loops and comprehensions cut open at their iterator, heaps, and the rules that the layer lacks. -/
namespace Sh
open PySem PySem.Spec PyProof.Rows L2

/-! ### loops: the iterator first, then the turns -/
def ForK (J : It) (g : TG) (tb : TS) (D : Ends) (σ : L2.St) (H : Hp) : Prop := ∃ W : Nat → Nat → L2.St → Hp → Prop, (∃ m, W 0 m σ H) ∧ ∀ i m σ H, W i m σ H →
  (J.stop i H ∧ D.nx σ H) ∨ (J.go i H ∧ ∃ N : L2.St → Hp → Prop, (∀ σ' H', N σ' H' → ∃ m', m' < m ∧ W (i + 1) m' σ' H') ∧ ∀ x H', J.yld i H x H' → g x σ H' fun σ2 H2 => tb { D with nx := N, ct := N, bk := D.nx } σ2 H2)
theorem tFor_eq (wi : TI) (g : TG) (tb : TS) (D : Ends) (σ : L2.St) (H : Hp) : tFor wi g tb D σ H = wi σ H fun J H1 => ForK J g tb D σ H1 := rfl
def LcK (J : It) (g : TG) (tt : TT) (te : TE) (σw : L2.St) (vs : List Nat) (D : Addr) (Q : Hp → Prop) (H1 : Hp) : Prop := ∃ W : Nat → Nat → Hp → Prop, (∃ m, W 0 m (upd H1 D (.lst []))) ∧ ∀ i m H, W i m H →
  (J.stop i H ∧ Q H) ∨ (J.go i H ∧ ∃ Nx : Hp → Prop, (∀ H', Nx H' → ∃ m', m' < m ∧ W (i + 1) m' H') ∧ ∀ x H', J.yld i H x H' → g x σw H' fun σ2 H2 => wipe σ2 vs = σw ∧ tt σ2 H2 fun b H3 =>
    if b = true then te σ2 H3 fun y H4 => ∃ acc, H4 D = some (.lst acc) ∧ acc.length < sizeLine ∧ Nx (upd H4 D (.lst (acc ++ [y]))) else Nx H3)
theorem tLc_eq (wi : TI) (g : TG) (tt : TT) (te : TE) (vs : List Nat) (σ : L2.St) (H : Hp) (Q : VK) :
    tLc wi g tt te vs σ H Q = wi σ H fun J H1 => ∀ D, H1 D = none → LcK J g tt te (wipe σ vs) vs D (fun H2 => Q (.ref D) H2) H1 := rfl
theorem forK_list {K : PySem.W.Frag} {a : Addr} {g : TG} {tb : TS} {D : Ends} {σ : L2.St} {H : Hp} (xs : List V) (Pv : Nat → L2.St → Hp → Prop) (h0 : Pv 0 σ H) (hl : ∀ i σ H, i ≤ xs.length → Pv i σ H → SqL K H a xs)
    (hs : ∀ i x σ H, xs[i]? = some x → Pv i σ H → g x σ H fun σ2 H2 => tb { D with nx := Pv (i + 1), ct := Pv (i + 1), bk := D.nx } σ2 H2) (hd : ∀ σ H, Pv xs.length σ H → D.nx σ H) :
    ForK (Itl K a) g tb D σ H := for_list Pv h0 hl hs hd
theorem forK_tup {K : PySem.W.Frag} {a : Addr} {g : TG} {tb : TS} {D : Ends} {σ : L2.St} {H : Hp} (xs : List V) (Pv : Nat → L2.St → Hp → Prop) (h0 : Pv 0 σ H) (hl : ∀ i σ H, i ≤ xs.length → Pv i σ H → SqT K H a xs)
    (hs : ∀ i x σ H, xs[i]? = some x → Pv i σ H → g x σ H fun σ2 H2 => tb { D with nx := Pv (i + 1), ct := Pv (i + 1), bk := D.nx } σ2 H2) (hd : ∀ σ H, Pv xs.length σ H → D.nx σ H) :
    ForK (Itt K a) g tb D σ H := for_tup Pv h0 hl hs hd
theorem forK_range {lo : Int} {n : Nat} {g : TG} {tb : TS} {D : Ends} {σ : L2.St} {H : Hp} (Pv : Nat → L2.St → Hp → Prop) (h0 : Pv 0 σ H)
    (hs : ∀ i σ H, i < n → Pv i σ H → g (.int (lo + i)) σ H fun σ2 H2 => tb { D with nx := Pv (i + 1), ct := Pv (i + 1), bk := D.nx } σ2 H2) (hd : ∀ σ H, Pv n σ H → D.nx σ H) :
    ForK (Itr lo n) g tb D σ H := for_range Pv h0 hs hd
theorem lcK_list {K : PySem.W.Frag} {a : Addr} {g : TG} {tt : TT} {te : TE} {vs : List Nat} {σw : L2.St} {H1 : Hp} {D : Addr} {Qd : Hp → Prop} (xs : List V) (Pv : Nat → Hp → Prop) (h0 : Pv 0 (upd H1 D (.lst []))) (hl : ∀ i H, i ≤ xs.length → Pv i H → SqL K H a xs)
    (hs : ∀ i x H, xs[i]? = some x → Pv i H → g x σw H fun σ2 H2 => wipe σ2 vs = σw ∧ tt σ2 H2 fun b H3 =>
      if b = true then te σ2 H3 fun y H4 => ∃ acc, H4 D = some (.lst acc) ∧ acc.length < sizeLine ∧ Pv (i + 1) (upd H4 D (.lst (acc ++ [y]))) else Pv (i + 1) H3) (hd : ∀ H, Pv xs.length H → Qd H) :
    LcK (Itl K a) g tt te σw vs D Qd H1 := by
  refine ⟨fun i m H => m = xs.length - i ∧ i ≤ xs.length ∧ Pv i H, ⟨xs.length, by simp, Nat.zero_le _, h0⟩, ?_⟩
  rintro i m H ⟨rfl, hi, p⟩
  have q := hl i H hi p
  by_cases hlt : i < xs.length
  · refine .inr ⟨⟨xs, xs[i], q, by simp [hlt]⟩, Pv (i + 1), fun H' p' => ⟨xs.length - (i + 1), by omega, rfl, hlt, p'⟩, fun x H' y => ?_⟩
    obtain ⟨e, y⟩ := y
    subst e
    exact hs i x _ (y xs q) p
  · have e : i = xs.length := by omega
    subst e
    exact .inl ⟨⟨xs, q, Nat.le_refl _⟩, hd H p⟩
theorem lcK_range {lo : Int} {n : Nat} {g : TG} {tt : TT} {te : TE} {vs : List Nat} {σw : L2.St} {H1 : Hp} {D : Addr} {Qd : Hp → Prop} (Pv : Nat → Hp → Prop) (h0 : Pv 0 (upd H1 D (.lst [])))
    (hs : ∀ i H, i < n → Pv i H → g (.int (lo + i)) σw H fun σ2 H2 => wipe σ2 vs = σw ∧ tt σ2 H2 fun b H3 =>
      if b = true then te σ2 H3 fun y H4 => ∃ acc, H4 D = some (.lst acc) ∧ acc.length < sizeLine ∧ Pv (i + 1) (upd H4 D (.lst (acc ++ [y]))) else Pv (i + 1) H3) (hd : ∀ H, Pv n H → Qd H) :
    LcK (Itr lo n) g tt te σw vs D Qd H1 := by
  refine ⟨fun i m H => m = n - i ∧ i ≤ n ∧ Pv i H, ⟨n, by simp, Nat.zero_le _, h0⟩, ?_⟩
  rintro i m H ⟨rfl, hi, p⟩
  by_cases hlt : i < n
  · refine .inr ⟨hlt, Pv (i + 1), fun H' p' => ⟨n - (i + 1), by omega, rfl, hlt, p'⟩, fun x H' y => ?_⟩
    obtain ⟨e, y⟩ := y
    subst e y
    exact hs i _ hlt p
  · have e : i = n := by omega
    subst e
    exact .inl ⟨Nat.le_refl _, hd H p⟩

/-! ### heaps -/
theorem same_new {H : Hp} {p : Addr} {o : HO} (h : H p = none) : Same H (upd H p o) := fun b u q => by rw [upd_ne (ne_of_none q h)]; exact q
theorem same_mut {H H' : Hp} {p : Addr} {o : HO} (s : Same H H') (h : H p = none) : Same H (upd H' p o) := fun b u q => by rw [upd_ne (ne_of_none q h)]; exact s b u q
theorem sql_self {K : PySem.W.Frag} {H : Hp} {p : Addr} {xs : List V} : SqL K (upd H p (.lst xs)) p xs := .inl (.inl upd_same)
theorem sql_new {K : PySem.W.Frag} {H : Hp} {p a : Addr} {o : HO} {xs : List V} (h : H p = none) (q : SqL K H a xs) : SqL K (upd H p o) a xs := (same_new h).seq q
theorem sqt_new {K : PySem.W.Frag} {H : Hp} {p a : Addr} {o : HO} {xs : List V} (h : H p = none) (q : SqT K H a xs) : SqT K (upd H p o) a xs := by
  rcases q with (q | ⟨u, q⟩) | q
  · exact .inl (.inl (same_new h _ _ q))
  · exact .inl (.inr ⟨u, same_new h _ _ q⟩)
  · exact .inr q
/-! ### readings by name -/
def rLen (K : PySem.W.Frag) : List V → Hp → VK → Prop := fun xs H Q => ∃ p ys, xs = [.ref p] ∧ (SqL K H p ys ∨ SqT K H p ys) ∧ Q (.int ys.length) H
def rListOf (K : PySem.W.Frag) : List V → Hp → VK → Prop := fun xs H Q => ∃ p ys, xs = [.ref p] ∧ (SqL K H p ys ∨ SqT K H p ys) ∧ ∀ l, H l = none → Q (.ref l) (upd H l (.lst ys))
def rTupleOf (K : PySem.W.Frag) : List V → Hp → VK → Prop := fun xs H Q => ∃ p ys, xs = [.ref p] ∧ ((SqL K H p ys ∧ ∀ l, H l = none → Q (.ref l) (upd H l (.tup ys))) ∨ (SqT K H p ys ∧ Q (.ref p) H))
def rInt1 : List V → Hp → VK → Prop := fun xs H Q => (∃ i, xs = [.int i] ∧ Q (.int i) H) ∨ ∃ k, xs = [.bl k] ∧ Q (.int (if k then 1 else 0)) H
section
variable {X : Cx}
theorem call_lenS : CallR X (.builtin "len") (rLen X.K) := call_len_seq
theorem call_listS : CallR X (.type "list") (rListOf X.K) := call_list_of
theorem call_tupleS : CallR X (.type "tuple") (rTupleOf X.K) := call_tuple_of
theorem call_intS : CallR X (.type "int") rInt1 := call_int1
end

/-! ### the context's own part -/
theorem cxOf_K {CX : CXT} {P : Program} {w : World} {K : PySem.W.Frag} {mg : Str → Option Value} {base : Heap} {N : List Str} {qual : Str} {scope : Scope} {f : Addr} {cd : Value} {A : Around} {outer : List Env} {s : Shared} {H : Hp} {E : XK} :
    (cxOf CX P w K mg base N qual scope f cd A outer s H E).K = K := rfl
theorem tBM_list {K : PySem.W.Frag} {H : Hp} {p : Addr} {xs : List V} (h : SqL K H p xs) : tyV K "list" (.ref p) H := .inl ⟨rfl, _, h⟩
theorem tyL {K : PySem.W.Frag} {H : Hp} {p : Addr} {xs : List V} (h : H p = some (.lst xs)) : tyV K "list" (.ref p) H := .inl ⟨rfl, _, SqL.of h⟩
theorem lineLt {n : Nat} (h : n ≤ 16000000) : n < sizeLine := by rw [sizeLine_eq]; omega
theorem lineLe {n : Nat} (h : n ≤ 16000000) : n ≤ sizeLine := Nat.le_of_lt (lineLt h)

theorem atI_ints {ns : List Int} {i : Int} (h0 : 0 ≤ i) (h : i < ns.length) : atI (ns.map V.int) i = some (.int (ns.getD i.toNat 0)) := by
  obtain ⟨j, rfl⟩ : ∃ j : Nat, i = (j : Int) := ⟨i.toNat, by omega⟩
  have hj : j < ns.length := by omega
  refine atI_nat ?_
  rw [List.getElem?_map, List.getElem?_eq_getElem hj, Int.toNat_natCast, List.getD_eq_getElem?_getD, List.getElem?_eq_getElem hj]
  rfl
theorem iteF' {c : Prop} [Decidable c] {A B : Prop} (hc : ¬ c) (h : B) : if c then A else B := by rw [if_neg hc]; exact h
theorem iteT' {c : Prop} [Decidable c] {A B : Prop} (hc : c) (h : A) : if c then A else B := by rw [if_pos hc]; exact h
/-! ### comprehensions whose elements leave nothing that is asked for later -/
section
variable {K : PySem.W.Frag} {a : Addr} {g : TG} {tt : TT} {te : TE} {vs : List Nat} {σw : L2.St} {H1 : Hp} {D : Addr} {Qd : Hp → Prop}
theorem lcK_mapI (xs : List V) (F : Nat → V) (nD : H1 D = none) (hS : SqL K H1 a xs) (hl : xs.length ≤ 16000000)
    (hs : ∀ i x acc H (Q : VK), xs[i]? = some x → Same H1 H → H D = some (.lst acc) → (∀ H4, Same H1 H4 → H4 D = some (.lst acc) → Q (F i) H4) → g x σw H fun σ2 H2 => wipe σ2 vs = σw ∧ te σ2 H2 Q)
    (hd : ∀ H, Same H1 H → H D = some (.lst ((List.range xs.length).map F)) → Qd H) : LcK (Itl K a) g tYes te σw vs D Qd H1 := by
  refine lcK_list xs (fun i H => Same H1 H ∧ H D = some (.lst ((List.range i).map F))) ⟨same_new nD, upd_same⟩ (fun i H _ h => h.1.seq hS) (fun i x H hx h => ?_) fun H h => hd H h.1 h.2
  refine hs i x _ H _ hx h.1 h.2 fun H4 s4 h4 => ?_
  refine ⟨_, h4, ?_, same_mut s4 nD, ?_⟩
  · have hi : i < xs.length := (List.getElem?_eq_some_iff.mp hx).1
    simp only [List.length_map, List.length_range]
    exact lineLt (by omega)
  · rw [upd_same, List.range_succ, List.map_append]
    rfl
theorem lcK_mapR {lo : Int} {n : Nat} (F : Nat → V) (nD : H1 D = none) (hl : n ≤ 16000000)
    (hs : ∀ i acc H (Q : VK), i < n → Same H1 H → H D = some (.lst acc) → (∀ H4, Same H1 H4 → H4 D = some (.lst acc) → Q (F i) H4) → g (.int (lo + i)) σw H fun σ2 H2 => wipe σ2 vs = σw ∧ te σ2 H2 Q)
    (hd : ∀ H, Same H1 H → H D = some (.lst ((List.range n).map F)) → Qd H) : LcK (Itr lo n) g tYes te σw vs D Qd H1 := by
  refine lcK_range (fun i H => Same H1 H ∧ H D = some (.lst ((List.range i).map F))) ⟨same_new nD, upd_same⟩ (fun i H hx h => ?_) fun H h => hd H h.1 h.2
  refine hs i _ H _ hx h.1 h.2 fun H4 s4 h4 => ?_
  refine ⟨_, h4, ?_, same_mut s4 nD, ?_⟩
  · simp only [List.length_map, List.length_range]
    exact lineLt (by omega)
  · rw [upd_same, List.range_succ, List.map_append]
    rfl
theorem take_more {α : Type} : ∀ {l : List α} {i : Nat} {x : α}, l[i]? = some x → l.take (i + 1) = l.take i ++ [x]
  | [], i, x, h => by simp at h
  | a :: l, 0, x, h => by
    have e : a = x := Option.some.inj h
    subst e
    rfl
  | a :: l, i + 1, x, h => by
    have ih := take_more (l := l) (i := i) (x := x) h
    show a :: l.take (i + 1) = a :: l.take i ++ [x]
    rw [ih]
    rfl
theorem at_map {α : Type} {ns : List α} {f : α → V} {i : Nat} {x : V} (h : (ns.map f)[i]? = some x) : ∃ z, ns[i]? = some z ∧ x = f z := by
  rw [List.getElem?_map] at h
  cases e : ns[i]? with
  | none => rw [e] at h; cases h
  | some z => rw [e] at h; exact ⟨z, rfl, (Option.some.inj h).symm⟩
/-- over a list of things told by h : α → V -/
theorem lcK_filt {α : Type} (ns : List α) (h : α → V) (p : α → Bool) (F : α → V) (nD : H1 D = none) (hS : SqL K H1 a (ns.map h)) (hl : ns.length ≤ 16000000)
    (hs : ∀ (i : Nat) (x : α) acc H (Qt : VK) (Qf : Hp → Prop), ns[i]? = some x → Same H1 H → H D = some (.lst acc) → (p x = true → ∀ H4, Same H1 H4 → H4 D = some (.lst acc) → Qt (F x) H4) → (p x = false → ∀ H4, Same H1 H4 → H4 D = some (.lst acc) → Qf H4) →
      g (h x) σw H fun σ2 H2 => wipe σ2 vs = σw ∧ tt σ2 H2 fun b H3 => if b = true then te σ2 H3 Qt else Qf H3)
    (hd : ∀ H, Same H1 H → H D = some (.lst ((ns.filter p).map F)) → Qd H) : LcK (Itl K a) g tt te σw vs D Qd H1 := by
  refine lcK_list (ns.map h) (fun i H => Same H1 H ∧ H D = some (.lst (((ns.take i).filter p).map F))) ⟨same_new nD, upd_same⟩ (fun i H _ h => h.1.seq hS) (fun i y H hy h => ?_) fun H h => ?_
  · obtain ⟨x, hx, rfl⟩ := at_map hy
    refine hs i x _ H _ _ hx h.1 h.2 (fun e H4 s4 h4 => ?_) (fun e H4 s4 h4 => ?_)
    · refine ⟨_, h4, ?_, same_mut s4 nD, ?_⟩
      · have hi : i < ns.length := (List.getElem?_eq_some_iff.mp hx).1
        have := List.length_filter_le p (ns.take i)
        simp only [List.length_map, List.length_take] at *
        exact lineLt (by omega)
      · rw [upd_same, take_more hx, List.filter_append, List.map_append, List.filter_cons_of_pos e]
        rfl
    · refine ⟨s4, ?_⟩
      rw [h4, take_more hx, List.filter_append, List.filter_cons_of_neg (by simp [e]), List.filter_nil, List.append_nil]
  · have e := h.2
    rw [List.length_map, List.take_length] at e
    exact hd H h.1 e
theorem lcK_map {α : Type} (ns : List α) (h : α → V) (F : α → V) (nD : H1 D = none) (hS : SqL K H1 a (ns.map h)) (hl : ns.length ≤ 16000000)
    (hs : ∀ (i : Nat) (x : α) acc H (Q : VK), ns[i]? = some x → Same H1 H → H D = some (.lst acc) → (∀ H4, Same H1 H4 → H4 D = some (.lst acc) → Q (F x) H4) → g (h x) σw H fun σ2 H2 => wipe σ2 vs = σw ∧ te σ2 H2 Q)
    (hd : ∀ H, Same H1 H → H D = some (.lst (ns.map F)) → Qd H) : LcK (Itl K a) g tYes te σw vs D Qd H1 := by
  refine lcK_filt (tt := tYes) ns h (fun _ => true) F nD hS hl (fun i x acc H Qt Qf hx s d ht _ => ?_) (fun H s d => hd H s (by rw [List.filter_eq_self.mpr (fun _ _ => rfl)] at d; exact d))
  exact hs i x acc H Qt hx s d (ht rfl)
theorem lcK_filtR {lo : Int} {n : Nat} (p : Nat → Bool) (F : Nat → V) (nD : H1 D = none) (hl : n ≤ 16000000)
    (hs : ∀ i acc H (Qt : VK) (Qf : Hp → Prop), i < n → Same H1 H → H D = some (.lst acc) → (p i = true → ∀ H4, Same H1 H4 → H4 D = some (.lst acc) → Qt (F i) H4) → (p i = false → ∀ H4, Same H1 H4 → H4 D = some (.lst acc) → Qf H4) →
      g (.int (lo + i)) σw H fun σ2 H2 => wipe σ2 vs = σw ∧ tt σ2 H2 fun b H3 => if b = true then te σ2 H3 Qt else Qf H3)
    (hd : ∀ H, Same H1 H → H D = some (.lst (((List.range n).filter p).map F)) → Qd H) : LcK (Itr lo n) g tt te σw vs D Qd H1 := by
  refine lcK_range (fun i H => Same H1 H ∧ H D = some (.lst (((List.range i).filter p).map F))) ⟨same_new nD, upd_same⟩ (fun i H hi h => ?_) fun H h => hd H h.1 h.2
  refine hs i _ H _ _ hi h.1 h.2 (fun e H4 s4 h4 => ?_) (fun e H4 s4 h4 => ?_)
  · refine ⟨_, h4, ?_, same_mut s4 nD, ?_⟩
    · have := List.length_filter_le p (List.range i)
      simp only [List.length_map, List.length_range] at *
      exact lineLt (by omega)
    · rw [upd_same, List.range_succ, List.filter_append, List.map_append, List.filter_cons_of_pos e]
      rfl
  · refine ⟨s4, ?_⟩
    rw [h4, List.range_succ, List.filter_append, List.filter_cons_of_neg (by simp [e]), List.filter_nil, List.append_nil]
end
/-! ### a loop's turns over things told by h -/
theorem forK_map {K : PySem.W.Frag} {a : Addr} {g : TG} {tb : TS} {D : Ends} {σ : L2.St} {H : Hp} {α : Type} (ns : List α) (h : α → V) (Pv : Nat → L2.St → Hp → Prop) (h0 : Pv 0 σ H) (hl : ∀ i σ H, i ≤ ns.length → Pv i σ H → SqL K H a (ns.map h))
    (hs : ∀ (i : Nat) (x : α) σ H, ns[i]? = some x → Pv i σ H → g (h x) σ H fun σ2 H2 => tb { D with nx := Pv (i + 1), ct := Pv (i + 1), bk := D.nx } σ2 H2) (hd : ∀ σ H, Pv ns.length σ H → D.nx σ H) :
    ForK (Itl K a) g tb D σ H := by
  refine forK_list (ns.map h) Pv h0 (fun i σ H hi p => hl i σ H (by rw [List.length_map] at hi; exact hi) p) (fun i x σ H hx p => ?_) (fun σ H p => hd σ H (by rw [List.length_map] at p; exact p))
  obtain ⟨z, hz, rfl⟩ := at_map hx
  exact hs i z σ H hz p
end Sh

set_option Elab.async false
set_option linter.all false
set_option maxRecDepth 100000
set_option maxHeartbeats 4000000
/-! Sh1: rules that the layer lacks: len(set(a list of ints)), list(reversed(a list)). -/
namespace Sh
open PySem PySem.Spec PyProof.Rows L2
/-! ### how many unlike ints -/
def dedup (ns : List Int) : List Int := firstMet (fun i => ns.getD i 0) ns.length
theorem firstMet_len (val : Nat → Int) : ∀ i, (firstMet val i).length ≤ i := fun i => firstMet_length_le val i
theorem step_dedup_len (l : List Int) (x : Int) : (step_dedup l x).length = if l.any (· == x) then l.length else l.length + 1 := by
  unfold step_dedup
  split
  · rfl
  · rw [List.length_append]
    rfl
theorem firstMet_full (ns : List Int) : ∀ i, i ≤ ns.length → ((firstMet (fun i => ns.getD i 0) i).length = i ↔ (ns.take i).Nodup)
  | 0, _ => by simp [firstMet_zero]
  | i + 1, h => by
    have ih := firstMet_full ns i (by omega)
    have hx : ns[i]? = some (ns.getD i 0) := by
      rw [List.getD_eq_getElem?_getD, List.getElem?_eq_getElem (by omega : i < ns.length)] <;> rfl
    rw [firstMet_succ, step_dedup_len, take_more hx, List.nodup_append]
    have hany : (firstMet (fun i => ns.getD i 0) i).any (· == ns.getD i 0) = (ns.take i).any (· == ns.getD i 0) := by
      rw [firstMet_any]
      congr 1
      apply List.ext_getElem?
      intro j
      by_cases hj : j < i
      · rw [List.getElem?_map, List.getElem?_range hj, List.getElem?_take_of_lt hj, List.getElem?_eq_getElem (by omega : j < ns.length)]
        simp [List.getD_eq_getElem?_getD, List.getElem?_eq_getElem (by omega : j < ns.length)]
      · rw [List.getElem?_eq_none (by simp; omega), List.getElem?_eq_none (by simp; omega)]
    rw [hany]
    have hle := firstMet_len (fun i => ns.getD i 0) i
    by_cases hc : (ns.take i).any (· == ns.getD i 0) = true
    · rw [if_pos hc]
      constructor
      · intro e; omega
      · rintro ⟨_, _, h3⟩
        obtain ⟨y, hy, e⟩ := List.any_eq_true.mp hc
        have e' : y = ns.getD i 0 := by simpa using e
        exact absurd e' (h3 y hy _ (by simp))
    · rw [if_neg hc]
      constructor
      · intro e
        refine ⟨ih.mp (by omega), by simp, fun a ha b hb e2 => hc ?_⟩
        have : b = ns.getD i 0 := by simpa using hb
        exact List.any_eq_true.mpr ⟨a, ha, by simp [e2, this]⟩
      · rintro ⟨h1, _, _⟩
        have := ih.mpr h1
        omega
theorem dedup_le (ns : List Int) : (dedup ns).length ≤ ns.length := firstMet_len _ _
theorem dedup_full (ns : List Int) : (dedup ns).length = ns.length ↔ ns.Nodup := by
  have := firstMet_full ns ns.length (Nat.le_refl _)
  rwa [List.take_length] at this
theorem dedup_lt (ns : List Int) : (((dedup ns).length : Nat) : Int) < ((ns.length : Nat) : Int) ↔ ¬ ns.Nodup := by
  have h1 := dedup_le ns
  have h2 := dedup_full ns
  constructor
  · intro h h3; have := h2.mpr h3; omega
  · intro h; by_cases e : (dedup ns).length = ns.length
    · exact absurd (h2.mp e) h
    · omega
/-- len(set(x)), x a list of ints -/
def tLenSetG (K : PySem.W.Frag) (ta : TE) : TE := fun σ H Q => ta σ H fun x H1 => ∃ (l : Addr) (ns : List Int), x = .ref l ∧ SqL K H1 l (ns.map V.int) ∧ ns.length ≤ 4000 ∧ Q (.int ((dedup ns).length : Nat)) H1
theorem pe_lenSetG {X : Cx} {a : Expr} {ta : TE} {p p2 q pos : Pos} (hg : Gl X "len") (hm : X.mg "len" = none) (hg2 : Gl X "set") (hm2 : X.mg "set" = none) (ha : PE X a ta) (hc : X.calm = true := by rfl)
    (na : starEach [a] X.env = (false, eval a X.env) :: starEach [] X.env := by rfl) : PE X (.Call (.Name "len" p) [.Call (.Name "set" p2) [a] [] q] [] pos) (tLenSetG X.K ta) := by
  refine ⟨fun pins s σ H Q I h => ?_⟩
  refine Call_ (ld_blt I hg hm boot_len ?_)
  refine PyProof.Rows.callWith_builtin1 (PyProof.Rows.args_cons ?_ rfl) rfl rfl
  refine Call_ (ld_blt I hg2 hm2 boot_set ?_)
  refine PyProof.Rows.callWith_type1 (PyProof.Rows.args_cons (thn (ha.run pins s σ H _ I h) fun v s1 ⟨x, H1, I1, r1, q1⟩ => PyProof.Rows.args_nil ?_) na) na rfl
  obtain ⟨l, ns, rfl, hq, hl, q1⟩ := q1
  cases r1
  obtain ⟨its, r, pl, hz⟩ := I1.list hq
  have hlen : its.toArray.size = ns.length := by rw [List.size_toArray, ← r.length, List.length_map]
  refine call_set_list (I1.ok.hd hc) pl.isList (by simpa using Vals.ints r) (by rw [hlen]; unfold scanBound; omega) fun h' tk hS hk => ?_
  refine PyProof.Rows.args_nil ?_
  rw [hlen] at hS
  obtain ⟨o, es, ep, t, ho, hex, hd, _, _, _, hf, hn⟩ := hS
  have hle := dedup_le ns
  have I2 : Inv X pins σ H1 { s1 with heap := h', toks := tk } := I1.kept fun b o e => hk b o (Heap.lt_size e) e
  have hn' : es.size = (dedup ns).length := hn
  exact call_len_set ho hex hd hf (by rw [hn] <;> exact Int.lt_of_le_of_lt (Int.ofNat_le.mpr hle) (by omega)) ⟨.int (dedup ns).length, H1, I2.tok _, ⟨_, by rw [hn]; rfl⟩, q1⟩
/-! ### list(reversed(a list)) -/
section
variable {prog : Program} {w : World} {A : Around} {E : Value → Shared → Prop} {s : Shared}
theorem extend_rev {R : Result → Shared → Prop} {it l : Addr} {items : Array Value} (hh : A.handled = none) (hit : s.heap.IsRevIter it l ((items.size : Int) - 1)) (hl : s.heap.IsList l items) (hne : l ≠ it) (hn : items.size ≤ sizeLine) (S : Addr) (res : Value) (c₀ : Nat)
    (hS : s.heap.get? S = some { cls := .type "list", data := .seq #[] c₀ }) (hSi : S ≠ it) (hSl : S ≠ l)
    (hR : ∀ h' tk acc' c', (∀ b o, b ≠ S → b ≠ it → s.heap.get? b = some o → h'.get? b = some o) → h'.get? S = some { cls := .type "list", dict := none, data := .seq acc' c', slots := #[] } →
      ItemsOf (fun i v => items[items.size - 1 - i]? = some v) acc' items.size → R (.ok (.ret res)) { s with heap := h', toks := tk }) :
    wpAny (model prog w) A.in1 (Builtin.List.listExtendWith (.ref S) (.ref it) res)
      (fun fin s' => match fin with | .done f => R (.ok f) s' | .again c' => c'.quiet = true ∧ codeAny (model prog w) A c' R s') (fun e s' => R (.error e) s') s := by
  have W := (Walks.listRev (prog := prog) (w := w) (A := A.in1) hh it l hne items).toS
  have hSf : S ∉ [it, l] := by simp only [List.mem_cons, List.not_mem_nil, or_false, not_or]; exact ⟨hSi, hSl⟩
  have hT : s.TypeIs (.ref it) "list_reverseiterator" := Heap.IsRevIter.typeIs hit
  have h1 : Builtin.List.listSameRef (.ref S) (.ref it) = false := by simp [Builtin.List.listSameRef, hSi]
  unfold Builtin.List.listExtendWith
  refine wpAny_bind (wpAny_typeOf hT ?_)
  rw [if_neg (by rw [h1]; decide)]
  refine wpAny_bind (wpAny_pyIter_revIter hit ?_)
  refine wpAny_bind (wpAny_holding ?_)
  unfold Builtin.List.listLengthHint
  refine wpAny_bind (wpAny_specialOf hT RT.nolen_lri ?_)
  show wpAny _ A.in1 (specialOf (Value.ref it) (Str.ofString "__length_hint__") >>= _) _ _ _
  refine wpAny_bind (wpAny_specialOf hT RT.hint_lri ?_)
  generalize hid : ("list_reverseiterator.__length_hint__" : String) = id0
  wp_delta
  rw [show splitId id0 = some ("list_reverseiterator", "__length_hint__") from by subst hid; decide +kernel]
  subst hid
  refine wpAny_bind (wpAny_isInstance (b := true) hT (by rw [isSubtype_type]; kernel_rfl) ?_)
  refine wpAny_pure ?_
  rw [if_neg (by decide)]
  have e0 : ((items.size : Nat) : Int) - 1 - ((0 : Nat) : Int) = (items.size : Int) - 1 := by omega
  refine wpAny_pure ⟨plainId_quiet F.plain_extend_loop _, codeAny_extend_loopS W hn _ hSf _ items.size 0 _ _ _ rfl (Nat.zero_le _) ⟨Nat.zero_le _, by rw [e0]; exact hit, hl⟩ hS (ItemsOf.nil _) fun s' acc' c' hm hS' hacc => ?_⟩
  rw [Moved.eq_with hm]
  refine hR s'.heap s'.toks acc' c' (fun b o hb hb2 e => hm.heap b o (fun hmem => ?_) e) hS' hacc
  rcases List.mem_cons.mp hmem with e' | hmem
  · exact hb e'
  · exact hb2 (List.mem_singleton.mp hmem)
theorem list_init_rev {R : Result → Shared → Prop} {it l : Addr} {items : Array Value} (hh : A.handled = none) (hit : s.heap.IsRevIter it l ((items.size : Int) - 1)) (hl : s.heap.IsList l items) (hne : l ≠ it) (hn : items.size ≤ sizeLine) (S : Addr)
    (hS : s.heap.get? S = some { cls := .type "list", data := .seq #[] }) (hSi : S ≠ it) (hSl : S ≠ l)
    (hR : ∀ h' tk acc' c', (∀ b o, b ≠ S → b ≠ it → s.heap.get? b = some o → h'.get? b = some o) → h'.get? S = some { cls := .type "list", dict := none, data := .seq acc' c', slots := #[] } →
      ItemsOf (fun i v => items[items.size - 1 - i]? = some v) acc' items.size → R (.ok (.ret .none)) { s with heap := h', toks := tk }) :
    wpAny (model prog w) A.in1 (Builtin.«list.__init__» ⟨[.ref S, .ref it], []⟩)
      (fun fin s' => match fin with | .done f => R (.ok f) s' | .again c' => c'.quiet = true ∧ codeAny (model prog w) A c' R s') (fun e s' => R (.error e) s') s := by
  show wpAny _ _ (do let old ← Builtin.List.listItems (.ref S); Builtin.List.listUpdate (.ref S) (fun _ => #[]); letGo old.toList.reverse; Builtin.List.listExtendWith (.ref S) (.ref it) .none) _ _ s
  refine wpAny_bind ?_
  unfold Builtin.List.listItems
  refine wpAny_bind (wpAny_seqItems hS rfl (wpAny_pure ?_))
  show wpAny _ _ (updateSeq S (fun _ => #[]) >>= fun _ => letGo (#[] : Array Value).toList.reverse >>= fun _ => Builtin.List.listExtendWith (.ref S) (.ref it) .none) _ _ s
  refine wpAny_bind (wpAny_updateSeq hS rfl ?_)
  have hS₂ := Heap.get?_update_self (Obj.mapSeq (fun _ => (#[] : Array Value))) hS rfl
  have oth : ∀ b o, b ≠ S → s.heap.get? b = some o → (s.heap.update S (Obj.mapSeq (fun _ => (#[] : Array Value)))).get? b = some o :=
    fun b o hb e => (Heap.get?_update_other _ _ (Ne.symm hb)).trans e
  refine wpAny_bind (wpAny_letGo ?_)
  obtain ⟨oi, hoi, ri⟩ := hit
  obtain ⟨ol, hol, rl⟩ := hl
  refine extend_rev (s := { s with heap := s.heap.update S (Obj.mapSeq (fun _ => (#[] : Array Value))) }) hh ⟨oi, oth it oi (Ne.symm hSi) hoi, ri⟩ ⟨ol, oth l ol (Ne.symm hSl) hol, rl⟩ hne hn S .none _ hS₂ hSi hSl fun h' tk acc' c' hk hS' hacc => ?_
  exact hR h' tk acc' c' (fun b o hb hb2 e => hk b o hb hb2 (oth b o hb e)) hS' hacc
theorem call_list_rev {Q : Value → Shared → Prop} {it l : Addr} {items : Array Value} (hh : A.handled = none) (hit : s.heap.IsRevIter it l ((items.size : Int) - 1)) (hl : s.heap.IsList l items) (hne : l ≠ it) (hn : items.size ≤ sizeLine)
    (hQ : ∀ h' tk acc' c', (∀ b o, b ≠ it → s.heap.get? b = some o → h'.get? b = some o) →
      h'.get? s.heap.objs.size = some { cls := .type "list", dict := none, data := .seq acc' c', slots := #[] } → ItemsOf (fun i v => items[items.size - 1 - i]? = some v) acc' items.size → Q (.ref s.heap.objs.size) { s with heap := h', toks := tk }) :
    wpAny (model prog w) A (call (.type "list") [.ref it]) Q E s := by
  obtain ⟨oi, hoi, ri⟩ := id hit
  obtain ⟨ol, hol, rl⟩ := id hl
  refine callType_codes (Q₁ := fun obj s₁ => obj = .ref s.heap.objs.size ∧ s₁ = { s with heap := s.heap.push { cls := .type "list", data := .seq #[] } }) F.called_list (F.typeCall_list_1 _) F.entry_list_init
    (code_list_new _ ⟨rfl, rfl⟩) fun obj s₁ h₁ => ?_
  obtain ⟨rfl, rfl⟩ := h₁
  have hS : (s.heap.push { cls := .type "list", data := .seq #[] }).get? s.heap.objs.size = some { cls := .type "list", data := .seq #[] } := Heap.get?_push_size _ rfl
  refine ⟨⟨_, hS, rfl⟩, F.args_list_init_2 _ _, list_init_rev (A := A.in1) (s := { s with heap := s.heap.push { cls := .type "list", data := .seq #[] } }) hh ⟨oi, Heap.get?_push_of_some _ hoi, ri⟩ ⟨ol, Heap.get?_push_of_some _ hol, rl⟩ hne hn _ hS (Nat.ne_of_gt (Heap.lt_size hoi)) (Nat.ne_of_gt (Heap.lt_size hol)) fun h' tk acc' c' hk hS' hacc => ?_⟩
  exact ⟨rfl, hQ h' tk acc' c' (fun b o hb e => hk b o (Nat.ne_of_lt (Heap.lt_size e)) hb (Heap.get?_push_of_some _ e)) hS' hacc⟩
end
def tListRev (K : PySem.W.Frag) (te : TE) : TE := fun σ H Q => te σ H fun v H1 => ∃ (a : Addr) (xs : List V), v = .ref a ∧ SqL K H1 a xs ∧ ∀ q, H1 q = none → Q (.ref q) (upd H1 q (.lst xs.reverse))
theorem pe_listRev {X : Cx} {e : Expr} {te : TE} {p p2 pos pos2 : Pos} (hc : X.calm = true) (hg : Gl X "list") (hm : X.mg "list" = none) (hg2 : Gl X "reversed") (hm2 : X.mg "reversed" = none) (he : PE X e te)
    (hs : starEach [e] X.env = (false, eval e X.env) :: starEach [] X.env := by rfl)
    (hs2 : starEach [.Call (.Name "reversed" p2) [e] [] pos2] X.env = (false, eval (.Call (.Name "reversed" p2) [e] [] pos2) X.env) :: starEach [] X.env := by rfl) :
    PE X (.Call (.Name "list" p) [.Call (.Name "reversed" p2) [e] [] pos2] [] pos) (tListRev X.K te) := by
  refine ⟨fun pins s σ H Q I h => ?_⟩
  refine Call_ (ld_blt I hg hm boot_list (PyProof.Rows.callWith_type1 (args_cons (Call_ (ld_blt I hg2 hm2 PyProof.Rows.boot_reversed (PyProof.Rows.callWith_type1 (args_cons (thn (he.run pins s σ H _ I h) fun u s1 ⟨v, H1, I1, r1, q1⟩ => args_nil ?_) hs) hs rfl))) hs2) hs2 rfl))
  obtain ⟨a, xs, ev, hq, q⟩ := q1
  subst ev
  obtain rfl : u = Value.ref a := r1
  obtain ⟨its, rv, p', hz⟩ := I1.list hq
  refine call_reversed_list p'.isList (args_nil ?_)
  have k0 : ∀ b o, s1.heap.get? b = some o → (s1.heap.push (revObj a ((its.toArray.size : Int) - 1))).get? b = some o := fun b o e => Heap.get?_push_of_some _ e
  have I2 : Inv X pins σ H1 { s1 with heap := s1.heap.push (revObj a ((its.toArray.size : Int) - 1)) } := I1.kept (t' := s1.toks) k0
  obtain ⟨f0, f1, f2, f3, f4, f5⟩ := I1.fpOk (H' := H1) (b := s1.heap.objs.size) (Nat.le_refl _) (I1.hok.fresh (Nat.le_refl _))
  have hl := p'.isList
  obtain ⟨ol, hol, _⟩ := id hl
  have hne : a ≠ s1.heap.objs.size := Nat.ne_of_lt (Heap.lt_size hol)
  have hn : its.toArray.size ≤ sizeLine := by rw [List.size_toArray, ← rv.length]; exact hz
  refine call_list_rev (s := { s1 with heap := s1.heap.push (revObj a ((its.toArray.size : Int) - 1)) }) (I1.ok.hd hc) ⟨_, Heap.get?_push_size _ rfl, rfl, rfl⟩ (hl.push _) hne hn fun h' tk acc c' hk hD hi => ?_
  have hD0 : H1 (s1.heap.push (revObj a ((its.toArray.size : Int) - 1))).objs.size = none := I2.hok.fresh (Nat.le_refl _)
  have nit : ∀ b u, H1 b = some u → b ≠ s1.heap.objs.size := fun b u e z => by rw [z, f0] at e; cases e
  have nD : ∀ b o, (s1.heap.push (revObj a ((its.toArray.size : Int) - 1))).get? b = some o → b ≠ (s1.heap.push (revObj a ((its.toArray.size : Int) - 1))).objs.size := fun b o e => Nat.ne_of_lt (Heap.lt_size e)
  have I3 : Inv X pins σ (upd H1 (s1.heap.push (revObj a ((its.toArray.size : Int) - 1))).objs.size (.lst xs.reverse)) { s1 with heap := h', toks := tk } := by
    refine L2.Inv.step (s := { s1 with heap := s1.heap.push (revObj a ((its.toArray.size : Int) - 1)) }) (h' := h') (t' := tk) (g' := s1.gens) (d' := s1.drawn) (ch := [s1.heap.objs.size]) I2 (fun b hb => ?_) (fun b o _ _ hc e _ => hk b o (fun z => hc (by simp [z])) e) (fun b o _ _ hc e _ => ⟨o.slots, hk b o (fun z => hc (by simp [z])) e⟩)
      (fun b o _ e n => by rw [upd_ne (nD b o e)]; exact n) (fun b o hc e => ⟨o, hk b o (fun z => hc (by simp [z])) e⟩) (fun b ys e => by rw [upd_ne (ne_of_none e hD0)]; exact e) (fun b o u e => by rw [upd_ne (ne_of_none e hD0)]; exact e)
      (fun b ps e => ⟨#[], by rw [upd_ne (ne_of_none e hD0), e]; simp⟩) (fun m hm => ?_) (fun b u e => ?_) I1.bare
    · have e : b = s1.heap.objs.size := by simpa using hb
      subst e
      exact ⟨f3, f1, f4, f5⟩
    · obtain ⟨o, es, ep, ho, r⟩ := hm
      exact ⟨o, es, ep, hk _ o (Ne.symm f1) ho, r⟩
    · by_cases hb : b = (s1.heap.push (revObj a ((its.toArray.size : Int) - 1))).objs.size
      · subst hb
        rw [upd_same] at e
        cases e
        refine ⟨by rw [List.length_reverse]; exact hz, acc.toList, c', RT.vals_rev rv hi, ?_⟩
        rw [Array.toArray_toList]
        exact hD
      · rw [upd_ne hb] at e
        refine (I2.hok b u e).stay (fun c v hc q => hk c v ?_ q) (fun c q => by rw [upd_ne (ne_of_none q hD0)]; exact q) fun c ys q => by rw [upd_ne (ne_of_none q hD0)]; exact q
        rcases hc with z | z
        · rw [z]; exact nit b u e
        · exact nit c _ z
  exact ⟨.ref _, _, I3, rfl, q _ hD0⟩
end Sh

set_option Elab.async false
set_option linter.all false
set_option maxRecDepth 100000
set_option maxHeartbeats 4000000
/-! M1: data compared, ranks, shapes: plain Lean (and what the layer's readings ask of it). -/
namespace Sh
open PySem PySem.Spec PyProof.Rows L2
/-! ### data of one form -/
structure IsD {α : Type} [DecidableEq α] (f : α → PyData) (k : Nat) : Prop where
  eqv : ∀ x y, PyData.eqv (f x) (f y) = decide (x = y)
  lay : ∀ x, (f x).canLay0 = true
  dep : ∀ x, (f x).depth ≤ k
theorem eqvAll_map {α : Type} [DecidableEq α] {f : α → PyData} {k : Nat} (h : IsD f k) : ∀ xs ys : List α, PyData.eqvAll (xs.map f) (ys.map f) = decide (xs = ys)
  | [], [] => by simp [PyData.eqvAll]
  | [], _ :: _ => by simp [PyData.eqvAll]
  | _ :: _, [] => by simp [PyData.eqvAll]
  | x :: xs, y :: ys => by
    simp only [List.map_cons, PyData.eqvAll, h.eqv, eqvAll_map h xs ys, List.cons.injEq, Bool.decide_and]
theorem layAll_map {α : Type} [DecidableEq α] {f : α → PyData} {k : Nat} (h : IsD f k) : ∀ xs : List α, PyData.canLayAll0 (xs.map f) = true
  | [] => by simp [PyData.canLayAll0]
  | x :: xs => by simp only [List.map_cons, PyData.canLayAll0, h.lay, layAll_map h xs, Bool.and_self]
theorem depAll_map {α : Type} [DecidableEq α] {f : α → PyData} {k : Nat} (h : IsD f k) : ∀ xs : List α, PyData.depthAll (xs.map f) ≤ k
  | [] => by simp [PyData.depthAll]
  | x :: xs => by
    have h1 := h.dep x
    have h2 := depAll_map h xs
    simp only [List.map_cons, PyData.depthAll]
    omega
theorem isD_int : IsD PyData.int 1 := ⟨fun x y => by simp [PyData.eqv, Bool.beq_eq_decide_eq], fun x => by simp [PyData.canLay0], fun x => by simp [PyData.depth]⟩
theorem isD_bool : IsD PyData.bool 1 := ⟨fun x y => by simp [PyData.eqv, Bool.beq_eq_decide_eq], fun x => by simp [PyData.canLay0], fun x => by simp [PyData.depth]⟩
theorem isD_list {α : Type} [DecidableEq α] {f : α → PyData} {k : Nat} (h : IsD f k) : IsD (fun xs : List α => PyData.list (xs.map f)) (k + 1) :=
  ⟨fun x y => by simp only [PyData.eqv, eqvAll_map h], fun x => by simp only [PyData.canLay0, layAll_map h], fun x => by have := depAll_map h x; simp only [PyData.depth]; omega⟩
theorem isD_tup {α : Type} [DecidableEq α] {f : α → PyData} {k : Nat} (h : IsD f k) : IsD (fun xs : List α => PyData.tuple (xs.map f)) (k + 1) :=
  ⟨fun x y => by simp only [PyData.eqv, eqvAll_map h], fun x => by simp only [PyData.canLay0, layAll_map h], fun x => by have := depAll_map h x; simp only [PyData.depth]; omega⟩
theorem shaped_of {α : Type} [DecidableEq α] {f : α → PyData} {k : Nat} (h : IsD f k) (hk : k ≤ 64) (x : α) : SeqAt.shaped (f x) = true := by
  unfold SeqAt.shaped
  rw [h.lay, decide_eq_true (Nat.le_trans (h.dep x) hk)]
  rfl
abbrev dInts : List Int → PyData := fun ns => .list (ns.map .int)
abbrev dTupI : List Int → PyData := fun ns => .tuple (ns.map .int)
abbrev dBools : List Bool → PyData := fun ns => .list (ns.map .bool)
abbrev dTupB : List Bool → PyData := fun ns => .tuple (ns.map .bool)
abbrev dLL : List (List Int) → PyData := fun xs => .list (xs.map dInts)
abbrev dLT : List (List Int) → PyData := fun xs => .list (xs.map dTupI)
theorem isD_ints : IsD dInts 2 := isD_list isD_int
theorem isD_tupI : IsD dTupI 2 := isD_tup isD_int
theorem isD_bools : IsD dBools 2 := isD_list isD_bool
theorem isD_tupB : IsD dTupB 2 := isD_tup isD_bool
theorem isD_LL : IsD dLL 3 := isD_list isD_ints
theorem isD_LT : IsD dLT 3 := isD_list isD_tupI
section
variable {K : PySem.W.Frag} {H : Hp}
theorem dpAll_int : ∀ ns : List Int, DpAll K H (ns.map V.int) (ns.map .int)
  | [] => .nil
  | n :: ns => .cons (.int n) (dpAll_int ns)
theorem dpAll_bool : ∀ ns : List Bool, DpAll K H (ns.map V.bl) (ns.map .bool)
  | [] => .nil
  | n :: ns => .cons (.bl n) (dpAll_bool ns)
theorem dp_ints {a : Addr} {ns : List Int} (h : SqL K H a (ns.map V.int)) : Dp K H (.ref a) (dInts ns) := .lst h (dpAll_int ns)
theorem dp_tupI {a : Addr} {ns : List Int} (h : SqT K H a (ns.map V.int)) : Dp K H (.ref a) (dTupI ns) := .tup h (dpAll_int ns)
theorem dp_bools {a : Addr} {ns : List Bool} (h : SqL K H a (ns.map V.bl)) : Dp K H (.ref a) (dBools ns) := .lst h (dpAll_bool ns)
theorem dp_tupB {a : Addr} {ns : List Bool} (h : SqT K H a (ns.map V.bl)) : Dp K H (.ref a) (dTupB ns) := .tup h (dpAll_bool ns)
theorem dpAll_of {α : Type} {f : α → PyData} : ∀ {vs : List V} {xs : List α}, Paired (fun v x => Dp K H v (f x)) vs xs → DpAll K H vs (xs.map f)
  | _, _, .nil => .nil
  | _, _, .cons h t => .cons h (dpAll_of t)
theorem rEq_of {α : Type} [DecidableEq α] {f : α → PyData} {k : Nat} {x y : V} {a b : α} {Q : VK} (D : IsD f k) (hk : k ≤ 64) (h1 : Dp K H x (f a)) (h2 : Dp K H y (f b)) (q : Q (.bl (decide (a = b))) H) : rEqD K x y H Q :=
  ⟨_, _, h1, h2, shaped_of D hk a, shaped_of D hk b, by rw [D.eqv]; exact q⟩
theorem rNe_of {α : Type} [DecidableEq α] {f : α → PyData} {k : Nat} {x y : V} {a b : α} {Q : VK} (D : IsD f k) (hk : k ≤ 64) (h1 : Dp K H x (f a)) (h2 : Dp K H y (f b)) (q : Q (.bl (!decide (a = b))) H) : rNeD K x y H Q :=
  ⟨_, _, h1, h2, shaped_of D hk a, shaped_of D hk b, by rw [D.eqv]; exact q⟩
theorem rEq_ints {a b : Addr} {ns ms : List Int} {Q : VK} (h1 : SqL K H a (ns.map V.int)) (h2 : SqL K H b (ms.map V.int)) (q : Q (.bl (decide (ns = ms))) H) : rEqD K (.ref a) (.ref b) H Q :=
  rEq_of isD_ints (by decide) (dp_ints h1) (dp_ints h2) q
theorem rNe_ints {a b : Addr} {ns ms : List Int} {Q : VK} (h1 : SqL K H a (ns.map V.int)) (h2 : SqL K H b (ms.map V.int)) (q : Q (.bl (!decide (ns = ms))) H) : rNeD K (.ref a) (.ref b) H Q :=
  rNe_of isD_ints (by decide) (dp_ints h1) (dp_ints h2) q
end
/-! ### x in (lists) -/
def rInDT (K : PySem.W.Frag) (neg : Bool) : R2 := fun x y H Q => ∃ d ds, Dp K H x d ∧ Dp K H y (.tuple ds) ∧ SeqAt.shaped d = true ∧ SeqAt.shaped (.list ds) = true ∧ Q (.bl (if neg then !(ds.any fun z => PyData.eqv z d) else ds.any fun z => PyData.eqv z d)) H
/-! ### the numbers 0 .. n - 1 -/
def rangeI (n : Nat) : List Int := (List.range n).map Int.ofNat
theorem rangeI_len (n : Nat) : (rangeI n).length = n := by simp [rangeI]
theorem rangeI_get {n i : Nat} (h : i < n) : (rangeI n)[i]? = some (i : Int) := by simp [rangeI, h]
theorem mem_rangeI {n : Nat} {x : Int} : x ∈ rangeI n ↔ 0 ≤ x ∧ x < n := by
  unfold rangeI
  simp only [List.mem_map, List.mem_range]
  constructor
  · rintro ⟨k, hk, rfl⟩
    exact ⟨Int.natCast_nonneg k, Int.ofNat_lt.mpr hk⟩
  · rintro ⟨h1, h2⟩
    exact ⟨x.toNat, by omega, by show ((x.toNat : Nat) : Int) = x; omega⟩
theorem rangeI_nodup (n : Nat) : (rangeI n).Nodup := by
  unfold rangeI List.Nodup
  rw [List.pairwise_map]
  exact List.Pairwise.imp (fun h e => h (Int.ofNat.inj e)) (List.nodup_range (n := n))
theorem rangeI_sorted (n : Nat) : (rangeI n).Pairwise (· ≤ ·) := by
  unfold rangeI
  rw [List.pairwise_map]
  exact List.pairwise_lt_range.imp fun h => Int.ofNat_le.mpr (Nat.le_of_lt h)
theorem rgV_range (n : Nat) : rgV 0 (n : Int) = (rangeI n).map V.int := by
  unfold rgV rangeI
  simp only [Int.sub_zero, Int.toNat_natCast, List.map_map]
  apply List.map_congr_left
  intro a _
  simp
/-! ### two ways to be sorted -/
theorem sorted_eq {ns ms : List Int} (p : ns.Perm ms) (h1 : ns.Pairwise (· ≤ ·)) (h2 : ms.Pairwise (· ≤ ·)) : ns = ms :=
  p.eq_of_pairwise (fun a b _ _ h h' => Int.le_antisymm h h') h1 h2
/-! ### ranks -/
def lessN (ns : List Int) (x : Int) : Int := ((ns.filter (· < x)).length : Int)
def rk (ns : List Int) : List Int := ns.map (lessN ns)
theorem rk_len (ns : List Int) : (rk ns).length = ns.length := by simp [rk]
theorem sorted_index : ∀ {l : List Int}, l.Pairwise (· ≤ ·) → ∀ {x : Int}, x ∈ l → l[(l.filter (· < x)).length]? = some x ∧ ∀ m y, m < (l.filter (· < x)).length → l[m]? = some y → y ≠ x
  | [], _, _, h => by simp at h
  | a :: l, hp, x, hx => by
    have h1 := (List.pairwise_cons.mp hp).1
    have h2 := (List.pairwise_cons.mp hp).2
    by_cases c : a < x
    · have hxl : x ∈ l := by
        rcases List.mem_cons.mp hx with e | e
        · omega
        · exact e
      have ih := sorted_index h2 hxl
      rw [List.filter_cons_of_pos (by simpa using c), List.length_cons]
      refine ⟨by rw [List.getElem?_cons_succ]; exact ih.1, fun m y hm hy => ?_⟩
      cases m with
      | zero =>
        have : a = y := by simpa using hy
        omega
      | succ m => exact ih.2 m y (by omega) (by simpa using hy)
    · have hall : ∀ y ∈ a :: l, ¬ y < x := fun y hy => by
        rcases List.mem_cons.mp hy with e | e
        · omega
        · have := h1 y e; omega
      have hz : (a :: l).filter (· < x) = [] := List.filter_eq_nil_iff.mpr (fun y hy => by simpa using hall y hy)
      rw [hz]
      have : a = x := by
        rcases List.mem_cons.mp hx with e | e
        · exact e.symm
        · have := h1 x e; omega
      exact ⟨by simp [this], fun m y hm => by simp at hm⟩
theorem rk_index {ns ns' : List Int} (perm : ns'.Perm ns) (ri : ns'.Pairwise (· ≤ ·)) (x : Int) (hx : x ∈ ns) : ∃ j : Nat, (j : Int) = lessN ns x ∧ ns'[j]? = some x ∧ ∀ m y, m < j → ns'[m]? = some y → y ≠ x := by
  have h := sorted_index ri (perm.mem_iff.mpr hx)
  have e : (ns'.filter (· < x)).length = (ns.filter (· < x)).length := (perm.filter _).length_eq
  exact ⟨(ns'.filter (· < x)).length, by unfold lessN; rw [e], h.1, h.2⟩
/-! ### rows and shapes -/
def rowOk (ns : List Int) : Prop := ns.length ≤ 30 ∧ ns.Nodup
def shapeOk (ns : List Int) : Prop := ns.length ≤ 30 ∧ ns.Perm (rangeI ns.length)
instance (ns : List Int) : Decidable (rowOk ns) := by unfold rowOk; infer_instance
instance (ns : List Int) : Decidable (shapeOk ns) := by unfold shapeOk; infer_instance
theorem shape_sorted {ns ns' : List Int} (p : ns'.Perm ns) (h : ns'.Pairwise (· ≤ ·)) : ns' = rangeI ns.length ↔ ns.Perm (rangeI ns.length) := by
  constructor
  · intro e; rw [← e]; exact p.symm
  · intro e; exact sorted_eq (p.trans e) h (rangeI_sorted _)
theorem shapeOk_row {ns : List Int} (h : shapeOk ns) : rowOk ns := ⟨h.1, h.2.nodup_iff.mpr (rangeI_nodup _)⟩
theorem shapeOk_mem {ns : List Int} (h : shapeOk ns) {x : Int} : x ∈ ns ↔ 0 ≤ x ∧ x < ns.length := by rw [h.2.mem_iff, mem_rangeI]
/-- flat ints within a list of values -/
theorem flat_ints (ns : List Int) : (ns.map V.int).all flatV = true := by
  rw [List.all_map]
  exact List.all_eq_true.mpr fun _ _ => rfl
theorem eqV_int (x y : Int) : eqV (.int x) (.int y) = decide (x = y) := by
  show (x == y) = _
  exact Bool.beq_eq_decide_eq _ _
theorem inV_ints (x : Int) (ns : List Int) : inV (.int x) (ns.map V.int) = decide (x ∈ ns) := by
  unfold inV
  rw [List.any_map]
  by_cases h : x ∈ ns
  · rw [decide_eq_true h]
    exact List.any_eq_true.mpr ⟨x, h, by simp [Function.comp, eqV_int]⟩
  · rw [decide_eq_false h]
    refine List.any_eq_false.mpr fun y hy => ?_
    simp only [Function.comp, eqV_int, decide_eq_true_eq]
    intro e; exact h (e ▸ hy)
end Sh

set_option Elab.async false
set_option linter.all false
set_option maxRecDepth 100000
set_option maxHeartbeats 4000000
/-! ShX: own errors caught: which class an except clause takes, isinstance of what was caught. -/
namespace Sh
open PySem PySem.Spec PyProof.Rows L2
section
variable {K : PySem.W.Frag}
theorem kit_ref {D C : Addr} {b : Bool} (hdct : PySem.W.hasDictIn K C = true) (ht : PySem.W.typeIn K (.ref C) = some (.type "type")) (h : PySem.W.subIn K (.ref D) (.ref C) = some b) (self : PySem.W.subIn K (.ref D) (.ref D) = some true) :
    PySem.W.kitOne K (.ref D) (.ref C) = some b := by
  obtain ⟨cd, hc, _⟩ := PySem.W.any_some hdct
  have e2 : ((PySem.W.clsIn K C).isSome && PySem.W.typeIn K (.ref C) == some (.type "type")) = true := by rw [hc, ht] <;> rfl
  unfold PySem.W.kitOne
  by_cases e : D = C
  · subst e
    rw [self] at h
    rw [if_pos (by simp)]
    exact h
  · rw [if_neg (by simpa using e)]
    show (if ((PySem.W.clsIn K C).isSome && PySem.W.typeIn K (.ref C) == some (.type "type")) = true then PySem.W.subIn K (.ref D) (.ref C) else none) = some b
    rw [if_pos e2]
    exact h
theorem kit_val {D : Addr} (h : PySem.W.subIn K (.ref D) (.type "ValueError") = some true) : PySem.W.kitOne K (.ref D) (.type "ValueError") = some true := by
  unfold PySem.W.kitOne
  rw [if_neg (by simp)]
  show (if PySem.W.kitMeta "ValueError" = true then PySem.W.subIn K (.ref D) (.type "ValueError") else none) = some true
  rw [if_pos (by decide +kernel)]
  exact h
end
/-- isinstance(e, c), e the error that the suite holds, of class cls -/
def rIsX (K : PySem.W.Frag) (a : Addr) (cls : Value) (d : Option Addr) : List V → Hp → VK → Prop := fun xs H Q => ∃ D, cls = .ref D ∧ d = none ∧ ExcC K D ∧ rIsE K D a xs H Q
theorem call_isX {X : Cx} {a : Addr} {oe : Obj} {pn : List (Addr × Obj)} {cls : Value} {d : Option Addr} (hz : Zc cls d oe) (hf : ∃ vs, oe.data = .fields vs) : CallR (X.suite a ((a, oe) :: pn)) (.builtin "isinstance") (rIsX X.K a cls d) := by
  intro pins s σ H xs us Q I r h
  obtain ⟨D, rfl, rfl, C, h⟩ := h
  exact call_isE C hz hf pins s σ H xs us Q I r h
theorem seq_of {t u : TS} {D : Ends} {σ : L2.St} {H : Hp} (Post : L2.St → Hp → Prop) (hu : ∀ σ H, Post σ H → u D σ H) (ht : ∀ U : L2.St → Hp → Prop, (∀ σ H, Post σ H → U σ H) → t { D with nx := U } σ H) : tSeq t u D σ H := ht _ hu
theorem seq_intro {t u : TS} {D : Ends} {σ : L2.St} {H : Hp} (h : t { D with nx := u D } σ H) : tSeq t u D σ H := h
/-! ### a loop over a list from its end -/
theorem forK_rev {K : PySem.W.Frag} {a : Addr} {g : TG} {tb : TS} {D : Ends} {σ : L2.St} {H : Hp} {α : Type} {n : Nat} (ns : List α) (h : α → V) (hn : n = ns.length) (Pv : Nat → L2.St → Hp → Prop) (h0 : Pv 0 σ H) (hl : ∀ i σ H, i ≤ ns.length → Pv i σ H → SqL K H a (ns.map h))
    (hs : ∀ (i : Nat) (x : α) σ H, i < ns.length → ns[ns.length - 1 - i]? = some x → Pv i σ H → g (h x) σ H fun σ2 H2 => tb { D with nx := Pv (i + 1), ct := Pv (i + 1), bk := D.nx } σ2 H2) (hd : ∀ σ H, Pv ns.length σ H → D.nx σ H) :
    ForK (Itv K a n) g tb D σ H := by
  subst hn
  refine ⟨fun i m σ H => m = ns.length - i ∧ i ≤ ns.length ∧ Pv i σ H, ⟨ns.length, by simp, Nat.zero_le _, h0⟩, ?_⟩
  rintro i m σ H ⟨rfl, hi, p⟩
  have q := hl i σ H hi p
  by_cases hlt : i < ns.length
  · have hx : ns[ns.length - 1 - i]? = some (ns[ns.length - 1 - i]'(by omega)) := List.getElem?_eq_getElem _
    have hy : (ns.map h)[ns.length - 1 - i]? = some (h (ns[ns.length - 1 - i]'(by omega))) := by rw [List.getElem?_map, hx]; rfl
    refine .inr ⟨⟨hlt, ns.map h, _, q, hy⟩, Pv (i + 1), fun σ' H' p' => ⟨ns.length - (i + 1), by omega, rfl, hlt, p'⟩, fun x H' y => ?_⟩
    obtain ⟨e, y⟩ := y
    subst e
    have e2 := (y _ q).symm.trans hy
    cases e2
    exact hs i _ σ _ hlt hx p
  · have e : i = ns.length := by omega
    subst e
    exact .inl ⟨Nat.le_refl _, hd σ H p⟩
end Sh

set_option Elab.async false
set_option linter.all false
set_option maxRecDepth 100000
set_option maxHeartbeats 4000000
/-! ShY: x in a written tuple of lists; sorted of lists of ints. -/
namespace Sh
open PySem PySem.Spec PyProof.Rows L2
theorem room65 {k : Nat} {A : Around} (r : Room k A) : A.units + 65 < cLine := by have := r.un; omega
theorem room66 {k : Nat} {A : Around} (r : Room k A) : A.units + 66 < cLine := by have := r.un; omega
section
variable {X : Cx}
theorem op_inDT (hu : X.A.units + 65 < cLine) : OpR X (compareOp .In) (rInDT X.K false) := by
  intro pins s σ H x y v u Q I rx ry h
  obtain ⟨d, ds, hd, he, sd, se, q⟩ := h
  obtain ⟨as, r1⟩ := Dp.reads I d x v hd rx
  obtain ⟨bs, r2⟩ := Dp.reads I (.tuple ds) y u he ry
  exact SeqAt.in_tuple_reads r2 r1 (SeqAt.canLay_of_shaped se) (SeqAt.canLay_of_shaped sd) (room_in_shaped sd hu) ⟨.bl _, H, I, rfl, q⟩
/-- sorted(xs), xs a list of lists of ints, each told by its address and its ints -/
def rSortedLL (K : PySem.W.Frag) : List V → Hp → VK → Prop := fun vs H Q => ∃ (a : Addr) (bs : List (Addr × List Int)), vs = [V.ref a] ∧ SqL K H a (bs.map fun b => V.ref b.1) ∧ (∀ b ∈ bs, H b.1 = some (.lst (b.2.map V.int))) ∧
  ∀ (rs : List (Addr × List Int)) (p : Addr), rs.Perm bs → rs.Pairwise (fun x y => x.2 ≤ y.2) → H p = none → Q (.ref p) (upd H p (.lst (rs.map fun b => V.ref b.1)))
theorem refs_vals : ∀ {bs : List (Addr × List Int)} {us : List Value}, Vals (bs.map fun b => V.ref b.1) us → us = bs.map fun b => Value.ref b.1
  | [], _, r => by cases r; rfl
  | b :: bs, us, r => by
    cases r with
    | cons r1 r2 =>
      cases r1
      rw [refs_vals r2]; rfl
theorem vals_refs : ∀ (bs : List (Addr × List Int)), Vals (bs.map fun b => V.ref b.1) (bs.map fun b => Value.ref b.1)
  | [] => .nil
  | b :: bs => .cons rfl (vals_refs bs)
theorem each_of {α β : Type} {R : Value → β → Prop} (f : β → Value) : ∀ (bs : List β), (∀ b ∈ bs, R (f b) b) → PySem.W.EachIs R (bs.map f) bs
  | [], _ => .nil
  | b :: bs, h => .cons (h b (by simp)) (each_of (α := α) f bs fun c hc => h c (by simp [hc]))
theorem each_eq {β : Type} (f : β → Value) : ∀ {vs : List Value} {bs : List β}, PySem.W.EachIs (fun v b => v = f b) vs bs → vs = bs.map f
  | _, _, .nil => rfl
  | _, _, .cons h t => by rw [h, each_eq f t]; rfl
theorem le_total_ll (a b : List Int) : a ≤ b ∨ b ≤ a := by
  by_cases h : b < a
  · exact .inr (List.le_of_lt h)
  · exact .inl (List.not_lt.mp h)
theorem cr_sortedLL (hu : X.A.units + 66 < cLine) : CallR X (.builtin "sorted") (rSortedLL X.K) := by
  intro pins s σ H vs us Q I r h
  obtain ⟨a, bs, rfl, hs, hb, q⟩ := h
  obtain ⟨its, rv, hl, hz⟩ := I.list hs
  rw [Vals.ref1 r]
  have ei := refs_vals rv
  subst ei
  rw [List.length_map] at hz
  have er : PySem.W.EachIs (fun v (b : Addr × List Int) => ∃ as, Reads s.heap v (dInts b.2) as) (bs.map fun b => Value.ref b.1) bs :=
    each_of (α := Unit) (fun b => Value.ref b.1) bs fun b hm => Dp.reads I (dInts b.2) (.ref b.1) _ (dp_ints (SqL.of (hb b hm))) rfl
  have e0 : PySem.W.EachIs (fun v (b : Addr × List Int) => v = Value.ref b.1) (bs.map fun b => Value.ref b.1) bs := each_of (α := Unit) (fun b => Value.ref b.1) bs fun b _ => rfl
  refine PySem.W.sorted_data (enc := fun b : Addr × List Int => dInts b.2) hl.isList e0 er (PySem.W.AllAlike.of fun b b' => ?_) (PySem.W.Sortable.others fun b => ⟨fun z => (nomatch z), fun xs z => (nomatch z)⟩) hz (fun b _ => ?_) fun out ho hout => ?_
  · show PySem.W.alike (.list (b.2.map .int)) (.list (b'.2.map .int)) = true
    rw [PySem.W.alike]
    exact PySem.W.alike_ints _ _
  · have := isD_ints.dep b.2
    show X.A.units + 2 + (dInts b.2).depth < cLine
    omega
  · have eo := each_eq (fun b : Addr × List Int => Value.ref b.1) hout
    rw [PySem.W.dataLe_rows (fun b : Addr × List Int => b.2)] at eo
    subst eo
    obtain ⟨ep, he'⟩ := PyProof.Rows.sortedAll_at s.heap (bs.map fun b => Value.ref b.1) ((bs.mergeSort fun p q => decide (p.2 ≤ q.2)).map fun b => Value.ref b.1).toArray
    have pm : (bs.mergeSort fun p q => decide (p.2 ≤ q.2)).Perm bs := List.mergeSort_perm _ _
    have pw : (bs.mergeSort fun p q => decide (p.2 ≤ q.2)).Pairwise (fun x y => x.2 ≤ y.2) := by
      refine (List.pairwise_mergeSort (le := fun p q : Addr × List Int => decide (p.2 ≤ q.2)) (fun x y z h1 h2 => ?_) (fun x y => ?_) bs).imp fun h => of_decide_eq_true h
      · exact decide_eq_true (List.le_trans (of_decide_eq_true h1) (of_decide_eq_true h2))
      · rcases le_total_ll x.2 y.2 with h | h
        · rw [decide_eq_true h]; rfl
        · rw [decide_eq_true h]; simp
    have hlen : ((bs.mergeSort fun p q => decide (p.2 ≤ q.2)).map fun b => V.ref b.1).length ≤ sizeLine := by
      rw [List.length_map, pm.length_eq]; exact hz
    exact ⟨.ref _, upd H (s.heap.objs.size + 1) (.lst ((bs.mergeSort fun p q => decide (p.2 ≤ q.2)).map fun b => V.ref b.1)), I.laid (t' := s.toks) (fun _ _ => PyProof.Rows.sortedAll_old) (Nat.le_succ _) ⟨hlen, _, ep, vals_refs _, he'⟩, rfl, q _ _ pm pw (I.hok.fresh (Nat.le_succ _))⟩
end
/-! ### comprehensions over a tuple -/
section
variable {K : PySem.W.Frag} {a : Addr} {g : TG} {tt : TT} {te : TE} {vs : List Nat} {σw : L2.St} {H1 : Hp} {D : Addr} {Qd : Hp → Prop}
theorem lcK_tup (xs : List V) (Pv : Nat → Hp → Prop) (h0 : Pv 0 (upd H1 D (.lst []))) (hl : ∀ i H, i ≤ xs.length → Pv i H → SqT K H a xs)
    (hs : ∀ i x H, xs[i]? = some x → Pv i H → g x σw H fun σ2 H2 => wipe σ2 vs = σw ∧ tt σ2 H2 fun b H3 =>
      if b = true then te σ2 H3 fun y H4 => ∃ acc, H4 D = some (.lst acc) ∧ acc.length < sizeLine ∧ Pv (i + 1) (upd H4 D (.lst (acc ++ [y]))) else Pv (i + 1) H3) (hd : ∀ H, Pv xs.length H → Qd H) :
    LcK (Itt K a) g tt te σw vs D Qd H1 := by
  refine ⟨fun i m H => m = xs.length - i ∧ i ≤ xs.length ∧ Pv i H, ⟨xs.length, by simp, Nat.zero_le _, h0⟩, ?_⟩
  rintro i m H ⟨rfl, hi, p⟩
  have q := hl i H hi p
  by_cases hlt : i < xs.length
  · refine .inr ⟨⟨xs, xs[i], q, by simp [hlt]⟩, Pv (i + 1), fun H' p' => ⟨xs.length - (i + 1), by omega, rfl, hlt, p'⟩, fun x H' y => ?_⟩
    obtain ⟨e, y⟩ := y
    subst e
    exact hs i x _ (y xs q) p
  · have e : i = xs.length := by omega
    subst e
    exact .inl ⟨⟨xs, q, Nat.le_refl _⟩, hd H p⟩
theorem lcK_filtT {α : Type} (ns : List α) (h : α → V) (p : α → Bool) (F : α → V) (nD : H1 D = none) (hS : SqT K H1 a (ns.map h)) (hl : ns.length ≤ 16000000)
    (hs : ∀ (i : Nat) (x : α) acc H (Qt : VK) (Qf : Hp → Prop), ns[i]? = some x → Same H1 H → H D = some (.lst acc) → (p x = true → ∀ H4, Same H1 H4 → H4 D = some (.lst acc) → Qt (F x) H4) → (p x = false → ∀ H4, Same H1 H4 → H4 D = some (.lst acc) → Qf H4) →
      g (h x) σw H fun σ2 H2 => wipe σ2 vs = σw ∧ tt σ2 H2 fun b H3 => if b = true then te σ2 H3 Qt else Qf H3)
    (hd : ∀ H, Same H1 H → H D = some (.lst ((ns.filter p).map F)) → Qd H) : LcK (Itt K a) g tt te σw vs D Qd H1 := by
  have seqt : ∀ {H}, Same H1 H → SqT K H a (ns.map h) := fun {H} s => by
    rcases hS with (q | ⟨u, q⟩) | q
    · exact .inl (.inl (s _ _ q))
    · exact .inl (.inr ⟨u, s _ _ q⟩)
    · exact .inr q
  refine lcK_tup (ns.map h) (fun i H => Same H1 H ∧ H D = some (.lst (((ns.take i).filter p).map F))) ⟨same_new nD, upd_same⟩ (fun i H _ h => seqt h.1) (fun i y H hy h => ?_) fun H h => ?_
  · obtain ⟨x, hx, rfl⟩ := at_map hy
    refine hs i x _ H _ _ hx h.1 h.2 (fun e H4 s4 h4 => ?_) (fun e H4 s4 h4 => ?_)
    · refine ⟨_, h4, ?_, same_mut s4 nD, ?_⟩
      · have hi : i < ns.length := (List.getElem?_eq_some_iff.mp hx).1
        have := List.length_filter_le p (ns.take i)
        simp only [List.length_map, List.length_take] at *
        exact lineLt (by omega)
      · rw [upd_same, take_more hx, List.filter_append, List.map_append, List.filter_cons_of_pos e]
        rfl
    · refine ⟨s4, ?_⟩
      rw [h4, take_more hx, List.filter_append, List.filter_cons_of_neg (by simp [e]), List.filter_nil, List.append_nil]
  · have e := h.2
    rw [List.length_map, List.take_length] at e
    exact hd H h.1 e
theorem lcK_mapT {α : Type} (ns : List α) (h : α → V) (F : α → V) (nD : H1 D = none) (hS : SqT K H1 a (ns.map h)) (hl : ns.length ≤ 16000000)
    (hs : ∀ (i : Nat) (x : α) acc H (Q : VK), ns[i]? = some x → Same H1 H → H D = some (.lst acc) → (∀ H4, Same H1 H4 → H4 D = some (.lst acc) → Q (F x) H4) → g (h x) σw H fun σ2 H2 => wipe σ2 vs = σw ∧ te σ2 H2 Q)
    (hd : ∀ H, Same H1 H → H D = some (.lst (ns.map F)) → Qd H) : LcK (Itt K a) g tYes te σw vs D Qd H1 := by
  refine lcK_filtT (tt := tYes) ns h (fun _ => true) F nD hS hl (fun i x acc H Qt Qf hx s d ht _ => ?_) (fun H s d => hd H s (by rw [List.filter_eq_self.mpr (fun _ _ => rfl)] at d; exact d))
  exact hs i x acc H Qt hx s d (ht rfl)
end
/-! ### comprehensions whose elements are new objects -/
section
variable {K : PySem.W.Frag} {a : Addr} {g : TG} {te : TE} {vs : List Nat} {σw : L2.St} {H1 : Hp} {D : Addr} {Qd : Hp → Prop} {β : Type}
theorem new_snoc {H1 H H4 : Hp} {D p : Addr} {bs : List (Addr × β)} {O : β → HO} {y : β} (nD : H1 D = none) (s : Same H1 H) (hD : H D = some (.lst (bs.map fun b => V.ref b.1))) (hb : ∀ b ∈ bs, H b.1 = some (O b.2)) (hn : ∀ b ∈ bs, H1 b.1 = none) (hne : ∀ b ∈ bs, b.1 ≠ D)
    (s4 : Same H H4) (np : H p = none) (hp : H4 p = some (O y)) :
    Same H1 (upd H4 D (.lst ((bs ++ [(p, y)]).map fun b => V.ref b.1))) ∧ (∀ b ∈ bs ++ [(p, y)], (upd H4 D (.lst ((bs ++ [(p, y)]).map fun b => V.ref b.1))) b.1 = some (O b.2)) ∧ (∀ b ∈ bs ++ [(p, y)], H1 b.1 = none) ∧ (∀ b ∈ bs ++ [(p, y)], b.1 ≠ D) := by
  have hpD : p ≠ D := (ne_of_none hD np).symm
  refine ⟨same_mut (s.trans s4) nD, fun b h => ?_, fun b h => ?_, fun b h => ?_⟩
  · rcases List.mem_append.mp h with z | z
    · rw [upd_ne (hne b z)]; exact s4 _ _ (hb b z)
    · have e : b = (p, y) := by simpa using z
      subst e; rw [upd_ne hpD]; exact hp
  · rcases List.mem_append.mp h with z | z
    · exact hn b z
    · have e : b = (p, y) := by simpa using z
      subst e; exact s.free np
  · rcases List.mem_append.mp h with z | z
    · exact hne b z
    · have e : b = (p, y) := by simpa using z
      subst e; exact hpD
theorem lcK_newR {lo : Int} {n : Nat} (O : β → HO) (G : Nat → β) (nD : H1 D = none) (hl : n ≤ 16000000)
    (hs : ∀ i H (Q : VK), i < n → Same H1 H → (∀ H4 p, Same H H4 → H p = none → H4 p = some (O (G i)) → Q (.ref p) H4) → g (.int (lo + i)) σw H fun σ2 H2 => wipe σ2 vs = σw ∧ te σ2 H2 Q)
    (hd : ∀ H (bs : List (Addr × β)), Same H1 H → H D = some (.lst (bs.map fun b => V.ref b.1)) → (∀ b ∈ bs, H b.1 = some (O b.2)) → (∀ b ∈ bs, H1 b.1 = none) → (∀ b ∈ bs, b.1 ≠ D) → bs.map Prod.snd = (List.range n).map G → Qd H) : LcK (Itr lo n) g tYes te σw vs D Qd H1 := by
  refine lcK_range (fun i H => Same H1 H ∧ ∃ bs : List (Addr × β), H D = some (.lst (bs.map fun b => V.ref b.1)) ∧ (∀ b ∈ bs, H b.1 = some (O b.2)) ∧ (∀ b ∈ bs, H1 b.1 = none) ∧ (∀ b ∈ bs, b.1 ≠ D) ∧ bs.map Prod.snd = (List.range i).map G)
    ⟨same_new nD, [], upd_same, fun _ h => by simp at h, fun _ h => by simp at h, fun _ h => by simp at h, rfl⟩ (fun i H hi h => ?_) fun H h => ?_
  · obtain ⟨s, bs, hD, hb, hn, hne, e⟩ := h
    refine hs i H _ hi s fun H4 p s4 np hp => ?_
    have hl2 : bs.length = i := by have := congrArg List.length e; simpa using this
    obtain ⟨k1, k2, k3, k4⟩ := new_snoc nD s hD hb hn hne s4 np hp
    refine ⟨_, s4 _ _ hD, by simp only [List.length_map]; exact lineLt (by omega), ?_⟩
    rw [show bs.map (fun b => V.ref b.1) ++ [V.ref p] = (bs ++ [(p, G i)]).map (fun b => V.ref b.1) by simp]
    exact ⟨k1, bs ++ [(p, G i)], upd_same, k2, k3, k4, by rw [List.map_append, e, List.range_succ, List.map_append]; rfl⟩
  · obtain ⟨s, bs, hD, hb, hn, hne, e⟩ := h
    exact hd H bs s hD hb hn hne e
theorem lcK_newL {α : Type} (ns : List α) (h : α → V) (O : β → HO) (G : α → β) (nD : H1 D = none) (hS : SqL K H1 a (ns.map h)) (hl : ns.length ≤ 16000000)
    (hs : ∀ (i : Nat) (x : α) H (Q : VK), ns[i]? = some x → Same H1 H → (∀ H4 p, Same H H4 → H p = none → H4 p = some (O (G x)) → Q (.ref p) H4) → g (h x) σw H fun σ2 H2 => wipe σ2 vs = σw ∧ te σ2 H2 Q)
    (hd : ∀ H (bs : List (Addr × β)), Same H1 H → H D = some (.lst (bs.map fun b => V.ref b.1)) → (∀ b ∈ bs, H b.1 = some (O b.2)) → (∀ b ∈ bs, H1 b.1 = none) → (∀ b ∈ bs, b.1 ≠ D) → bs.map Prod.snd = ns.map G → Qd H) : LcK (Itl K a) g tYes te σw vs D Qd H1 := by
  refine lcK_list (ns.map h) (fun i H => Same H1 H ∧ ∃ bs : List (Addr × β), H D = some (.lst (bs.map fun b => V.ref b.1)) ∧ (∀ b ∈ bs, H b.1 = some (O b.2)) ∧ (∀ b ∈ bs, H1 b.1 = none) ∧ (∀ b ∈ bs, b.1 ≠ D) ∧ bs.map Prod.snd = (ns.take i).map G)
    ⟨same_new nD, [], upd_same, fun _ h => by simp at h, fun _ h => by simp at h, fun _ h => by simp at h, rfl⟩ (fun i H _ h => h.1.seq hS) (fun i y H hy h => ?_) fun H h => ?_
  · obtain ⟨x, hx, rfl⟩ := at_map hy
    obtain ⟨s, bs, hD, hb, hn, hne, e⟩ := h
    refine hs i x H _ hx s fun H4 p s4 np hp => ?_
    have hi : i < ns.length := (List.getElem?_eq_some_iff.mp hx).1
    have hl2 : bs.length = i := by have := congrArg List.length e; simp at this; omega
    obtain ⟨k1, k2, k3, k4⟩ := new_snoc nD s hD hb hn hne s4 np hp
    refine ⟨_, s4 _ _ hD, by simp only [List.length_map]; exact lineLt (by omega), ?_⟩
    rw [show bs.map (fun b => V.ref b.1) ++ [V.ref p] = (bs ++ [(p, G x)]).map (fun b => V.ref b.1) by simp]
    exact ⟨k1, bs ++ [(p, G x)], upd_same, k2, k3, k4, by rw [List.map_append, e, take_more hx, List.map_append]; rfl⟩
  · obtain ⟨s, bs, hD, hb, hn, hne, e⟩ := h
    rw [List.length_map, List.take_length] at e
    exact hd H bs s hD hb hn hne e
end
/-! ### for k in reversed(range(n)) -/
theorem forK_revR {lo : Int} {n : Nat} {g : TG} {tb : TS} {D : Ends} {σ : L2.St} {H : Hp} (hlo : lo = (n : Int) - 1) (Pv : Nat → L2.St → Hp → Prop) (h0 : Pv 0 σ H)
    (hs : ∀ i σ H, i < n → Pv i σ H → g (.int (((n - 1 - i : Nat)) : Int)) σ H fun σ2 H2 => tb { D with nx := Pv (i + 1), ct := Pv (i + 1), bk := D.nx } σ2 H2) (hd : ∀ σ H, Pv n σ H → D.nx σ H) :
    ForK (Itc lo (-1) n) g tb D σ H := by
  refine ⟨fun i m σ H => m = n - i ∧ i ≤ n ∧ Pv i σ H, ⟨n, by simp, Nat.zero_le _, h0⟩, ?_⟩
  rintro i m σ H ⟨rfl, hi, p⟩
  by_cases hlt : i < n
  · refine .inr ⟨hlt, Pv (i + 1), fun σ' H' p' => ⟨n - (i + 1), by omega, rfl, hlt, p'⟩, fun x H' y => ?_⟩
    obtain ⟨e, y⟩ := y
    subst e
    rw [y, show lo + (i : Int) * (-1) = ((n - 1 - i : Nat) : Int) by omega]
    exact hs i _ _ hlt p
  · have e : i = n := by omega
    subst e
    exact .inl ⟨Nat.le_refl _, hd σ H p⟩
end Sh

set_option Elab.async false
set_option linter.all false
set_option maxRecDepth 100000
set_option maxHeartbeats 4000000
/-! M2: contrary, turned over: plain Lean. -/
namespace Sh
open PySem PySem.Spec PyProof.Rows L2
/-! ### contrary, turned over -/
def contraryL (ns : List Int) : List Int := ns.map fun x => (ns.length : Int) - 1 - x
def overL (ns : List Int) : List Int := (List.range ns.length).map fun i : Nat => ((ns.idxOf (i : Int) : Nat) : Int)
theorem idxOf_at : ∀ {ns : List Int} {x : Int}, x ∈ ns → ns[ns.idxOf x]? = some x
  | [], _, h => by simp at h
  | a :: ns, x, h => by
    by_cases e : a = x
    · subst e; simp [List.idxOf_cons]
    · have h' : x ∈ ns := by
        rcases List.mem_cons.mp h with z | z
        · exact absurd z.symm e
        · exact z
      have q : (a == x) = false := by simpa using e
      rw [List.idxOf_cons, q]
      simpa using idxOf_at h'
theorem idxOf_min : ∀ {ns : List Int} {x : Int} {m : Nat} {y : Int}, m < ns.idxOf x → ns[m]? = some y → y ≠ x
  | [], _, _, _, h, _ => by simp at h
  | a :: ns, x, m, y, h, hy => by
    by_cases e : a = x
    · subst e; simp [List.idxOf_cons] at h
    · have q : (a == x) = false := by simpa using e
      rw [List.idxOf_cons, q] at h
      cases m with
      | zero =>
        have : a = y := by simpa using hy
        rw [← this]; exact e
      | succ m => exact idxOf_min (ns := ns) (m := m) (by simpa using h) (by simpa using hy)
theorem filter_len_le {α : Type} {p q : α → Bool} (h : ∀ x, q x = true → p x = true) : ∀ l : List α, (l.filter q).length ≤ (l.filter p).length
  | [] => by simp
  | a :: l => by
    have ih := filter_len_le h l
    by_cases c : q a = true
    · rw [List.filter_cons_of_pos c, List.filter_cons_of_pos (h a c)]
      simp; omega
    · rw [List.filter_cons_of_neg c]
      by_cases d : p a = true
      · rw [List.filter_cons_of_pos d]; simp; omega
      · rw [List.filter_cons_of_neg d]; exact ih
theorem filter_len_lt {α : Type} {p q : α → Bool} (h : ∀ x, q x = true → p x = true) {x : α} (hp : p x = true) (hq : q x = false) : ∀ l : List α, x ∈ l → (l.filter q).length < (l.filter p).length
  | a :: l, hm => by
    have le := filter_len_le h l
    by_cases e : a = x
    · subst e
      rw [List.filter_cons_of_neg (by simp [hq]), List.filter_cons_of_pos hp]
      simp; omega
    · have ih := filter_len_lt h hp hq l (by rcases List.mem_cons.mp hm with z | z; exact absurd z.symm e; exact z)
      by_cases c : q a = true
      · rw [List.filter_cons_of_pos c, List.filter_cons_of_pos (h a c)]
        simp; omega
      · rw [List.filter_cons_of_neg c]
        by_cases d : p a = true
        · rw [List.filter_cons_of_pos d]; simp; omega
        · rw [List.filter_cons_of_neg d]; exact ih
theorem filter_next {row : List Int} {num : Int} (h : num ∈ row) : (row.filter (fun y => decide (num + 1 ≤ y))).length < (row.filter (fun y => decide (num ≤ y))).length :=
  filter_len_lt (x := num) (fun x hx => by simp at hx ⊢; omega) (by simp) (by simp; omega) row h
end Sh

set_option Elab.async false
set_option linter.all false
set_option maxRecDepth 100000
set_option maxHeartbeats 4000000
/-! M3: shapes of rows, and shapes turned: plain Lean. -/
namespace Sh
open PySem PySem.Spec PyProof.Rows L2
theorem perm_of_sub {α : Type} [DecidableEq α] : ∀ {l m : List α}, l.Nodup → (∀ x ∈ l, x ∈ m) → m.length ≤ l.length → l.Perm m
  | [], m, _, _, h => by
    have : m = [] := by cases m with
      | nil => rfl
      | cons a r => simp at h
    subst this; exact List.Perm.nil
  | a :: l, m, hn, hs, h => by
    have ha : a ∈ m := hs a (by simp)
    have hn' := List.nodup_cons.mp hn
    have p : m.Perm (a :: m.erase a) := List.perm_cons_erase ha
    have hs' : ∀ x ∈ l, x ∈ m.erase a := fun x hx => by
      have hx' : x ∈ a :: m.erase a := p.mem_iff.mp (hs x (by simp [hx]))
      rcases List.mem_cons.mp hx' with e | e
      · exact absurd (e ▸ hx) hn'.1
      · exact e
    have hl : (m.erase a).length ≤ l.length := by
      have := List.length_erase_of_mem ha
      simp at h; omega
    exact ((perm_of_sub hn'.2 hs' hl).cons a).trans p.symm
theorem lessN_lt {ns : List Int} {x y : Int} (hx : x ∈ ns) (h : x < y) : lessN ns x < lessN ns y := by
  unfold lessN
  have := filter_len_lt (p := fun z => decide (z < y)) (q := fun z => decide (z < x)) (fun z hz => by simp at hz ⊢; omega) (x := x) (by simpa using h) (by simp) ns hx
  omega
theorem lessN_inj {ns : List Int} {x y : Int} (hx : x ∈ ns) (hy : y ∈ ns) (e : lessN ns x = lessN ns y) : x = y := by
  rcases Int.lt_trichotomy x y with h | h | h
  · have := lessN_lt hx h; omega
  · exact h
  · have := lessN_lt hy h; omega
theorem lessN_bound {ns : List Int} {x : Int} (hx : x ∈ ns) : 0 ≤ lessN ns x ∧ lessN ns x < ns.length := by
  unfold lessN
  refine ⟨by omega, ?_⟩
  have := filter_len_lt (p := fun _ => true) (q := fun z => decide (z < x)) (fun z _ => rfl) (x := x) rfl (by simp) ns hx
  rw [List.filter_eq_self.mpr (fun _ _ => rfl)] at this
  omega
theorem nodup_map {α β : Type} {f : α → β} {l : List α} (h : l.Nodup) (inj : ∀ a ∈ l, ∀ b ∈ l, f a = f b → a = b) : (l.map f).Nodup := by
  unfold List.Nodup
  rw [List.pairwise_map]
  exact List.Pairwise.imp_of_mem (fun {a b} ha hb hne e => hne (inj a ha b hb e)) h
theorem shape_of_nodup {ns : List Int} (hl : ns.length ≤ 30) (nd : ns.Nodup) (b : ∀ x ∈ ns, 0 ≤ x ∧ x < ns.length) : shapeOk ns :=
  ⟨hl, perm_of_sub nd (fun x hx => mem_rangeI.mpr (b x hx)) (by rw [rangeI_len]; exact Nat.le_refl _)⟩
theorem rk_shape {ns : List Int} (h : rowOk ns) : shapeOk (rk ns) := by
  refine shape_of_nodup (by rw [rk_len]; exact h.1) (nodup_map h.2 fun a ha b hb e => lessN_inj ha hb e) fun x hx => ?_
  obtain ⟨y, hy, rfl⟩ := List.mem_map.mp hx
  rw [rk_len]
  exact lessN_bound hy
theorem range_less (n : Nat) : ∀ k : Nat, k ≤ n → ((List.range n).filter (fun i => decide (i < k))).length = k := by
  induction n with
  | zero => intro k hk; have : k = 0 := by omega
            subst this; rfl
  | succ n ih =>
    intro k hk
    rw [List.range_succ, List.filter_append, List.length_append]
    by_cases e : k ≤ n
    · rw [ih k e, List.filter_cons_of_neg (by simp; omega)]; simp
    · have : k = n + 1 := by omega
      subst this
      have h1 : (List.range n).filter (fun i => decide (i < n + 1)) = List.range n := List.filter_eq_self.mpr fun i hi => by have := List.mem_range.mp hi; simp; omega
      rw [h1, List.filter_cons_of_pos (by simp)]
      simp
theorem lessN_range {n : Nat} {x : Int} (h0 : 0 ≤ x) (h : x ≤ n) : lessN (rangeI n) x = x := by
  obtain ⟨k, rfl⟩ : ∃ k : Nat, x = (k : Int) := ⟨x.toNat, by omega⟩
  unfold lessN rangeI
  rw [List.filter_map, List.length_map]
  have := range_less n k (by omega)
  have e : ((fun x => decide (x < (k : Int))) ∘ Int.ofNat) = fun i : Nat => decide (i < k) := by
    funext i
    simp [Function.comp]
  rw [e, this]
theorem lessN_perm {a b : List Int} (p : a.Perm b) (x : Int) : lessN a x = lessN b x := by
  unfold lessN; rw [(p.filter _).length_eq]
theorem rk_self {ns : List Int} (h : shapeOk ns) : rk ns = ns := by
  unfold rk
  conv => rhs; rw [← List.map_id ns]
  refine List.map_congr_left fun x hx => ?_
  have := (shapeOk_mem h).mp hx
  rw [lessN_perm h.2, lessN_range this.1 (by omega)]
  rfl
theorem reverse_shape {ns : List Int} (h : shapeOk ns) : shapeOk ns.reverse := ⟨by rw [List.length_reverse]; exact h.1, by rw [List.length_reverse]; exact (List.reverse_perm ns).trans h.2⟩
theorem contrary_len (ns : List Int) : (contraryL ns).length = ns.length := by simp [contraryL]
theorem contrary_shape {ns : List Int} (h : shapeOk ns) : shapeOk (contraryL ns) := by
  refine shape_of_nodup (by rw [contrary_len]; exact h.1) (nodup_map (shapeOk_row h).2 fun a _ b _ e => by omega) fun x hx => ?_
  obtain ⟨y, hy, rfl⟩ := List.mem_map.mp hx
  rw [contrary_len]
  have := (shapeOk_mem h).mp hy
  omega
theorem contrary_back (ns : List Int) : contraryL (contraryL ns) = ns := by
  unfold contraryL
  rw [List.map_map, List.length_map]
  conv => rhs; rw [← List.map_id ns]
  refine List.map_congr_left fun x _ => ?_
  simp only [Function.comp, id]
  omega
theorem over_len (ns : List Int) : (overL ns).length = ns.length := by simp [overL]
theorem over_get {ns : List Int} {i : Nat} (h : i < ns.length) : (overL ns)[i]? = some ((ns.idxOf (i : Int) : Nat) : Int) := by simp [overL, h]
theorem idxOf_of {ns : List Int} (nd : ns.Nodup) {i : Nat} {x : Int} (h : ns[i]? = some x) : ns.idxOf x = i := by
  have hm := List.mem_of_getElem? h
  exact nd_ix nd (idxOf_at hm) h
theorem idxOf_inj {ns : List Int} {x y : Int} (hx : x ∈ ns) (hy : y ∈ ns) (e : ns.idxOf x = ns.idxOf y) : x = y := by
  have h1 := idxOf_at hx
  rw [e, idxOf_at hy] at h1
  exact (Option.some.inj h1).symm
theorem idxOf_lt {ns : List Int} {x : Int} (hx : x ∈ ns) : ns.idxOf x < ns.length := (List.getElem?_eq_some_iff.mp (idxOf_at hx)).1
theorem over_shape {ns : List Int} (h : shapeOk ns) : shapeOk (overL ns) := by
  have hm : ∀ i ∈ List.range ns.length, ((i : Nat) : Int) ∈ ns := fun i hi => (shapeOk_mem h).mpr ⟨by omega, by have := List.mem_range.mp hi; omega⟩
  refine shape_of_nodup (by rw [over_len]; exact h.1) (nodup_map List.nodup_range fun a ha b hb e => ?_) fun x hx => ?_
  · have := idxOf_inj (hm a ha) (hm b hb) (by omega)
    omega
  · obtain ⟨y, hy, rfl⟩ := List.mem_map.mp hx
    rw [over_len]
    have := idxOf_lt (hm y hy)
    omega
theorem over_back {ns : List Int} (h : shapeOk ns) : overL (overL ns) = ns := by
  apply List.ext_getElem?
  intro i
  by_cases hi : i < ns.length
  · rw [over_get (by rw [over_len]; exact hi), List.getElem?_eq_getElem hi]
    have hx : ns[i] ∈ ns := List.getElem_mem hi
    have b := (shapeOk_mem h).mp hx
    have e : (overL ns)[(ns[i]).toNat]? = some (i : Int) := by
      rw [over_get (by omega)]
      have : (((ns[i]).toNat : Nat) : Int) = ns[i] := by omega
      rw [this, idxOf_of (shapeOk_row h).2 (List.getElem?_eq_getElem hi)]
    rw [idxOf_of (shapeOk_row (over_shape h)).2 e]
    congr 1
    omega
  · rw [List.getElem?_eq_none (by rw [over_len, over_len]; omega), List.getElem?_eq_none (by omega)]
def ovAt (s : List Int) (i : Nat) : List Int := (List.range s.length).map fun j : Nat => if s.idxOf (j : Int) < i then ((s.idxOf (j : Int) : Nat) : Int) else 0
theorem ovAt_len (s : List Int) (i : Nat) : (ovAt s i).length = s.length := by simp [ovAt]
theorem ovAt_zero (s : List Int) : ovAt s 0 = List.replicate s.length 0 := by
  unfold ovAt
  apply List.ext_getElem?
  intro j
  by_cases hj : j < s.length
  · simp [hj]
  · simp [hj]
theorem ovAt_full {s : List Int} (h : shapeOk s) : ovAt s s.length = overL s := by
  unfold ovAt overL
  refine List.map_congr_left fun j hj => ?_
  rw [if_pos (idxOf_lt ((shapeOk_mem h).mpr ⟨by omega, by have := List.mem_range.mp hj; omega⟩))]
theorem ovAt_step {s : List Int} (h : shapeOk s) {i : Nat} {x : Int} (hx : s[i]? = some x) : (ovAt s i).set x.toNat (i : Int) = ovAt s (i + 1) := by
  have b := (shapeOk_mem h).mp (List.mem_of_getElem? hx)
  have e := idxOf_of (shapeOk_row h).2 hx
  apply List.ext_getElem?
  intro j
  by_cases hj : j < s.length
  · by_cases ej : j = x.toNat
    · subst ej
      rw [List.getElem?_set_self (by rw [ovAt_len]; exact hj)]
      have : ((x.toNat : Nat) : Int) = x := by omega
      simp [ovAt, hj, this, e]
    · rw [List.getElem?_set_ne (Ne.symm ej)]
      have hjm : (j : Int) ∈ s := (shapeOk_mem h).mpr ⟨by omega, by omega⟩
      have ne : s.idxOf (j : Int) ≠ i := fun z => ej (by
        have := idxOf_at hjm
        rw [z, hx] at this
        have := Option.some.inj this
        omega)
      simp only [ovAt, List.getElem?_map, List.getElem?_range hj, Option.map_some]
      congr 1
      by_cases c : s.idxOf (j : Int) < i
      · rw [if_pos c, if_pos (by omega)]
      · rw [if_neg c, if_neg (by omega)]
  · rw [List.getElem?_eq_none (by rw [List.length_set, ovAt_len]; omega), List.getElem?_eq_none (by rw [ovAt_len]; omega)]
theorem rev_range (s : List Int) : (List.range s.length).map (fun k : Nat => s.getD (s.length - 1 - k) 0) = s.reverse := by
  apply List.ext_getElem?
  intro j
  by_cases hj : j < s.length
  · rw [List.getElem?_map, List.getElem?_range hj, List.getElem?_reverse hj, List.getElem?_eq_getElem (by omega)]
    simp [List.getD_eq_getElem?_getD, List.getElem?_eq_getElem (show s.length - 1 - j < s.length by omega)]
  · rw [List.getElem?_eq_none (by simp; omega), List.getElem?_eq_none (by simp; omega)]
theorem shape_iff (s : List Int) : (s.length < 31 ∧ ∀ j : Nat, j < s.length → (j : Int) ∈ s) ↔ shapeOk s := by
  constructor
  · rintro ⟨h1, h2⟩
    refine ⟨by omega, (perm_of_sub (rangeI_nodup _) (fun x hx => ?_) (by rw [rangeI_len]; exact Nat.le_refl _)).symm⟩
    have := mem_rangeI.mp hx
    have e : ((x.toNat : Nat) : Int) = x := by omega
    rw [← e]
    exact h2 _ (by omega)
  · intro h
    exact ⟨by have := h.1; omega, fun j hj => (shapeOk_mem h).mpr ⟨by omega, by omega⟩⟩
end Sh

set_option Elab.async false
set_option linter.all false
set_option maxRecDepth 100000
set_option maxHeartbeats 4000000
/-! M4: falls and wrong pairs: plain Lean. -/
namespace Sh
open PySem PySem.Spec PyProof.Rows L2
def inv : List Int → Nat
  | [] => 0
  | x :: r => (r.filter (· < x)).length + inv r
def fallsL (ns : List Int) : List Int := ((List.range (ns.length - 1)).filter fun k => decide (ns.getD (k + 1) 0 < ns.getD k 0)).map Int.ofNat
theorem inv_snoc : ∀ (l : List Int) (x : Int), inv (l ++ [x]) = inv l + (l.filter (fun y => decide (x < y))).length
  | [], x => by simp [inv]
  | a :: l, x => by
    have ih := inv_snoc l x
    simp only [List.cons_append, inv, List.filter_append, List.length_append, ih]
    by_cases c : x < a
    · rw [List.filter_cons_of_pos (by simpa using c), List.filter_cons_of_pos (by simpa using c)]
      simp; omega
    · rw [List.filter_cons_of_neg (by simpa using c), List.filter_cons_of_neg (by simpa using c)]
      simp; omega
theorem drop_get {ns : List Int} {i : Nat} (h : i < ns.length) : ns.drop i = ns.getD i 0 :: ns.drop (i + 1) := by
  rw [List.drop_eq_getElem_cons h, List.getD_eq_getElem?_getD, List.getElem?_eq_getElem h]
  rfl
theorem take_get {ns : List Int} {i : Nat} (h : i < ns.length) : ns.take (i + 1) = ns.take i ++ [ns.getD i 0] := by
  rw [List.getD_eq_getElem?_getD, List.getElem?_eq_getElem h, take_more (List.getElem?_eq_getElem h)]
  rfl
theorem inv_drop {ns : List Int} {i : Nat} (h : i < ns.length) : inv (ns.drop i) = ((ns.drop (i + 1)).filter (· < ns.getD i 0)).length + inv (ns.drop (i + 1)) := by
  rw [drop_get h]; rfl
theorem inv_take {ns : List Int} {i : Nat} (h : i < ns.length) : inv (ns.take (i + 1)) = inv (ns.take i) + ((ns.take i).filter (fun y => decide (ns.getD i 0 < y))).length := by
  rw [take_get h, inv_snoc]
theorem cut_from (xs : List V) (k : Nat) : cutV xs (some ((k : Int))) none = xs.drop k := by
  unfold cutV
  rw [HT.sIx_nat, HT.sIx_none]
  by_cases h : k ≤ xs.length
  · rw [Nat.min_eq_left h, List.take_of_length_le (by simp)]
  · rw [Nat.min_eq_right (by omega), List.drop_eq_nil_of_le (by omega : xs.length ≤ k)]
    simp
theorem insert_perm {s : List Int} {i : Nat} (p : s.Perm (rangeI i)) (j : Nat) : (s.take j ++ [(i : Int)] ++ s.drop j).Perm (rangeI (i + 1)) := by
  have h1 : (s.take j ++ [(i : Int)] ++ s.drop j).Perm ([(i : Int)] ++ s) := by
    conv => rhs; rw [← List.take_append_drop j s]
    rw [← List.append_assoc]
    exact List.Perm.append_right _ List.perm_append_comm
  refine h1.trans ?_
  have h2 : rangeI (i + 1) = rangeI i ++ [(i : Int)] := by
    unfold rangeI; rw [List.range_succ, List.map_append]; rfl
  rw [h2]
  exact (List.Perm.append_left _ p).trans List.perm_append_comm
end Sh

set_option Elab.async false
set_option linter.all false
set_option maxRecDepth 100000
set_option maxHeartbeats 4000000
/-! M5: wrong pairs of a shape backward and turned over: plain Lean. -/
namespace Sh
open PySem PySem.Spec PyProof.Rows L2
theorem split_len (x : Int) : ∀ l : List Int, x ∉ l → (l.filter (· < x)).length + (l.filter (fun y => decide (x < y))).length = l.length
  | [], _ => rfl
  | a :: l, h => by
    have h1 : x ≠ a := fun e => h (by simp [e])
    have ih := split_len x l (fun z => h (by simp [z]))
    by_cases c : a < x
    · rw [List.filter_cons_of_pos (by simpa using c), List.filter_cons_of_neg (by simp; omega)]
      simp; omega
    · rw [List.filter_cons_of_neg (by simpa using c), List.filter_cons_of_pos (by simp; omega)]
      simp; omega
theorem inv_reverse : ∀ l : List Int, l.Nodup → 2 * (inv l.reverse + inv l) = l.length * (l.length - 1)
  | [], _ => by simp [inv]
  | x :: l, h => by
    have hn := List.nodup_cons.mp h
    have ih := inv_reverse l hn.2
    have e := split_len x l hn.1
    have er : (l.reverse.filter (fun y => decide (x < y))).length = (l.filter (fun y => decide (x < y))).length := ((List.reverse_perm l).filter _).length_eq
    rw [List.reverse_cons, inv_snoc, er]
    simp only [inv, List.length_cons, Nat.add_sub_cancel]
    have e2 : (l.length + 1) * l.length = l.length * (l.length - 1) + 2 * l.length := by
      cases hl : l.length with
      | zero => rfl
      | succ n =>
        simp only [Nat.add_sub_cancel]
        generalize hm : (n + 1) * n = m
        have h3 : (n + 1 + 1) * (n + 1) = (n + 1) * n + 2 * (n + 1) := by
          rw [show n + 1 + 1 = n + 2 from rfl, Nat.mul_comm (n + 2) (n + 1), Nat.mul_add, Nat.mul_comm (n + 1) 2]
        omega
    rw [e2, ← ih]
    omega
theorem perm_sum {l m : List Nat} (p : l.Perm m) : l.sum = m.sum := by
  induction p with
  | nil => rfl
  | cons x _ ih => simp [ih]
  | swap x y l => simp; omega
  | trans _ _ h1 h2 => rw [h1, h2]
theorem fubini {α β : Type} (p : α → β → Bool) : ∀ (l : List α) (m : List β), (l.map fun x => m.countP (p x)).sum = (m.map fun y => l.countP (fun x => p x y)).sum
  | [], m => by
    induction m with
    | nil => rfl
    | cons a m ih => simp only [List.map_cons, List.sum_cons, ← ih]; rfl
  | a :: l, m => by
    have ih := fubini p l m
    simp only [List.map_cons, List.sum_cons, ih]
    clear ih
    induction m with
    | nil => rfl
    | cons b m ih =>
      simp only [List.countP_cons] at ih ⊢
      simp only [List.map_cons, List.sum_cons]
      omega
theorem count_below (p : Nat → Bool) (j : Nat) : ∀ n, j ≤ n → (List.range n).countP (fun i => decide (i < j) && p i) = (List.range j).countP p := by
  intro n
  induction n with
  | zero => intro h; have : j = 0 := by omega
            subst this; rfl
  | succ n ih =>
    intro h
    by_cases e : j ≤ n
    · rw [List.range_succ, List.countP_append, ih e, List.countP_cons_of_neg (by simp; omega)]; rfl
    · have : j = n + 1 := by omega
      subst this
      refine List.countP_congr fun i hi => ?_
      have := List.mem_range.mp hi
      simp [this]
theorem filter_take (ns : List Int) (x : Int) : ∀ m, m ≤ ns.length → ((ns.take m).filter (fun y => decide (x < y))).length = (List.range m).countP (fun i => decide (x < ns.getD i 0)) := by
  intro m
  induction m with
  | zero => intro _; rfl
  | succ m ih =>
    intro h
    rw [take_get (by omega), List.filter_append, List.length_append, ih (by omega), List.range_succ, List.countP_append]
    congr 1
    by_cases c : x < ns.getD m 0
    · rw [List.filter_cons_of_pos (by simpa using c), List.countP_cons_of_pos (by simpa using c)]; rfl
    · rw [List.filter_cons_of_neg (by simpa using c), List.countP_cons_of_neg (by simpa using c)]; rfl
theorem inv_sum (ns : List Int) : ∀ m, m ≤ ns.length → inv (ns.take m) = ((List.range m).map fun j => (List.range j).countP (fun i => decide (ns.getD j 0 < ns.getD i 0))).sum := by
  intro m
  induction m with
  | zero => intro _; rfl
  | succ m ih =>
    intro h
    rw [inv_take (by omega), ih (by omega), filter_take _ _ _ (by omega), List.range_succ, List.map_append, List.sum_append]
    simp
theorem inv_pairs (ns : List Int) : inv ns = ((List.range ns.length).map fun j => (List.range ns.length).countP (fun i => decide (i < j) && decide (ns.getD j 0 < ns.getD i 0))).sum := by
  have h := inv_sum ns ns.length (Nat.le_refl _)
  rw [List.take_length] at h
  rw [h]
  congr 1
  refine List.map_congr_left fun j hj => ?_
  have := List.mem_range.mp hj
  rw [count_below _ j _ (by omega)]
theorem getD_at {s : List Int} {i : Nat} (h : i < s.length) : s[i]? = some (s.getD i 0) := by
  rw [List.getD_eq_getElem?_getD, List.getElem?_eq_getElem h]; rfl
theorem map_getD (s : List Int) : (List.range s.length).map (fun i => s.getD i 0) = s := by
  apply List.ext_getElem?
  intro i
  by_cases h : i < s.length
  · rw [List.getElem?_map, List.getElem?_range h, getD_at h]; rfl
  · rw [List.getElem?_eq_none (by simp; omega), List.getElem?_eq_none (by omega)]
theorem shape_perm_nat {s : List Int} (h : shapeOk s) : ((List.range s.length).map (fun i => (s.getD i 0).toNat)).Perm (List.range s.length) := by
  have h1 : (s.map Int.toNat).Perm ((rangeI s.length).map Int.toNat) := h.2.map _
  have h2 : (rangeI s.length).map Int.toNat = List.range s.length := by
    unfold rangeI
    rw [List.map_map]
    conv => rhs; rw [← List.map_id (List.range s.length)]
    exact List.map_congr_left fun i _ => by simp
  rw [h2] at h1
  have h3 : (List.range s.length).map (fun i => (s.getD i 0).toNat) = s.map Int.toNat := by
    conv => rhs; rw [← map_getD s]
    rw [List.map_map]; rfl
  rw [h3]; exact h1
theorem inv_over {s : List Int} (h : shapeOk s) : inv (overL s) = inv s := by
  rw [inv_pairs (overL s), inv_pairs s, over_len]
  have P := shape_perm_nat h
  have at' : ∀ i, i < s.length → (overL s).getD (s.getD i 0).toNat 0 = (i : Int) := fun i hi => by
    have b := (shapeOk_mem h).mp (List.mem_of_getElem? (getD_at hi))
    have e : (((s.getD i 0).toNat : Nat) : Int) = s.getD i 0 := by omega
    rw [List.getD_eq_getElem?_getD, over_get (by omega), e, idxOf_of (shapeOk_row h).2 (getD_at hi)]
    rfl
  have pos : ∀ i, i < s.length → 0 ≤ s.getD i 0 := fun i hi => ((shapeOk_mem h).mp (List.mem_of_getElem? (getD_at hi))).1
  rw [perm_sum (P.map _).symm, List.map_map]
  rw [fubini (fun j i => decide (i < j) && decide (s.getD j 0 < s.getD i 0)) (List.range s.length) (List.range s.length)]
  congr 1
  refine List.map_congr_left fun i hi => ?_
  have hi' := List.mem_range.mp hi
  simp only [Function.comp]
  rw [← P.countP_eq, List.countP_map]
  refine List.countP_congr fun j hj => ?_
  have hj' := List.mem_range.mp hj
  simp only [Function.comp, at' i hi', at' j hj']
  have p1 := pos i hi'
  have p2 := pos j hj'
  simp only [Bool.and_eq_true, decide_eq_true_eq]
  omega
theorem eraseIdx_map {α β : Type} (f : α → β) : ∀ (l : List α) (i : Nat), (l.map f).eraseIdx i = (l.eraseIdx i).map f
  | [], _ => rfl
  | _ :: _, 0 => rfl
  | a :: l, i + 1 => by simp [eraseIdx_map f l i]
end Sh

set_option Elab.async false
set_option linter.all false
set_option maxRecDepth 100000
set_option maxHeartbeats 4000000
/-! M6: rows parted and exchanged: what the text computes. -/
namespace Sh
open PySem PySem.Spec PyProof.Rows L2
def pstep (b : Int → Bool) (s : List (List Int) × List Int) (x : Int) : List (List Int) × List Int := if b x = true then (s.1 ++ [s.2 ++ [x]], []) else (s.1, s.2 ++ [x])
def pfold (b : Int → Bool) (l : List Int) : List (List Int) × List Int := l.foldl (pstep b) ([], [])
def sideOf (row : List Int) (number : Int) : Int → Bool := fun x => decide (decide (x < number) = decide (row.getLastD 0 < number))
def partedL (row : List Int) (number : Int) : List (List Int) := (pfold (sideOf row number) row).1
def rotR (xs : List Int) : List Int := xs.drop (xs.length - 1) ++ xs.take (xs.length - 1)
def rotL (xs : List Int) : List Int := xs.drop 1 ++ xs.take 1
def exRow (row : List Int) (number : Int) : List Int := if 0 < row.length then ((partedL row number).map rotR).flatten else []
def exStep (row : List Int) (number : Int) : List Int := exRow row number ++ [number]
def exL (shape : List Int) : List Int := shape.foldl exStep []
theorem pfold_snoc (b : Int → Bool) (l : List Int) (x : Int) : pfold b (l ++ [x]) = pstep b (pfold b l) x := by simp [pfold, List.foldl_append]
theorem pfold_flat (b : Int → Bool) (l : List Int) : (pfold b l).1.flatten ++ (pfold b l).2 = l := by
  suffices h : ∀ (l : List Int) (s : List (List Int) × List Int), (l.foldl (pstep b) s).1.flatten ++ (l.foldl (pstep b) s).2 = s.1.flatten ++ s.2 ++ l by
    simpa [pfold] using h l ([], [])
  intro l
  induction l with
  | nil => intro s; simp
  | cons x l ih =>
    intro s
    rw [List.foldl_cons, ih]
    unfold pstep
    split <;> simp
theorem flatten_len_le {α : Type} (x : List α) : ∀ xss : List (List α), x ∈ xss → x.length ≤ xss.flatten.length
  | a :: r, h => by
    rw [List.flatten_cons, List.length_append]
    rcases List.mem_cons.mp h with e | e
    · subst e; omega
    · have := flatten_len_le x r e; omega
theorem parted_flat_len (row : List Int) (number : Int) : (partedL row number).flatten.length ≤ row.length := by
  have := congrArg List.length (pfold_flat (sideOf row number) row)
  rw [List.length_append] at this
  unfold partedL
  omega
theorem rotR_len (xs : List Int) : (rotR xs).length = xs.length := by unfold rotR; rw [List.length_append, List.length_drop, List.length_take]; omega
theorem rotL_len (xs : List Int) : (rotL xs).length = xs.length := by unfold rotL; rw [List.length_append, List.length_drop, List.length_take]; omega
theorem flat_map_len (f : List Int → List Int) (hf : ∀ xs, (f xs).length = xs.length) : ∀ xss : List (List Int), ((xss.map f).flatten).length = xss.flatten.length
  | [] => rfl
  | a :: r => by simp only [List.map_cons, List.flatten_cons, List.length_append, hf, flat_map_len f hf r]
theorem exRow_len (row : List Int) (number : Int) : (exRow row number).length ≤ row.length := by
  unfold exRow
  split
  · rw [flat_map_len _ rotR_len]; exact parted_flat_len row number
  · simp
theorem exL_len (l : List Int) : (exL l).length ≤ l.length := by
  suffices h : ∀ (l : List Int) (r : List Int), (l.foldl exStep r).length ≤ r.length + l.length by simpa [exL] using h l []
  intro l
  induction l with
  | nil => intro r; simp
  | cons x l ih =>
    intro r
    have h1 := ih (exStep r x)
    have h2 := exRow_len r x
    have h3 : (exStep r x).length = (exRow r x).length + 1 := by simp [exStep]
    rw [List.foldl_cons, List.length_cons]
    omega
theorem exL_snoc (l : List Int) (x : Int) : exL (l ++ [x]) = exStep (exL l) x := by simp [exL, List.foldl_append]
/-! ### cuts -/
theorem cut_last (xs : List V) : cutV xs (some (-1)) none = xs.drop (xs.length - 1) := by
  unfold cutV
  have e : HT.sIx xs.length 0 (some (-1)) = xs.length - 1 := by
    unfold HT.sIx
    simp only []
    split <;> omega
  rw [e, HT.sIx_none, List.take_of_length_le (by simp)]
theorem cut_init (xs : List V) : cutV xs none (some (-1)) = xs.take (xs.length - 1) := by
  unfold cutV
  have e : HT.sIx xs.length xs.length (some (-1)) = xs.length - 1 := by
    unfold HT.sIx
    simp only []
    split <;> omega
  rw [e, HT.sIx_none, List.drop_zero, Nat.sub_zero]
theorem cut_to (xs : List V) (k : Nat) : cutV xs none (some (k : Int)) = xs.take k := by
  unfold cutV
  rw [HT.sIx_nat, HT.sIx_none, List.drop_zero, Nat.sub_zero]
  by_cases h : k ≤ xs.length
  · rw [Nat.min_eq_left h]
  · rw [Nat.min_eq_right (by omega), List.take_of_length_le (Nat.le_refl _), List.take_of_length_le (by omega)]
theorem cut_mid (xs : List V) (i j : Nat) (hj : j ≤ xs.length) : cutV xs (some (i : Int)) (some (j : Int)) = (xs.take j).drop i := by
  unfold cutV
  rw [HT.sIx_nat, HT.sIx_nat, Nat.min_eq_left hj, List.drop_take]
  by_cases h : i ≤ xs.length
  · rw [Nat.min_eq_left h]
  · rw [Nat.min_eq_right (by omega)]
    rw [List.drop_eq_nil_of_le (Nat.le_refl _), List.drop_eq_nil_of_le (by omega : xs.length ≤ i)]
    simp
/-! ### a list of lists, each of its own -/
structure Own2 (H0 H : Hp) (qs : List Addr) (xss : List (List Int)) : Prop where
  at_ : Paired (fun q xs => H q = some (.lst (xs.map V.int))) qs xss
  nd : qs.Nodup
  new : ∀ q ∈ qs, H0 q = none
theorem paired_snoc {α β : Type} {R : α → β → Prop} : ∀ {xs : List α} {ys : List β} {x : α} {y : β}, Paired R xs ys → R x y → Paired R (xs ++ [x]) (ys ++ [y])
  | _, _, _, _, .nil, r => .cons r .nil
  | _, _, _, _, .cons a t, r => .cons a (paired_snoc t r)
theorem paired_imp {α β : Type} {R S : α → β → Prop} : ∀ {xs : List α} {ys : List β}, Paired R xs ys → (∀ x y, x ∈ xs → R x y → S x y) → Paired S xs ys
  | _, _, .nil, _ => .nil
  | _, _, .cons a t, f => .cons (f _ _ (by simp) a) (paired_imp t fun x y hx r => f x y (by simp [hx]) r)
theorem paired_get {α β : Type} {R : α → β → Prop} : ∀ {xs : List α} {ys : List β} {i : Nat} {x : α}, Paired R xs ys → xs[i]? = some x → ∃ y, ys[i]? = some y ∧ R x y
  | _, _, _, _, .nil, h => by simp at h
  | _, _, 0, _, .cons r _, h => by simp at h; subst h; exact ⟨_, rfl, r⟩
  | _, _, i + 1, x, .cons _ t, h => by
    obtain ⟨y, h1, h2⟩ := paired_get (i := i) (x := x) t (by simpa using h)
    exact ⟨y, by simpa using h1, h2⟩
theorem paired_len {α β : Type} {R : α → β → Prop} : ∀ {xs : List α} {ys : List β}, Paired R xs ys → xs.length = ys.length
  | _, _, .nil => rfl
  | _, _, .cons _ t => by simp [paired_len t]
theorem paired_at {α β : Type} {R : α → β → Prop} : ∀ {xs : List α} {ys : List β} {x : α}, Paired R xs ys → x ∈ xs → ∃ y, R x y
  | _, _, _, .nil, h => by simp at h
  | _, _, x, .cons r t, h => by
    rcases List.mem_cons.mp h with e | e
    · subst e; exact ⟨_, r⟩
    · exact paired_at t e
theorem Own2.mut {H0 H : Hp} {qs : List Addr} {xss : List (List Int)} {r : Addr} {o : HO} (h : Own2 H0 H qs xss) (hr : r ∉ qs) : Own2 H0 (upd H r o) qs xss :=
  ⟨paired_imp h.at_ fun q xs hq e => by rw [upd_ne (fun z : q = r => hr (z ▸ hq))]; exact e, h.nd, h.new⟩
theorem Own2.same {H0 H H' : Hp} {qs : List Addr} {xss : List (List Int)} (h : Own2 H0 H qs xss) (s : Same H H') : Own2 H0 H' qs xss :=
  ⟨paired_imp h.at_ fun q xs hq e => s _ _ e, h.nd, h.new⟩
theorem Own2.there {H0 H : Hp} {qs : List Addr} {xss : List (List Int)} (h : Own2 H0 H qs xss) {r : Addr} (hr : H r = none) : r ∉ qs := fun z => by
  obtain ⟨y, e⟩ := paired_at h.at_ z
  rw [hr] at e; cases e
theorem Own2.snoc {H0 H : Hp} {qs : List Addr} {xss : List (List Int)} {r : Addr} {xs : List Int} (h : Own2 H0 H qs xss) (hr : r ∉ qs) (h0 : H0 r = none) (e : H r = some (.lst (xs.map V.int))) : Own2 H0 H (qs ++ [r]) (xss ++ [xs]) :=
  ⟨paired_snoc h.at_ e, by
    rw [List.nodup_append]
    refine ⟨h.nd, by simp, fun a ha b hb z => hr ?_⟩
    have hb' : b = r := by simpa using hb
    rw [← hb', ← z]; exact ha, fun q hq => by
    rcases List.mem_append.mp hq with z | z
    · exact h.new q z
    · have hz : q = r := by simpa using z
      rw [hz]; exact h0⟩
theorem snoc_ind {α : Type} {P : List α → Prop} (h0 : P []) (h : ∀ l x, P l → P (l ++ [x])) : ∀ l, P l := by
  intro l
  rw [← List.reverse_reverse l]
  induction l.reverse with
  | nil => exact h0
  | cons a r ih => rw [List.reverse_cons]; exact h _ _ ih
theorem pfold_cur_len (b : Int → Bool) (l : List Int) : (pfold b l).2.length ≤ l.length := by
  have := congrArg List.length (pfold_flat b l)
  rw [List.length_append] at this; omega
theorem pfold_ne (b : Int → Bool) : ∀ l : List Int, ∀ p ∈ (pfold b l).1, p ≠ [] := by
  refine snoc_ind ?_ ?_
  · intro p hp; simp [pfold] at hp
  · intro l x ih p hp
    rw [pfold_snoc] at hp
    unfold pstep at hp
    split at hp
    · rcases List.mem_append.mp hp with z | z
      · exact ih p z
      · have hz : p = (pfold b l).2 ++ [x] := by simpa using z
        subst hz; simp
    · exact ih p hp
theorem pfold_count (b : Int → Bool) (l : List Int) : (pfold b l).1.length ≤ l.length := by
  have h : ∀ xss : List (List Int), (∀ p ∈ xss, p ≠ []) → xss.length ≤ xss.flatten.length := by
    intro xss
    induction xss with
    | nil => intro _; simp
    | cons a r ih =>
      intro hh
      have h1 := ih fun p hp => hh p (by simp [hp])
      have h2 : 0 < a.length := by
        have := hh a (by simp)
        exact List.length_pos_iff.mpr this
      simp only [List.length_cons, List.flatten_cons, List.length_append]; omega
  have h1 := h _ (pfold_ne b l)
  have := congrArg List.length (pfold_flat b l)
  rw [List.length_append] at this; omega
theorem drop_of_append {α : Type} {a b l : List α} (h : a ++ b = l) : l.drop a.length = b := by rw [← h, List.drop_left]
end Sh

set_option Elab.async false
set_option linter.all false
set_option maxRecDepth 100000
set_option maxHeartbeats 4000000
/-! M10: all shapes of a size: plain Lean. -/
namespace Sh
open PySem PySem.Spec PyProof.Rows L2
def insAt (k : Nat) (row : List Int) (p : Nat) : List Int := row.take p ++ [(k : Int)] ++ row.drop p
def insAll (k : Nat) (row : List Int) : List (List Int) := (List.range (k + 1)).map (insAt k row)
def allU : Nat → List (List Int)
  | 0 => [[]]
  | k + 1 => ((allU k).map (insAll k)).flatten
theorem allU_len : ∀ k, k ≤ 6 → (allU k).length ≤ 720 := by decide +kernel
theorem insAt_len (k : Nat) (row : List Int) (p : Nat) : (insAt k row p).length = row.length + 1 := by
  unfold insAt
  rw [List.length_append, List.length_append, List.length_take, List.length_drop, List.length_singleton]; omega
theorem allU_mem : ∀ (k : Nat) (x : List Int), x ∈ allU k → x.length = k
  | 0, x, h => by have : x = [] := by simpa [allU] using h
                  subst this; rfl
  | k + 1, x, h => by
    rw [allU] at h
    obtain ⟨l, hl, hx⟩ := List.mem_flatten.mp h
    obtain ⟨r, hr, rfl⟩ := List.mem_map.mp hl
    obtain ⟨p, hp, rfl⟩ := List.mem_map.mp hx
    rw [insAt_len, allU_mem k r hr]
theorem flat_prefix_len {α β : Type} (f : α → List β) (l : List α) (i : Nat) : (((l.take i).map f).flatten).length ≤ ((l.map f).flatten).length := by
  conv => rhs; rw [← List.take_append_drop i l]
  rw [List.map_append, List.flatten_append, List.length_append]; omega
/-! ### lists of lists, by address and ints -/
def LLs (H : Hp) (bs : List (Addr × List Int)) : Prop := ∀ b ∈ bs, H b.1 = some (.lst (b.2.map V.int))
theorem LLs.same {H H' : Hp} {bs : List (Addr × List Int)} (h : LLs H bs) (s : Same H H') : LLs H' bs := fun b hb => s _ _ (h b hb)
theorem LLs.mut {H : Hp} {bs : List (Addr × List Int)} {r : Addr} {o : HO} (h : LLs H bs) (hr : ∀ b ∈ bs, b.1 ≠ r) : LLs (upd H r o) bs := fun b hb => by rw [upd_ne (hr b hb)]; exact h b hb
theorem LLs.snoc {H : Hp} {bs : List (Addr × List Int)} {r : Addr} {xs : List Int} (h : LLs H bs) (e : H r = some (.lst (xs.map V.int))) : LLs H (bs ++ [(r, xs)]) := fun b hb => by
  rcases List.mem_append.mp hb with z | z
  · exact h b z
  · have e2 : b = (r, xs) := by simpa using z
    subst e2; exact e
theorem LLs.ne {H : Hp} {bs : List (Addr × List Int)} {r : Addr} (h : LLs H bs) (hr : H r = none) : ∀ b ∈ bs, b.1 ≠ r := fun b hb z => by
  have := h b hb
  rw [z, hr] at this; cases this
theorem LLs.dp {K : PySem.W.Frag} {H : Hp} {bs : List (Addr × List Int)} (h : LLs H bs) : DpAll K H (bs.map fun b => V.ref b.1) ((bs.map Prod.snd).map dInts) := by
  induction bs with
  | nil => exact .nil
  | cons b bs ih => exact .cons (dp_ints (SqL.of (h b (by simp)))) (ih fun c hc => h c (by simp [hc]))
theorem dp_LLs {K : PySem.W.Frag} {H : Hp} {a : Addr} {bs : List (Addr × List Int)} (h : LLs H bs) (hs : SqL K H a (bs.map fun b => V.ref b.1)) : Dp K H (.ref a) (dLL (bs.map Prod.snd)) := .lst hs h.dp
theorem snd_get {bs : List (Addr × List Int)} {xss : List (List Int)} (e : bs.map Prod.snd = xss) {i : Nat} {b : Addr × List Int} (h : bs[i]? = some b) : xss[i]? = some b.2 := by
  rw [← e, List.getElem?_map, h]; rfl
end Sh

set_option Elab.async false
set_option linter.all false
set_option maxRecDepth 100000
set_option maxHeartbeats 4000000
/-! M12: places at which an order stands: plain Lean. -/
namespace Sh
open PySem PySem.Spec PyProof.Rows L2
abbrev nV : Nat → V := fun i => V.int (i : Int)
def sel (row : List Int) (t : List Nat) : List Int := t.map fun i => row.getD i 0
def fitsB (row order : List Int) (t : List Nat) : Bool := decide (rk (sel row t) = rk (order.take t.length))
def startN (t : List Nat) : Nat := if t = [] then 0 else t.getLastD 0 + 1
def growN (n : Nat) (t : List Nat) : List (List Nat) := (List.range (n - startN t)).map fun i => t ++ [startN t + i]
def grownL (row order : List Int) (t : List Nat) : List (List Nat) := (growN row.length t).filter (fitsB row order)
def tupsN (n : Nat) : Nat → List (List Nat)
  | 0 => [[]]
  | s + 1 => ((tupsN n s).map (growN n)).flatten
def allP (row order : List Int) : Nat → List (List Nat)
  | 0 => [[]]
  | s + 1 => ((allP row order s).map (grownL row order)).flatten
def placesL (row order : List Int) : List (List Nat) := (tupsN row.length order.length).filter (fitsB row order)
/-! ### ranks tell how numbers stand to one another, and nothing else -/
theorem lessN_le {ns : List Int} {x y : Int} (h : x ≤ y) : lessN ns x ≤ lessN ns y := by
  unfold lessN
  have := filter_len_le (p := fun z => decide (z < y)) (q := fun z => decide (z < x)) (fun z hz => by simp at hz ⊢; omega) ns
  omega
theorem lessN_iff {ns : List Int} {x y : Int} (hx : x ∈ ns) : lessN ns x < lessN ns y ↔ x < y := by
  constructor
  · intro h
    by_cases c : x < y
    · exact c
    · have := lessN_le (ns := ns) (show y ≤ x by omega); omega
  · exact lessN_lt hx
theorem rk_get {a : List Int} {i : Nat} (h : i < a.length) : (rk a).getD i 0 = lessN a (a.getD i 0) := by
  rw [List.getD_eq_getElem?_getD, rk, List.getElem?_map, getD_at h]; rfl
theorem getD_mem {a : List Int} {i : Nat} (h : i < a.length) : a.getD i 0 ∈ a := List.mem_of_getElem? (getD_at h)
def iso (a b : List Int) : Prop := a.length = b.length ∧ ∀ i j, i < a.length → j < a.length → (a.getD i 0 < a.getD j 0 ↔ b.getD i 0 < b.getD j 0)
theorem lessN_count (a : List Int) (x : Int) : lessN a x = (((List.range a.length).countP fun i => decide (a.getD i 0 < x) : Nat) : Int) := by
  unfold lessN
  conv => lhs; rw [← map_getD a]
  rw [← List.countP_eq_length_filter, List.countP_map]
  rfl
theorem list_ext_getD {a b : List Int} (hl : a.length = b.length) (h : ∀ i, i < a.length → a.getD i 0 = b.getD i 0) : a = b := by
  rw [← map_getD a, ← map_getD b, ← hl]
  exact List.map_congr_left fun i hi => h i (List.mem_range.mp hi)
theorem rk_iso {a b : List Int} : rk a = rk b ↔ iso a b := by
  constructor
  · intro e
    have hl : a.length = b.length := by have := congrArg List.length e; rwa [rk_len, rk_len] at this
    refine ⟨hl, fun i j hi hj => ?_⟩
    rw [← lessN_iff (getD_mem hi), ← lessN_iff (getD_mem (hl ▸ hi)), ← rk_get hi, ← rk_get hj, ← rk_get (hl ▸ hi), ← rk_get (hl ▸ hj), e]
  · intro h
    refine list_ext_getD (by rw [rk_len, rk_len]; exact h.1) fun i hi => ?_
    rw [rk_len] at hi
    rw [rk_get hi, rk_get (h.1 ▸ hi), lessN_count, lessN_count, ← h.1]
    congr 1
    refine List.countP_congr fun j hj => ?_
    have := h.2 j i (List.mem_range.mp hj) hi
    simp only [decide_eq_true_eq]
    exact this
theorem getD_append_left {α : Type} [Inhabited α] {a b : List Int} {i : Nat} (h : i < a.length) : (a ++ b).getD i 0 = a.getD i 0 := by
  simp only [List.getD_eq_getElem?_getD]
  rw [List.getElem?_append_left h]
theorem getD_take {a : List Int} {n i : Nat} (h : i < n) : (a.take n).getD i 0 = a.getD i 0 := by
  simp only [List.getD_eq_getElem?_getD]
  rw [List.getElem?_take_of_lt h]
theorem fits_pre {row order : List Int} {t : List Nat} {p : Nat} (ht : t.length < order.length) (h : fitsB row order (t ++ [p]) = true) : fitsB row order t = true := by
  have h1 := rk_iso.mp (of_decide_eq_true h)
  refine decide_eq_true (rk_iso.mpr ⟨by simp [sel]; omega, fun i j hi hj => ?_⟩)
  have l1 : (sel row t).length = t.length := by simp [sel]
  have l2 : (sel row (t ++ [p])).length = t.length + 1 := by simp [sel]
  have es : sel row (t ++ [p]) = sel row t ++ [row.getD p 0] := by simp [sel]
  have := h1.2 i j (by omega) (by omega)
  rw [es, getD_append_left (α := Nat) hi, getD_append_left (α := Nat) hj, getD_take (by simp; omega), getD_take (by simp; omega)] at this
  rw [getD_take (by omega), getD_take (by omega)]
  exact this
theorem fits_nil (row order : List Int) : fitsB row order [] = true := by
  unfold fitsB sel
  simp
theorem growN_len {n : Nat} {t x : List Nat} (h : x ∈ growN n t) : ∃ p, x = t ++ [p] ∧ startN t ≤ p ∧ p < n := by
  obtain ⟨i, hi, rfl⟩ := List.mem_map.mp h
  have := List.mem_range.mp hi
  exact ⟨_, rfl, by omega, by omega⟩
theorem tupsN_mem (n : Nat) : ∀ (s : Nat) (t : List Nat), t ∈ tupsN n s → t.length = s ∧ (∀ i ∈ t, i < n)
  | 0, t, h => by
    have : t = [] := by simpa [tupsN] using h
    subst this; exact ⟨rfl, fun i hi => by simp at hi⟩
  | s + 1, t, h => by
    obtain ⟨l, hl, ht⟩ := List.mem_flatten.mp h
    obtain ⟨r, hr, rfl⟩ := List.mem_map.mp hl
    obtain ⟨p, rfl, _, hp⟩ := growN_len ht
    obtain ⟨h1, h2⟩ := tupsN_mem n s r hr
    refine ⟨by simp [h1], fun i hi => ?_⟩
    rcases List.mem_append.mp hi with z | z
    · exact h2 i z
    · have : i = p := by simpa using z
      omega
theorem filter_flat {α β : Type} (f : α → List β) (p : β → Bool) (g : α → Bool) : ∀ l : List α, (∀ x ∈ l, ∀ y ∈ f x, p y = true → g x = true) → ((l.map f).flatten).filter p = (((l.filter g).map fun x => (f x).filter p)).flatten
  | [], _ => rfl
  | x :: l, h => by
    have ih := filter_flat f p g l fun y hy => h y (by simp [hy])
    rw [List.map_cons, List.flatten_cons, List.filter_append, ih]
    by_cases c : g x = true
    · rw [List.filter_cons_of_pos c, List.map_cons, List.flatten_cons]
    · rw [List.filter_cons_of_neg c]
      have : (f x).filter p = [] := List.filter_eq_nil_iff.mpr fun y hy hp => c (h x (by simp) y hy hp)
      rw [this, List.nil_append]
theorem allP_eq (row order : List Int) : ∀ s, s ≤ order.length → allP row order s = (tupsN row.length s).filter (fitsB row order)
  | 0, _ => by
    show [[]] = List.filter (fitsB row order) [[]]
    rw [List.filter_cons_of_pos (fits_nil row order)]
    rfl
  | s + 1, h => by
    have ih := allP_eq row order s (by omega)
    rw [allP, ih, tupsN, filter_flat (growN row.length) (fitsB row order) (fitsB row order)]
    · rfl
    · intro t ht y hy hp
      obtain ⟨p, rfl, _, _⟩ := growN_len hy
      exact fits_pre (by rw [(tupsN_mem _ _ _ ht).1]; omega) hp
theorem tupsN_few : ∀ n, n ≤ 12 → ∀ s, s ≤ 4 → (tupsN n s).length ≤ 1000 := by decide +kernel
theorem fitsB_shape {row order : List Int} (h : shapeOk order) {t : List Nat} (ht : t.length = order.length) : fitsB row order t = decide (rk (sel row t) = order) := by
  unfold fitsB
  rw [ht, List.take_length, rk_self h]
theorem placesL_len {row order : List Int} (h1 : row.length ≤ 12) (h2 : order.length ≤ 4) : (placesL row order).length ≤ 1000 := by
  have h3 := List.length_filter_le (fitsB row order) (tupsN row.length order.length)
  have h4 := tupsN_few _ h1 _ h2
  unfold placesL; omega
theorem atI_nV {t : List Nat} {i : Nat} (h : i < t.length) : atI (t.map nV) (i : Int) = some (nV (t.getD i 0)) := by
  refine atI_nat ?_
  rw [List.getElem?_map, List.getD_eq_getElem?_getD, List.getElem?_eq_getElem h]; rfl
theorem atI_lastN {t : List Nat} (h : t ≠ []) : atI (t.map nV) (-1) = some (nV (t.getLastD 0)) := by
  obtain ⟨r, z, rfl⟩ : ∃ r z, t = r ++ [z] := ⟨t.dropLast, t.getLast h, (List.dropLast_concat_getLast _).symm⟩
  rw [List.map_append, List.getLastD_concat]
  exact atI_last _ _
theorem last_mem {t : List Nat} (h : t ≠ []) : t.getLastD 0 ∈ t := by
  obtain ⟨r, z, rfl⟩ : ∃ r z, t = r ++ [z] := ⟨t.dropLast, t.getLast h, (List.dropLast_concat_getLast _).symm⟩
  rw [List.getLastD_concat]; simp
theorem nV_ints (t : List Nat) : t.map nV = (t.map fun i : Nat => (i : Int)).map V.int := by rw [List.map_map]; rfl
/-! ### tuples of places as data -/
theorem isD_nat : IsD (fun i : Nat => PyData.int (i : Int)) 1 := ⟨fun x y => by simp [PyData.eqv, Bool.beq_eq_decide_eq, Int.ofNat_inj], fun x => by simp [PyData.canLay0], fun x => by simp [PyData.depth]⟩
abbrev dTupN : List Nat → PyData := fun t => .tuple (t.map fun i : Nat => .int (i : Int))
abbrev dLTN : List (List Nat) → PyData := fun ts => .list (ts.map dTupN)
theorem isD_tupN : IsD dTupN 2 := isD_tup isD_nat
theorem isD_LTN : IsD dLTN 3 := isD_list isD_tupN
section
variable {K : PySem.W.Frag} {H : Hp}
theorem dpAll_nat : ∀ t : List Nat, DpAll K H (t.map nV) (t.map fun i : Nat => .int (i : Int))
  | [] => .nil
  | n :: ns => .cons (.int n) (dpAll_nat ns)
theorem dp_tupN {a : Addr} {t : List Nat} (h : SqT K H a (t.map nV)) : Dp K H (.ref a) (dTupN t) := .tup h (dpAll_nat t)
theorem dp_LTN {a : Addr} {bs : List (Addr × List Nat)} (h : ∀ b ∈ bs, H b.1 = some (.tup (b.2.map nV))) (hs : SqL K H a (bs.map fun b => V.ref b.1)) : Dp K H (.ref a) (dLTN (bs.map Prod.snd)) := by
  refine .lst hs ?_
  clear hs
  induction bs with
  | nil => exact .nil
  | cons b bs ih => exact .cons (dp_tupN (SqT.of (h b (by simp)))) (ih fun c hc => h c (by simp [hc]))
end
/-! ### the first places, deep first -/
def dfs (row order : List Int) : Nat → List Nat → Option (List Nat)
  | 0, _ => none
  | d + 1, t => if t.length = order.length then some t else (grownL row order t).findSome? (dfs row order d)
def tupsF (n : Nat) : Nat → List Nat → List (List Nat)
  | 0, t => [t]
  | s + 1, t => ((growN n t).map (tupsF n s)).flatten
theorem flatten_map_map {α β γ : Type} (f : α → List β) (g : β → List γ) (l : List α) : (((l.map f).flatten).map g).flatten = (l.map fun x => ((f x).map g).flatten).flatten := by
  induction l with
  | nil => rfl
  | cons a l ih => simp only [List.map_cons, List.flatten_cons, List.map_append, List.flatten_append, ih]
theorem flat_single {α : Type} : ∀ l : List α, (l.map fun x => [x]).flatten = l
  | [] => rfl
  | a :: l => by rw [List.map_cons, List.flatten_cons, flat_single l]; rfl
theorem tupsF_succ (n : Nat) : ∀ (s : Nat) (t : List Nat), tupsF n (s + 1) t = ((tupsF n s t).map (growN n)).flatten
  | 0, t => by
    show ((growN n t).map fun x => [x]).flatten = (([t]).map (growN n)).flatten
    rw [flat_single]; simp
  | s + 1, t => by
    rw [tupsF, show tupsF n (s + 1) t = ((growN n t).map (tupsF n s)).flatten from rfl, flatten_map_map]
    congr 1
    exact List.map_congr_left fun x _ => tupsF_succ n s x
theorem tupsN_F (n : Nat) : ∀ s, tupsN n s = tupsF n s []
  | 0 => rfl
  | s + 1 => by rw [tupsF_succ, ← tupsN_F n s, tupsN]
theorem head_flat {α β : Type} (f : α → List β) : ∀ l : List α, ((l.map f).flatten).head? = l.findSome? fun x => (f x).head?
  | [] => rfl
  | x :: l => by
    rw [List.map_cons, List.flatten_cons, List.findSome?_cons, List.head?_append, head_flat f l]
    cases (f x).head? <;> rfl
theorem findSome_congr {α β : Type} {f g : α → Option β} : ∀ {l : List α}, (∀ x ∈ l, f x = g x) → l.findSome? f = l.findSome? g
  | [], _ => rfl
  | x :: l, h => by
    rw [List.findSome?_cons, List.findSome?_cons, h x (by simp), findSome_congr fun y hy => h y (by simp [hy])]
theorem tupsF_pre {row order : List Int} : ∀ (s : Nat) (t y : List Nat), t.length + s ≤ order.length → y ∈ tupsF row.length s t → fitsB row order y = true → fitsB row order t = true
  | 0, t, y, _, hy, h => by
    have : y = t := by simpa [tupsF] using hy
    rw [← this]; exact h
  | s + 1, t, y, hl, hy, h => by
    obtain ⟨l, hl', hy'⟩ := List.mem_flatten.mp hy
    obtain ⟨r, hr, rfl⟩ := List.mem_map.mp hl'
    obtain ⟨p, rfl, _, _⟩ := growN_len hr
    exact fits_pre (by omega) (tupsF_pre s _ y (by simp; omega) hy' h)
theorem dfs_eq (row order : List Int) : ∀ (s d : Nat) (t : List Nat), t.length + s = order.length → s < d → fitsB row order t = true → dfs row order d t = ((tupsF row.length s t).filter (fitsB row order)).head?
  | 0, d + 1, t, hl, _, hf => by
    rw [dfs, if_pos (by omega), tupsF, List.filter_cons_of_pos hf]; rfl
  | s + 1, d + 1, t, hl, hd, hf => by
    rw [dfs, if_neg (by omega), tupsF, filter_flat (tupsF row.length s) (fitsB row order) (fitsB row order) _ (fun x hx y hy hp => by
      obtain ⟨p, rfl, _, _⟩ := growN_len hx
      exact tupsF_pre s _ y (by simp; omega) hy hp), head_flat]
    refine findSome_congr fun x hx => ?_
    have hx' := List.mem_filter.mp hx
    obtain ⟨p, rfl, _, _⟩ := growN_len hx'.1
    exact dfs_eq row order s d _ (by simp; omega) (by omega) hx'.2
theorem dfs_first {row order : List Int} {d : Nat} (h : order.length < d) : dfs row order d [] = (placesL row order).head? := by
  rw [dfs_eq row order order.length d [] (by simp) h (fits_nil row order), ← tupsN_F]; rfl
theorem findSome_at {α β : Type} {f : α → Option β} {l : List α} {i : Nat} {x : α} {r : β} (hno : (l.take i).findSome? f = none) (hx : l[i]? = some x) (h : f x = some r) : l.findSome? f = some r := by
  conv => lhs; rw [← List.take_append_drop (i + 1) l]
  rw [take_more hx, List.findSome?_append, List.findSome?_append, hno]; simp [h]
theorem findSome_step {α β : Type} {f : α → Option β} {l : List α} {i : Nat} {x : α} (hno : (l.take i).findSome? f = none) (hx : l[i]? = some x) (h : f x = none) : (l.take (i + 1)).findSome? f = none := by
  rw [take_more hx, List.findSome?_append, hno]; simp [h]
theorem dp_two {K : PySem.W.Frag} {H : Hp} {a p q : Addr} {xs ys : List Int} (h : H a = some (.lst [V.ref p, V.ref q])) (h1 : SqL K H p (xs.map V.int)) (h2 : SqL K H q (ys.map V.int)) : Dp K H (.ref a) (dLL [xs, ys]) := .lst (SqL.of h) (.cons (dp_ints h1) (.cons (dp_ints h2) .nil))
theorem placesL_filter {row order : List Int} (h : shapeOk order) : placesL row order = (tupsN row.length order.length).filter (fun t => decide (rk (sel row t) = order)) := by
  unfold placesL
  exact List.filter_congr fun t ht => fitsB_shape h (tupsN_mem _ _ _ ht).1
end Sh

set_option Elab.async false
set_option linter.all false
set_option maxRecDepth 100000
set_option maxHeartbeats 4000000
/-! M13: the law's own way to the first places: plain Lean. -/
namespace Sh
open PySem PySem.Spec PyProof.Rows L2
def lowL (row : List Int) (t : List Nat) (p : Nat) : List Bool := t.map fun k => decide (row.getD k 0 < row.getD p 0)
def dueL (order : List Int) (m : Nat) : List Bool := (List.range m).map fun k => decide (order.getD k 0 < order.getD m 0)
def P2 (row order : List Int) (t : List Nat) (p : Nat) : Bool := decide (lowL row t p = dueL order t.length)
def dfs2 (row order : List Int) : Nat → List Nat → Option (List Nat)
  | 0, _ => none
  | d + 1, t => if t.length = order.length then some t else (List.range (row.length - startN t)).findSome? fun i => if P2 row order t (startN t + i) = true then dfs2 row order d (t ++ [startN t + i]) else none
theorem getD_append_at {a : List Int} {x : Int} : (a ++ [x]).getD a.length 0 = x := by
  simp only [List.getD_eq_getElem?_getD]
  rw [List.getElem?_append_right (Nat.le_refl _)]
  simp
theorem nodup_getD {l : List Int} (h : l.Nodup) {i j : Nat} (hi : i < l.length) (hj : j < l.length) (e : l.getD i 0 = l.getD j 0) : i = j := by
  have h1 := getD_at hi
  have h2 := getD_at hj
  rw [e, ← h2] at h1
  exact nd_ix h (h1.trans h2) h2
theorem sel_getD {row : List Int} {t : List Nat} {i : Nat} (h : i < t.length) : (sel row t).getD i 0 = row.getD (t.getD i 0) 0 := by
  unfold sel
  rw [List.getD_eq_getElem?_getD, List.getElem?_map, List.getD_eq_getElem?_getD (l := t), List.getElem?_eq_getElem h]
  rfl
theorem getD_memN {t : List Nat} {i : Nat} (h : i < t.length) : t.getD i 0 ∈ t := by
  rw [List.getD_eq_getElem?_getD, List.getElem?_eq_getElem h]
  exact List.getElem_mem h
theorem P2_iff {row order : List Int} {t : List Nat} {p : Nat} : P2 row order t p = true ↔ ∀ i, i < t.length → (row.getD (t.getD i 0) 0 < row.getD p 0 ↔ order.getD i 0 < order.getD t.length 0) := by
  unfold P2 lowL dueL
  rw [decide_eq_true_iff]
  constructor
  · intro e i hi
    have := congrArg (fun l : List Bool => l[i]?) e
    simp only [List.getElem?_map, List.getElem?_range hi] at this
    rw [List.getElem?_eq_getElem hi] at this
    have h2 := decide_eq_decide.mp (Option.some.inj this)
    rw [List.getD_eq_getElem?_getD (l := t), List.getElem?_eq_getElem hi]
    exact h2
  · intro h
    apply List.ext_getElem?
    intro i
    by_cases hi : i < t.length
    · simp only [List.getElem?_map, List.getElem?_range hi]
      rw [List.getElem?_eq_getElem hi]
      have := h i hi
      rw [List.getD_eq_getElem?_getD (l := t), List.getElem?_eq_getElem hi] at this
      exact congrArg some (decide_eq_decide.mpr this)
    · rw [List.getElem?_eq_none (by simp; omega), List.getElem?_eq_none (by simp; omega)]
theorem fits_step {row order : List Int} (hr : row.Nodup) (ho : order.Nodup) {t : List Nat} {p : Nat} (ht : t.length < order.length) (hb : ∀ i ∈ t, i < p) (hp : p < row.length) (hf : fitsB row order t = true) :
    fitsB row order (t ++ [p]) = P2 row order t p := by
  have h1 := rk_iso.mp (of_decide_eq_true hf)
  have l1 : (sel row t).length = t.length := by simp [sel]
  have es : sel row (t ++ [p]) = sel row t ++ [row.getD p 0] := by simp [sel]
  have hl : (sel row t ++ [row.getD p 0]).length = t.length + 1 := by rw [List.length_append, l1]; rfl
  have hl2 : (order.take (t ++ [p]).length).length = t.length + 1 := by simp; omega
  have last : (sel row t ++ [row.getD p 0]).getD t.length 0 = row.getD p 0 := by rw [← l1]; exact getD_append_at
  have old : ∀ i, i < t.length → (sel row t ++ [row.getD p 0]).getD i 0 = row.getD (t.getD i 0) 0 := fun i hi => by rw [getD_append_left (α := Nat) (by omega), sel_getD hi]
  have oo : ∀ i, i < t.length + 1 → (order.take (t ++ [p]).length).getD i 0 = order.getD i 0 := fun i hi => getD_take (by simp; omega)
  have key : iso (sel row (t ++ [p])) (order.take (t ++ [p]).length) ↔ P2 row order t p = true := by
    rw [P2_iff, es]
    constructor
    · intro h i hi
      have := h.2 i t.length (by omega) (by omega)
      rw [old i hi, last, oo i (by omega), oo _ (by omega)] at this
      exact this
    · intro h
      refine ⟨by omega, fun i j hi hj => ?_⟩
      rw [hl] at hi hj
      rw [oo i hi, oo j hj]
      by_cases ci : i < t.length
      · by_cases cj : j < t.length
        · rw [old i ci, old j cj]
          have := h1.2 i j (by omega) (by omega)
          rw [sel_getD ci, sel_getD cj, getD_take (by omega), getD_take (by omega)] at this
          exact this
        · have ej : j = t.length := by omega
          subst ej
          rw [old i ci, last]
          exact h i ci
      · have ei : i = t.length := by omega
        subst ei
        by_cases cj : j < t.length
        · rw [old j cj, last]
          have a1 := h j cj
          have m1 := hb _ (getD_memN cj)
          have a2 : row.getD (t.getD j 0) 0 ≠ row.getD p 0 := fun e => by have := nodup_getD hr (by omega) hp e; omega
          have a3 : order.getD j 0 ≠ order.getD t.length 0 := fun e => by have := nodup_getD ho (by omega) ht e; omega
          omega
        · have ej : j = t.length := by omega
          subst ej
          omega
  unfold fitsB
  by_cases c : P2 row order t p = true
  · rw [c, decide_eq_true (rk_iso.mpr (key.mpr c))]
  · rw [decide_eq_false (fun z => c (key.mp (rk_iso.mp z)))]
    simpa using c
theorem findSome_map {α β γ : Type} (f : α → β) (g : β → Option γ) : ∀ l : List α, (l.map f).findSome? g = l.findSome? fun x => g (f x)
  | [] => rfl
  | x :: l => by rw [List.map_cons, List.findSome?_cons, List.findSome?_cons, findSome_map f g l]
theorem findSome_filter {α β : Type} (p : α → Bool) (g : α → Option β) : ∀ l : List α, (l.filter p).findSome? g = l.findSome? fun x => if p x = true then g x else none
  | [] => rfl
  | x :: l => by
    rw [List.findSome?_cons]
    by_cases c : p x = true
    · rw [List.filter_cons_of_pos c, List.findSome?_cons, if_pos c, findSome_filter p g l]
    · rw [List.filter_cons_of_neg c, if_neg c, findSome_filter p g l]
theorem startN_snoc (t : List Nat) (p : Nat) : startN (t ++ [p]) = p + 1 := by
  unfold startN
  rw [if_neg (by simp), List.getLastD_concat]
theorem dfs2_eq {row order : List Int} (hr : row.Nodup) (ho : order.Nodup) : ∀ (d : Nat) (t : List Nat), t.length ≤ order.length → order.length < t.length + d → (∀ i ∈ t, i < startN t) → fitsB row order t = true → dfs2 row order d t = dfs row order d t
  | 0, _, _, _, _, _ => rfl
  | d + 1, t, h1, h2, hb, hf => by
    rw [dfs2, dfs]
    by_cases c : t.length = order.length
    · rw [if_pos c, if_pos c]
    · rw [if_neg c, if_neg c, grownL, growN, findSome_filter, findSome_map]
      refine findSome_congr fun i hi => ?_
      have hi' := List.mem_range.mp hi
      have hbp : ∀ j ∈ t, j < startN t + i := fun j hj => by have := hb j hj; omega
      have fs := fits_step hr ho (by omega) hbp (by omega) hf
      rw [fs]
      by_cases c2 : P2 row order t (startN t + i) = true
      · rw [if_pos c2, if_pos c2]
        refine dfs2_eq hr ho d _ (by simp; omega) (by simp; omega) (fun j hj => ?_) (by rw [fs]; exact c2)
        rw [startN_snoc]
        rcases List.mem_append.mp hj with z | z
        · have := hbp j z; omega
        · have : j = startN t + i := by simpa using z
          omega
      · rw [if_neg c2, if_neg c2]
theorem dfs2_first {row order : List Int} (hr : row.Nodup) (ho : order.Nodup) {d : Nat} (h : order.length < d) : dfs2 row order d [] = (placesL row order).head? := by
  rw [dfs2_eq hr ho d [] (by simp) (by simpa using h) (by simp) (fits_nil row order), dfs_first h]
theorem findSome_ext {β : Type} {f : Nat → Option β} {n i : Nat} {r : β} (hno : (List.range i).findSome? f = none) (hi : i < n) (h : f i = some r) : (List.range n).findSome? f = some r := by
  refine findSome_at (i := i) (x := i) ?_ (List.getElem?_range hi) h
  rw [List.take_range, Nat.min_eq_left (by omega)]
  exact hno
theorem findSome_next {β : Type} {f : Nat → Option β} {i : Nat} (hno : (List.range i).findSome? f = none) (h : f i = none) : (List.range (i + 1)).findSome? f = none := by
  rw [List.range_succ, List.findSome?_append, hno]
  simp [h]
def threes : List (List Int) := [[0, 1, 2], [0, 2, 1], [1, 0, 2], [1, 2, 0], [2, 0, 1], [2, 1, 0]]
def three (c : Int) : List Int := threes.getD (c % 6).toNat []
theorem three_mem (c : Int) : three c ∈ threes := by
  unfold three
  have h : (c % 6).toNat < threes.length := by show (c % 6).toNat < 6; omega
  rw [List.getD_eq_getElem?_getD, List.getElem?_eq_getElem h]
  exact List.getElem_mem h
theorem three_ok : ∀ o ∈ threes, shapeOk o ∧ o.length = 3 := by decide
theorem P2_one {row order : List Int} {i p : Nat} : P2 row order [i] p = true ↔ decide (row.getD i 0 < row.getD p 0) = decide (order.getD 0 0 < order.getD 1 0) := by
  unfold P2 lowL dueL
  rw [decide_eq_true_iff]
  show [decide (row.getD i 0 < row.getD p 0)] = [decide (order.getD 0 0 < order.getD 1 0)] ↔ _
  simp
theorem P2_two {row order : List Int} {i j p : Nat} : P2 row order [i, j] p = true ↔ decide (row.getD i 0 < row.getD p 0) = decide (order.getD 0 0 < order.getD 2 0) ∧ decide (row.getD j 0 < row.getD p 0) = decide (order.getD 1 0 < order.getD 2 0) := by
  unfold P2 lowL dueL
  rw [decide_eq_true_iff]
  show [decide (row.getD i 0 < row.getD p 0), decide (row.getD j 0 < row.getD p 0)] = [decide (order.getD 0 0 < order.getD 2 0), decide (order.getD 1 0 < order.getD 2 0)] ↔ _
  simp
/-! ### a tuple of places, or None -/
def OptT (H : Hp) (v : V) : Option (List Nat) → Prop
  | none => v = .non
  | some r => ∃ p, v = .ref p ∧ H p = some (.tup (r.map nV))
def dOpt : Option (List Nat) → PyData
  | none => .none
  | some r => dTupN r
theorem isD_opt : IsD dOpt 2 := ⟨fun x y => by
    cases x with
    | none => cases y with
      | none => simp [dOpt, PyData.eqv]
      | some s => simp [dOpt, PyData.eqv]
    | some r => cases y with
      | none => simp [dOpt, PyData.eqv]
      | some s => simpa [dOpt] using isD_tupN.eqv r s, fun x => by
    cases x with
    | none => simp [dOpt, PyData.canLay0]
    | some r => exact isD_tupN.lay r, fun x => by
    cases x with
    | none => simp [dOpt, PyData.depth]
    | some r => exact isD_tupN.dep r⟩
theorem dp_opt {K : PySem.W.Frag} {H : Hp} {v : V} {o : Option (List Nat)} (h : OptT H v o) : Dp K H v (dOpt o) := by
  cases o with
  | none => cases h; exact .non
  | some r => obtain ⟨p, rfl, hp⟩ := h; exact dp_tupN (SqT.of hp)
theorem OptT.same {H H' : Hp} {v : V} {o : Option (List Nat)} (h : OptT H v o) (s : Same H H') : OptT H' v o := by
  cases o with
  | none => exact h
  | some r => obtain ⟨p, e, hp⟩ := h; exact ⟨p, e, s _ _ hp⟩
end Sh

set_option Elab.async false
set_option linter.all false
set_option maxRecDepth 100000
set_option maxHeartbeats 4000000
/-! M14: orders seen from each side: plain Lean. -/
namespace Sh
open PySem PySem.Spec PyProof.Rows L2
/-! ### the tuples -/
theorem growN_get {n : Nat} {t x : List Nat} : x ∈ growN n t ↔ ∃ p, x = t ++ [p] ∧ startN t ≤ p ∧ p < n := by
  refine ⟨growN_len, ?_⟩
  rintro ⟨p, rfl, h1, h2⟩
  refine List.mem_map.mpr ⟨p - startN t, List.mem_range.mpr (by omega), ?_⟩
  rw [show startN t + (p - startN t) = p by omega]
theorem flatten_nodup {α β : Type} (f : α → List β) (g : β → α) : ∀ l : List α, l.Nodup → (∀ x ∈ l, (f x).Nodup) → (∀ x ∈ l, ∀ y ∈ f x, g y = x) → ((l.map f).flatten).Nodup
  | [], _, _, _ => by simp
  | x :: l, h, h1, h2 => by
    have hn := List.nodup_cons.mp h
    rw [List.map_cons, List.flatten_cons, List.nodup_append]
    refine ⟨h1 x (by simp), flatten_nodup f g l hn.2 (fun y hy => h1 y (by simp [hy])) (fun y hy => h2 y (by simp [hy])), fun a ha b hb e => ?_⟩
    obtain ⟨l', hl', hb'⟩ := List.mem_flatten.mp hb
    obtain ⟨y, hy, rfl⟩ := List.mem_map.mp hl'
    have e1 := h2 x (by simp) a ha
    have e2 := h2 y (by simp [hy]) b hb'
    rw [e, e2] at e1
    exact hn.1 (e1 ▸ hy)
theorem nodup_mapN {α β : Type} {f : α → β} {l : List α} (h : l.Nodup) (inj : ∀ a ∈ l, ∀ b ∈ l, f a = f b → a = b) : (l.map f).Nodup := nodup_map h inj
theorem tupsN_nodup (n : Nat) : ∀ s, (tupsN n s).Nodup
  | 0 => by simp [tupsN]
  | s + 1 => by
    rw [tupsN]
    refine flatten_nodup (growN n) List.dropLast _ (tupsN_nodup n s) (fun t _ => ?_) (fun t _ x hx => ?_)
    · refine nodup_mapN List.nodup_range fun a _ b _ e => ?_
      have := List.append_cancel_left e
      simp at this
      omega
    · obtain ⟨p, rfl, _, _⟩ := growN_len hx
      exact List.dropLast_concat
theorem pw_start {t : List Nat} (h : t.Pairwise (· < ·)) : ∀ i ∈ t, i < startN t := by
  intro i hi
  have h0 : t ≠ [] := fun z => by rw [z] at hi; simp at hi
  obtain ⟨r, z, rfl⟩ : ∃ r z, t = r ++ [z] := ⟨t.dropLast, t.getLast h0, (List.dropLast_concat_getLast _).symm⟩
  rw [startN_snoc]
  rcases List.mem_append.mp hi with w | w
  · have := (List.pairwise_append.mp h).2.2 i w z (by simp); omega
  · have : i = z := by simpa using w
    omega
theorem mem_tupsN {n : Nat} : ∀ {s : Nat} {t : List Nat}, t ∈ tupsN n s ↔ t.length = s ∧ t.Pairwise (· < ·) ∧ ∀ i ∈ t, i < n
  | 0, t => by
    constructor
    · intro h
      have : t = [] := by simpa [tupsN] using h
      subst this; simp
    · rintro ⟨h, _⟩
      have : t = [] := List.length_eq_zero_iff.mp h
      subst this; simp [tupsN]
  | s + 1, t => by
    rw [tupsN]
    constructor
    · intro h
      obtain ⟨l, hl, hx⟩ := List.mem_flatten.mp h
      obtain ⟨r, hr, rfl⟩ := List.mem_map.mp hl
      obtain ⟨p, rfl, h1, h2⟩ := growN_len hx
      obtain ⟨k1, k2, k3⟩ := mem_tupsN.mp hr
      refine ⟨by simp [k1], List.pairwise_append.mpr ⟨k2, by simp, fun a ha b hb => ?_⟩, fun i hi => ?_⟩
      · have : b = p := by simpa using hb
        have := pw_start k2 a ha
        omega
      · rcases List.mem_append.mp hi with z | z
        · exact k3 i z
        · have : i = p := by simpa using z
          omega
    · rintro ⟨h1, h2, h3⟩
      have h0 : t ≠ [] := fun z => by rw [z] at h1; simp at h1
      obtain ⟨r, z, rfl⟩ : ∃ r z, t = r ++ [z] := ⟨t.dropLast, t.getLast h0, (List.dropLast_concat_getLast _).symm⟩
      have hp := List.pairwise_append.mp h2
      have hr : r ∈ tupsN n s := mem_tupsN.mpr ⟨by simpa using h1, hp.1, fun i hi => h3 i (by simp [hi])⟩
      refine List.mem_flatten.mpr ⟨growN n r, List.mem_map.mpr ⟨r, hr, rfl⟩, growN_get.mpr ⟨z, rfl, ?_, h3 z (by simp)⟩⟩
      by_cases e : r = []
      · subst e; simp [startN]
      · have h4 := last_mem e
        have := hp.2.2 _ h4 z (by simp)
        unfold startN
        rw [if_neg e]
        omega
/-! ### counting by a way there -/
theorem len_le_of_sub {α : Type} [DecidableEq α] {l m : List α} (h : l.Nodup) (s : ∀ x ∈ l, x ∈ m) : l.length ≤ m.length := by
  by_cases c : l.length ≤ m.length
  · exact c
  · have := (perm_of_sub h s (by omega)).length_eq; omega
theorem cnt_le {α β : Type} [DecidableEq β] {A : List α} {B : List β} {p : α → Bool} {q : β → Bool} (f : α → β) (nA : A.Nodup) (h : ∀ x ∈ A, p x = true → f x ∈ B ∧ q (f x) = true) (inj : ∀ x ∈ A, ∀ y ∈ A, p x = true → p y = true → f x = f y → x = y) :
    (A.filter p).length ≤ (B.filter q).length := by
  have hn : ((A.filter p).map f).Nodup := by
    refine nodup_map (List.Nodup.sublist List.filter_sublist nA) fun a ha b hb e => ?_
    exact inj a (List.mem_filter.mp ha).1 b (List.mem_filter.mp hb).1 (List.mem_filter.mp ha).2 (List.mem_filter.mp hb).2 e
  have := len_le_of_sub hn (m := B.filter q) fun y hy => by
    obtain ⟨x, hx, rfl⟩ := List.mem_map.mp hy
    have hx' := List.mem_filter.mp hx
    have := h x hx'.1 hx'.2
    exact List.mem_filter.mpr this
  rwa [List.length_map] at this
def cnt (row order : List Int) : Nat := (placesL row order).length
theorem cnt_def {row order : List Int} (h : shapeOk order) : cnt row order = ((tupsN row.length order.length).filter (fun t => decide (rk (sel row t) = order))).length := by
  unfold cnt; rw [placesL_filter h]
theorem sel_len (row : List Int) (t : List Nat) : (sel row t).length = t.length := by simp [sel]
theorem pw_nodup {t : List Nat} (h : t.Pairwise (· < ·)) : t.Nodup := h.imp fun h => Nat.ne_of_lt h
theorem sel_nodup {row : List Int} (hr : row.Nodup) {t : List Nat} (ht : t.Nodup) (hb : ∀ i ∈ t, i < row.length) : (sel row t).Nodup :=
  nodup_map ht fun a ha b hb' e => nodup_getD hr (hb a ha) (hb b hb') e
/-! ### backward -/
theorem rk_reverse (l : List Int) : rk l.reverse = (rk l).reverse := by
  unfold rk
  rw [List.map_reverse]
  congr 1
  exact List.map_congr_left fun x _ => lessN_perm (List.reverse_perm l) x
theorem getD_reverse {l : List Int} {i : Nat} (h : i < l.length) : l.reverse.getD (l.length - 1 - i) 0 = l.getD i 0 := by
  simp only [List.getD_eq_getElem?_getD]
  rw [List.getElem?_reverse (by omega), show l.length - 1 - (l.length - 1 - i) = i by omega]
theorem back_le {row order : List Int} (ho : shapeOk order) : cnt row order ≤ cnt row.reverse order.reverse := by
  rw [cnt_def ho, cnt_def (reverse_shape ho), List.length_reverse, List.length_reverse]
  refine cnt_le (fun t => (t.map fun i => row.length - 1 - i).reverse) (tupsN_nodup _ _) (fun t ht hp => ?_) (fun t ht u hu _ _ e => ?_)
  · obtain ⟨h1, h2, h3⟩ := mem_tupsN.mp ht
    refine ⟨mem_tupsN.mpr ⟨by simp [h1], ?_, fun i hi => ?_⟩, ?_⟩
    · rw [List.pairwise_reverse, List.pairwise_map]
      refine List.Pairwise.imp_of_mem (fun {a b} ha hb hab => ?_) h2
      have := h3 a ha
      have := h3 b hb
      omega
    · obtain ⟨j, hj, rfl⟩ := List.mem_map.mp (List.mem_reverse.mp hi)
      have := h3 j hj
      omega
    · have e : sel row.reverse (t.map fun i => row.length - 1 - i).reverse = (sel row t).reverse := by
        unfold sel
        rw [List.map_reverse, List.map_map]
        congr 1
        exact List.map_congr_left fun i hi => getD_reverse (h3 i hi)
      refine decide_eq_true ?_
      rw [e, rk_reverse, of_decide_eq_true hp]
  · obtain ⟨h1, h2, h3⟩ := mem_tupsN.mp ht
    obtain ⟨g1, g2, g3⟩ := mem_tupsN.mp hu
    have e2 := List.reverse_inj.mp e
    apply List.ext_getElem?
    intro i
    have e3 := congrArg (fun l : List Nat => l[i]?) e2
    simp only [List.getElem?_map] at e3
    by_cases hi : i < t.length
    · have hi2 : i < u.length := by omega
      rw [List.getElem?_eq_getElem hi, List.getElem?_eq_getElem hi2] at e3 ⊢
      have := h3 _ (List.getElem_mem hi)
      have := g3 _ (List.getElem_mem hi2)
      simp at e3
      congr 1
      omega
    · rw [List.getElem?_eq_none (by omega), List.getElem?_eq_none (by omega)]
theorem cnt_back {row order : List Int} (ho : shapeOk order) : cnt row.reverse order.reverse = cnt row order := by
  have h1 := back_le (row := row) ho
  have h2 := back_le (row := row.reverse) (reverse_shape ho)
  rw [List.reverse_reverse, List.reverse_reverse] at h2
  omega
/-! ### contrary -/
theorem less_more (x : Int) : ∀ l : List Int, l.Nodup → x ∈ l → (l.filter (· < x)).length + (l.filter (fun y => decide (x < y))).length + 1 = l.length
  | [], _, h => by simp at h
  | a :: l, hn, h => by
    have hn' := List.nodup_cons.mp hn
    by_cases e : x = a
    · subst e
      have := split_len x l hn'.1
      rw [List.filter_cons_of_neg (by simp), List.filter_cons_of_neg (by simp)]
      simp; omega
    · have hm : x ∈ l := by rcases List.mem_cons.mp h with z | z; exact absurd z e; exact z
      have ih := less_more x l hn'.2 hm
      by_cases c : a < x
      · rw [List.filter_cons_of_pos (by simpa using c), List.filter_cons_of_neg (by simp; omega)]; simp; omega
      · rw [List.filter_cons_of_neg (by simpa using c), List.filter_cons_of_pos (by simp; omega)]; simp; omega
theorem rk_contrary {l : List Int} (h : l.Nodup) (c : Int) : rk (l.map fun x => c - x) = contraryL (rk l) := by
  unfold contraryL
  rw [rk_len]
  unfold rk
  rw [List.map_map, List.map_map]
  refine List.map_congr_left fun x hx => ?_
  have e := less_more x l h hx
  simp only [Function.comp, lessN, List.filter_map, List.length_map]
  have e2 : (l.filter ((fun z => decide (z < c - x)) ∘ fun x => c - x)).length = (l.filter (fun y => decide (x < y))).length := by
    congr 1
    refine List.filter_congr fun y _ => ?_
    simp only [Function.comp]
    exact decide_eq_decide.mpr ⟨fun _ => by omega, fun _ => by omega⟩
  rw [e2]
  omega
theorem sel_contrary {row : List Int} {t : List Nat} (hb : ∀ i ∈ t, i < row.length) : sel (contraryL row) t = (sel row t).map fun x => ((row.length : Int) - 1) - x := by
  unfold sel contraryL
  rw [List.map_map]
  refine List.map_congr_left fun i hi => ?_
  simp only [Function.comp, List.getD_eq_getElem?_getD, List.getElem?_map, List.getElem?_eq_getElem (hb i hi)]
  rfl
theorem contrary_le {row order : List Int} (hr : row.Nodup) (ho : shapeOk order) : cnt row order ≤ cnt (contraryL row) (contraryL order) := by
  rw [cnt_def ho, cnt_def (contrary_shape ho), contrary_len, contrary_len]
  refine cnt_le (fun t => t) (tupsN_nodup _ _) (fun t ht hp => ⟨ht, ?_⟩) (fun t ht u hu _ _ e => e)
  obtain ⟨h1, h2, h3⟩ := mem_tupsN.mp ht
  refine decide_eq_true ?_
  rw [sel_contrary h3, rk_contrary (sel_nodup hr (pw_nodup h2) h3), of_decide_eq_true hp]
theorem cnt_contrary {row order : List Int} (hr : shapeOk row) (ho : shapeOk order) : cnt (contraryL row) (contraryL order) = cnt row order := by
  have h1 := contrary_le (shapeOk_row hr).2 ho
  have h2 := contrary_le (shapeOk_row (contrary_shape hr)).2 (contrary_shape ho)
  rw [contrary_back, contrary_back] at h2
  omega
/-! ### turned over -/
theorem over_getD {s : List Int} {i : Nat} (h : i < s.length) : (overL s).getD i 0 = ((s.idxOf (i : Int) : Nat) : Int) := by
  rw [List.getD_eq_getElem?_getD, over_get h]; rfl
def valN (row : List Int) (t : List Nat) (i : Nat) : Nat := (row.getD (t.getD i 0) 0).toNat
def turnT (row order : List Int) (t : List Nat) : List Nat := (List.range order.length).map fun j : Nat => valN row t (order.idxOf (j : Int))
theorem lessN_sorted {t : List Nat} (h : t.Pairwise (· < ·)) {i : Nat} (hi : i < t.length) : lessN (t.map fun i : Nat => (i : Int)) ((t.getD i 0 : Nat) : Int) = (i : Int) := by
  unfold lessN
  rw [List.filter_map, List.length_map]
  have e : ((fun z : Int => decide (z < ((t.getD i 0 : Nat) : Int))) ∘ fun i : Nat => (i : Int)) = fun j : Nat => decide (j < t.getD i 0) := by
    funext j; simp [Function.comp]
  rw [e]
  have e2 : t.filter (fun j => decide (j < t.getD i 0)) = t.take i := by
    have hx : t.getD i 0 = t[i] := by rw [List.getD_eq_getElem?_getD, List.getElem?_eq_getElem hi]; rfl
    have hd : t.drop i = t[i] :: t.drop (i + 1) := List.drop_eq_getElem_cons hi
    rw [hx]
    generalize t[i] = v at hd
    conv => lhs; rw [← List.take_append_drop i t]
    rw [List.filter_append]
    have hp : (t.take i ++ t.drop i).Pairwise (· < ·) := by rw [List.take_append_drop]; exact h
    obtain ⟨p1, p2, p3⟩ := List.pairwise_append.mp hp
    have a1 : (t.take i).filter (fun j => decide (j < v)) = t.take i := List.filter_eq_self.mpr fun j hj => by
      have := p3 j hj v (by rw [hd]; simp)
      simpa using this
    have a2 : (t.drop i).filter (fun j => decide (j < v)) = [] := List.filter_eq_nil_iff.mpr fun j hj => by
      rw [hd] at hj p2
      rcases List.mem_cons.mp hj with z | z
      · subst z; simp
      · have := (List.pairwise_cons.mp p2).1 j z
        simp; omega
    rw [a1, a2, List.append_nil]
  rw [e2, List.length_take, Nat.min_eq_left (by omega)]
theorem getD_mapN {β : Type} {f : Nat → β} {n i : Nat} (h : i < n) (d : β) : ((List.range n).map f).getD i d = f i := by
  rw [List.getD_eq_getElem?_getD, List.getElem?_map, List.getElem?_range h]; rfl
section
variable {row order : List Int} {t : List Nat}
theorem turn_facts (hr : shapeOk row) (ho : shapeOk order) (ht : t ∈ tupsN row.length order.length) (hp : rk (sel row t) = order) :
    turnT row order t ∈ tupsN row.length order.length ∧ rk (sel (overL row) (turnT row order t)) = overL order ∧ ∀ i, i < order.length → (turnT row order t).getD (order.getD i 0).toNat 0 = valN row t i := by
  obtain ⟨h1, h2, h3⟩ := mem_tupsN.mp ht
  have l1 := sel_len row t
  have on := (shapeOk_row ho).2
  have rn := (shapeOk_row hr).2
  have ix : ∀ j, j < order.length → order.idxOf (j : Int) < order.length ∧ order.getD (order.idxOf (j : Int)) 0 = (j : Int) := fun j hj => by
    have hm : (j : Int) ∈ order := (shapeOk_mem ho).mpr ⟨by omega, by omega⟩
    refine ⟨idxOf_lt hm, ?_⟩
    rw [List.getD_eq_getElem?_getD, idxOf_at hm]; rfl
  -- the value at place i has rank order i
  have rank : ∀ i, i < order.length → lessN (sel row t) (row.getD (t.getD i 0) 0) = order.getD i 0 := fun i hi => by
    have := rk_get (a := sel row t) (i := i) (by omega)
    rw [hp, sel_getD (by omega)] at this
    exact this.symm
  have vpos : ∀ i, i < order.length → 0 ≤ row.getD (t.getD i 0) 0 ∧ row.getD (t.getD i 0) 0 < row.length := fun i hi =>
    (shapeOk_mem hr).mp (getD_mem (h3 _ (getD_memN (by omega))))
  have mem : ∀ i, i < order.length → row.getD (t.getD i 0) 0 ∈ sel row t := fun i hi => by
    rw [← sel_getD (row := row) (by omega : i < t.length)]; exact getD_mem (by omega)
  have pw : (turnT row order t).Pairwise (· < ·) := by
    unfold turnT
    rw [List.pairwise_map]
    refine List.Pairwise.imp_of_mem (fun {a b} ha hb hab => ?_) List.pairwise_lt_range
    have ha' := ix a (List.mem_range.mp ha)
    have hb' := ix b (List.mem_range.mp hb)
    have ra := rank _ ha'.1
    have rb := rank _ hb'.1
    rw [ha'.2] at ra
    rw [hb'.2] at rb
    have := (lessN_iff (ns := sel row t) (y := row.getD (t.getD (order.idxOf (b : Int)) 0) 0) (mem _ ha'.1)).mp (by rw [ra, rb]; omega)
    have v1 := vpos _ ha'.1
    have v2 := vpos _ hb'.1
    unfold valN
    omega
  refine ⟨mem_tupsN.mpr ⟨by simp [turnT], pw, fun i hi => ?_⟩, ?_, fun i hi => ?_⟩
  · obtain ⟨j, hj, rfl⟩ := List.mem_map.mp hi
    have := vpos _ (ix j (List.mem_range.mp hj)).1
    unfold valN; omega
  · -- places of the sorted values are the places of t, turned over
    have e : sel (overL row) (turnT row order t) = (List.range order.length).map fun j : Nat => ((t.getD (order.idxOf (j : Int)) 0 : Nat) : Int) := by
      unfold sel turnT
      rw [List.map_map]
      refine List.map_congr_left fun j hj => ?_
      have hj' := ix j (List.mem_range.mp hj)
      have v := vpos _ hj'.1
      have hb := h3 _ (getD_memN (t := t) (i := order.idxOf (j : Int)) (by omega))
      simp only [Function.comp]
      rw [over_getD (by unfold valN; omega)]
      unfold valN
      rw [show (((row.getD (t.getD (order.idxOf (j : Int)) 0) 0).toNat : Nat) : Int) = row.getD (t.getD (order.idxOf (j : Int)) 0) 0 by omega, idxOf_of rn (getD_at hb)]
    have pm : (sel (overL row) (turnT row order t)).Perm (t.map fun i : Nat => (i : Int)) := by
      rw [e]
      have p1 := (shape_perm_nat (over_shape ho))
      rw [over_len] at p1
      have p2 := p1.map fun i : Nat => ((t.getD i 0 : Nat) : Int)
      rw [List.map_map] at p2
      have e1 : (List.range order.length).map ((fun i : Nat => ((t.getD i 0 : Nat) : Int)) ∘ fun i => ((overL order).getD i 0).toNat) = (List.range order.length).map fun j : Nat => ((t.getD (order.idxOf (j : Int)) 0 : Nat) : Int) := by
        refine List.map_congr_left fun j hj => ?_
        simp only [Function.comp]
        rw [over_getD (List.mem_range.mp hj), Int.toNat_natCast]
      have e2 : (List.range order.length).map (fun i : Nat => ((t.getD i 0 : Nat) : Int)) = t.map fun i : Nat => (i : Int) := by
        apply List.ext_getElem?
        intro i
        by_cases hi : i < order.length
        · rw [List.getElem?_map, List.getElem?_range hi, List.getElem?_map, List.getElem?_eq_getElem (by omega : i < t.length)]
          show some ((t.getD i 0 : Nat) : Int) = some ((t[i] : Nat) : Int)
          rw [List.getD_eq_getElem?_getD, List.getElem?_eq_getElem (by omega : i < t.length)]; rfl
        · rw [List.getElem?_eq_none (by simp; omega), List.getElem?_eq_none (by simp; omega)]
      rw [e1, e2] at p2
      exact p2
    show _ = (List.range order.length).map fun i : Nat => ((order.idxOf (i : Int) : Nat) : Int)
    have e3 : rk (sel (overL row) (turnT row order t)) = (sel (overL row) (turnT row order t)).map (lessN (t.map fun i : Nat => (i : Int))) := by
      unfold rk
      exact List.map_congr_left fun x _ => lessN_perm pm x
    rw [e3, e, List.map_map]
    refine List.map_congr_left fun j hj => ?_
    have hj' := ix j (List.mem_range.mp hj)
    simp only [Function.comp]
    rw [lessN_sorted h2 (by omega)]
  · have hm := (shapeOk_mem ho).mp (getD_mem hi)
    unfold turnT
    rw [getD_mapN (by omega), show ((order.getD i 0).toNat : Int) = order.getD i 0 by omega, idxOf_of on (getD_at hi)]
end
theorem over_le {row order : List Int} (hr : shapeOk row) (ho : shapeOk order) : cnt row order ≤ cnt (overL row) (overL order) := by
  rw [cnt_def ho, cnt_def (over_shape ho), over_len, over_len]
  refine cnt_le (turnT row order) (tupsN_nodup _ _) (fun t ht hp => ?_) (fun t ht u hu hp hq e => ?_)
  · obtain ⟨k1, k2, _⟩ := turn_facts hr ho ht (of_decide_eq_true hp)
    exact ⟨k1, decide_eq_true k2⟩
  · obtain ⟨h1, h2, h3⟩ := mem_tupsN.mp ht
    obtain ⟨g1, g2, g3⟩ := mem_tupsN.mp hu
    obtain ⟨_, _, k3⟩ := turn_facts hr ho ht (of_decide_eq_true hp)
    obtain ⟨_, _, k4⟩ := turn_facts hr ho hu (of_decide_eq_true hq)
    apply List.ext_getElem?
    intro i
    by_cases hi : i < t.length
    · have hi2 : i < u.length := by omega
      have a := k3 i (by omega)
      have b := k4 i (by omega)
      rw [e, b] at a
      have m1 := h3 _ (getD_memN hi)
      have m2 := g3 _ (getD_memN hi2)
      have b1 := (shapeOk_mem hr).mp (getD_mem m1)
      have b2 := (shapeOk_mem hr).mp (getD_mem m2)
      unfold valN at a
      have := nodup_getD (shapeOk_row hr).2 m2 m1 (by omega)
      rw [List.getD_eq_getElem?_getD, List.getElem?_eq_getElem hi2, List.getD_eq_getElem?_getD, List.getElem?_eq_getElem hi] at this
      rw [List.getElem?_eq_getElem hi, List.getElem?_eq_getElem hi2]
      congr 1
      exact this.symm
    · rw [List.getElem?_eq_none (by omega), List.getElem?_eq_none (by omega)]
theorem cnt_over {row order : List Int} (hr : shapeOk row) (ho : shapeOk order) : cnt (overL row) (overL order) = cnt row order := by
  have h1 := over_le hr ho
  have h2 := over_le (over_shape hr) (over_shape ho)
  rw [over_back hr, over_back ho] at h2
  omega
/-! ### the six orders of three -/
theorem three_all {o : List Int} (h : shapeOk o) (hl : o.length = 3) : o ∈ threes := by
  match o, hl with
  | [x, y, z], _ =>
    have b := fun w hw => (shapeOk_mem h (x := w)).mp hw
    have bx := b x (by simp)
    have by' := b y (by simp)
    have bz := b z (by simp)
    have nd := (shapeOk_row h).2
    simp only [List.length_cons, List.length_nil] at bx by' bz
    have n1 : x ≠ y := fun e => by rw [e] at nd; simp at nd
    have n2 : x ≠ z := fun e => by rw [e] at nd; simp at nd
    have n3 : y ≠ z := fun e => by rw [e] at nd; simp at nd
    have hx : x = 0 ∨ x = 1 ∨ x = 2 := by omega
    have hy : y = 0 ∨ y = 1 ∨ y = 2 := by omega
    have hz : z = 0 ∨ z = 1 ∨ z = 2 := by omega
    rcases hx with rfl | rfl | rfl <;> rcases hy with rfl | rfl | rfl <;> rcases hz with rfl | rfl | rfl <;> first | decide | omega
theorem threes_one : ∀ o ∈ threes, threes.countP (fun p => decide (o = p)) = 1 := by decide
theorem tups3_len : ∀ n : Nat, n ≤ 12 → ((tupsN n 3).length : Int) = (n : Int) * ((n : Int) - 1) * ((n : Int) - 2) / 6 := by decide +kernel
theorem sum_ones {α : Type} (f : α → Nat) : ∀ l : List α, (∀ x ∈ l, f x = 1) → (l.map f).sum = l.length
  | [], _ => rfl
  | x :: l, h => by rw [List.map_cons, List.sum_cons, h x (by simp), sum_ones f l fun y hy => h y (by simp [hy])]; simp; omega
theorem six_sum {row : List Int} (hr : row.Nodup) (hl : row.length ≤ 12) : (threes.map (cnt row)).sum = (tupsN row.length 3).length := by
  have e1 : threes.map (cnt row) = threes.map fun o => (tupsN row.length 3).countP (fun t => decide (rk (sel row t) = o)) := by
    refine List.map_congr_left fun o ho => ?_
    have h := three_ok o ho
    rw [cnt_def h.1, h.2, List.countP_eq_length_filter]
  rw [e1, fubini (fun o t => decide (rk (sel row t) = o)) threes (tupsN row.length 3)]
  refine sum_ones _ _ fun t ht => ?_
  obtain ⟨h1, h2, h3⟩ := mem_tupsN.mp ht
  have hn := sel_nodup hr (pw_nodup h2) h3
  have hs : shapeOk (rk (sel row t)) := rk_shape ⟨by rw [sel_len]; omega, hn⟩
  exact threes_one _ (three_all hs (by rw [rk_len, sel_len, h1]))
end Sh

set_option Elab.async false
set_option linter.all false
set_option maxRecDepth 100000
set_option maxHeartbeats 4000000
/-! M15: shapes without an order of three: what the text computes. -/
namespace Sh
open PySem PySem.Spec PyProof.Rows L2
/-! ### ways -/
def Wy : Nat → Nat → Nat
  | 0, h => if h = 0 then 1 else 0
  | l + 1, h => Wy l (h + 1) + if 0 < h then Wy l (h - 1) else 0
theorem Wy_big : ∀ l h, l < h → Wy l h = 0
  | 0, h, z => by rw [Wy, if_neg (by omega)]
  | l + 1, h, z => by rw [Wy, Wy_big l (h + 1) (by omega), if_pos (by omega), Wy_big l (h - 1) (by omega)]
/-- one row: its first 2 n + 2 numbers -/
def wayN (n l : Nat) : List Int := (List.range (2 * n + 2)).map fun h : Nat => ((Wy l h : Nat) : Int)
theorem wayN_len (n l : Nat) : (wayN n l).length = 2 * n + 2 := by simp [wayN]
theorem wayN_get {n l h : Nat} (z : h < 2 * n + 2) : (wayN n l).getD h 0 = ((Wy l h : Nat) : Int) := getD_mapN z 0
theorem wayN_zero (n : Nat) : wayN n 0 = 1 :: List.replicate (2 * n + 1) 0 := by
  unfold wayN
  rw [List.range_succ_eq_map, List.map_cons, List.map_map]
  congr 1
  apply List.ext_getElem?
  intro i
  by_cases h : i < 2 * n + 1
  · rw [List.getElem?_map, List.getElem?_range h, List.getElem?_replicate, if_pos h]
    simp [Wy]
  · rw [List.getElem?_eq_none (by simp; omega), List.getElem?_eq_none (by simp; omega)]
theorem wayN_succ {n l : Nat} (hl : l < 2 * n) : wayN n (l + 1) = ((List.range (2 * n + 1)).map fun h : Nat => (wayN n l).getD (h + 1) 0 + if 0 < h then (wayN n l).getD (h - 1) 0 else 0) ++ [0] := by
  have e : wayN n (l + 1) = ((List.range (2 * n + 1)).map fun h : Nat => ((Wy (l + 1) h : Nat) : Int)) ++ [((Wy (l + 1) (2 * n + 1) : Nat) : Int)] := by
    unfold wayN
    rw [List.range_succ, List.map_append]; rfl
  rw [e, Wy_big (l + 1) (2 * n + 1) (by omega)]
  congr 1
  refine List.map_congr_left fun h hh => ?_
  have hh' := List.mem_range.mp hh
  rw [wayN_get (by omega), Wy]
  split
  · rw [wayN_get (by omega)]; omega
  · omega
/-! ### the pile -/
def pl : Nat → List Nat → Nat → Nat → List Nat
  | 0, _, _, _ => []
  | l + 1, P, t, m => if m < Wy l (P.length + 1) then pl l (t :: P) (t + 1) m else match P with
    | [] => []
    | x :: P' => x :: pl l P' t (m - Wy l (P.length + 1))
def pn : Nat → Nat → Nat → List Nat → Nat
  | 0, _, _, _ => 0
  | _ + 1, _, _, [] => 0
  | l + 1, h, t, w :: ws => if t ≤ w then pn l (h + 1) (t + 1) (w :: ws) else Wy l (h + 1) + pn l (h - 1) t ws
def nI (t : List Nat) : List Int := t.map fun i : Nat => (i : Int)
def pileL (n m : Nat) : List Int := nI (pl (2 * n) [] 0 m)
def pnum (s : List Int) : Nat := pn (2 * s.length) 0 0 (s.map Int.toNat)
theorem pl_push {l t m : Nat} {P : List Nat} (h : m < Wy l (P.length + 1)) : pl (l + 1) P t m = pl l (t :: P) (t + 1) m := by
  cases P <;> simp only [pl] <;> rw [if_pos h]
theorem pl_pop {l t m x : Nat} {P : List Nat} (h : ¬ m < Wy l ((x :: P).length + 1)) : pl (l + 1) (x :: P) t m = x :: pl l P t (m - Wy l ((x :: P).length + 1)) := by
  simp only [pl]; rw [if_neg h]
theorem pl_junk {l t m : Nat} (h : ¬ m < Wy l (([] : List Nat).length + 1)) : pl (l + 1) [] t m = [] := by
  simp only [pl]; rw [if_neg h]
theorem pl_len : ∀ (l : Nat) (P : List Nat) (t m : Nat), (pl l P t m).length ≤ l
  | 0, P, t, m => by simp [pl]
  | l + 1, P, t, m => by
    by_cases h : m < Wy l (P.length + 1)
    · rw [pl_push h]
      have := pl_len l (t :: P) (t + 1) m; omega
    · cases P with
      | nil => rw [pl_junk h]; simp
      | cons x P' =>
        rw [pl_pop h]
        have := pl_len l P' t (m - Wy l ((x :: P').length + 1))
        rw [List.length_cons]; omega
/-! ### turned -/
def RISE : List Int := [0, 1, 2]
def FALL : List Int := [2, 1, 0]
def turnL (s o : List Int) : List Int :=
  let f := if o = [1, 0, 2] ∨ o = [1, 2, 0] then s.reverse else s
  if o = [0, 2, 1] ∨ o = [1, 2, 0] then contraryL f else f
theorem turnL_len (s o : List Int) : (turnL s o).length = s.length := by
  unfold turnL
  simp only []
  split <;> split <;> simp [contrary_len]
/-! ### lows, and rows filled -/
def isLow (s : List Int) (k : Nat) : Bool := (s.take (k + 1)).all fun y => decide (s.getD k 0 ≤ y)
def lowsN (s : List Int) : List Nat := (List.range s.length).filter (isLow s)
def nonl (s : List Int) : List Int := ((List.range s.length).filter fun k => !isLow s k).map fun k => s.getD k 0
def srt (l : List Int) : List Int := l.mergeSort fun a b => decide (a ≤ b)
theorem srt_perm (l : List Int) : (srt l).Perm l := List.mergeSort_perm _ _
theorem srt_sorted (l : List Int) : (srt l).Pairwise (· ≤ ·) := by
  refine (List.pairwise_mergeSort (le := fun a b : Int => decide (a ≤ b)) (fun x y z h1 h2 => ?_) (fun x y => ?_) l).imp fun h => of_decide_eq_true h
  · have := of_decide_eq_true h1
    have := of_decide_eq_true h2
    exact decide_eq_true (by omega)
  · by_cases c : x ≤ y
    · rw [decide_eq_true c]; rfl
    · rw [decide_eq_true (show y ≤ x by omega)]; simp
theorem srt_of {l m : List Int} (p : m.Perm l) (h : m.Pairwise (· ≤ ·)) : m = srt l := sorted_eq (p.trans (srt_perm l).symm) h (srt_sorted l)
def cN (s : List Int) (i : Nat) : Nat := ((List.range i).filter fun k => !isLow s k).length
theorem cN_succ (s : List Int) (i : Nat) : cN s (i + 1) = cN s i + if isLow s i = true then 0 else 1 := by
  unfold cN
  rw [List.range_succ, List.filter_append, List.length_append]
  congr 1
  by_cases c : isLow s i = true
  · rw [if_pos c, List.filter_cons_of_neg (by simp [c])]; rfl
  · rw [if_neg c, List.filter_cons_of_pos (by simpa using c)]; rfl
theorem cN_mono (s : List Int) {i j : Nat} (h : i ≤ j) : cN s i ≤ cN s j := by
  induction j with
  | zero => have : i = 0 := by omega
            subst this; exact Nat.le_refl _
  | succ j ih =>
    by_cases e : i = j + 1
    · subst e; exact Nat.le_refl _
    · have := ih (by omega)
      rw [cN_succ]; omega
theorem nonl_len (s : List Int) : (nonl s).length = cN s s.length := by simp [nonl, cN]
/-- the others falling -/
def fillT (s : List Int) : List Int := (List.range s.length).map fun k => if isLow s k = true then s.getD k 0 else (srt (nonl s)).getD ((srt (nonl s)).length - 1 - cN s k) 0
def lowAt (s : List Int) : Nat → Int
  | 0 => 0
  | k + 1 => if isLow s k = true then s.getD k 0 else lowAt s k
/-- what is left of the others, each taken as little as it can be -/
def lft (s : List Int) : Nat → List Int
  | 0 => srt (nonl s)
  | k + 1 => if isLow s k = true then lft s k else (lft s k).erase (((lft s k).filter fun y => decide (lowAt s k < y)).headD 0)
def pick (s : List Int) (k : Nat) : Int := ((lft s k).filter fun y => decide (lowAt s k < y)).headD 0
def fillU (s : List Int) : List Int := (List.range s.length).map fun k => if isLow s k = true then s.getD k 0 else pick s k
/-! ### what is made, and its number -/
def madeL (n : Nat) (o : List Int) (m : Nat) : List Int :=
  if o ≠ RISE ∧ o ≠ FALL then turnL (pileL n m) o
  else if o = FALL then (fillT (turnL (pileL n m) [0, 2, 1])).map (fun x => (n : Int) - 1 - x) else fillT (turnL (pileL n m) [0, 2, 1])
def numL (s o : List Int) : Nat :=
  if o ≠ RISE ∧ o ≠ FALL then pnum (turnL s o)
  else pnum (turnL (fillU (if o = FALL then contraryL s else s)) [0, 2, 1])
theorem fillT_len (s : List Int) : (fillT s).length = s.length := by simp [fillT]
theorem fillU_len (s : List Int) : (fillU s).length = s.length := by simp [fillU]
/-- a shape that can be numbered -/
def numOk (s : List Int) : Prop := shapeOk s ∧ shapeOk (fillU s) ∧ shapeOk (fillU (contraryL s))
theorem turn_shape {s : List Int} (h : shapeOk s) (o : List Int) : shapeOk (turnL s o) := by
  unfold turnL
  simp only []
  split <;> split
  · exact contrary_shape (reverse_shape h)
  · exact contrary_shape h
  · exact reverse_shape h
  · exact h
/-! ### that a number can be picked -/
theorem take_succ_mem {s : List Int} {k : Nat} (h : k < s.length) {y : Int} : y ∈ s.take (k + 1) ↔ y ∈ s.take k ∨ y = s.getD k 0 := by
  rw [take_get h, List.mem_append]; simp
theorem isLow_iff {s : List Int} {k : Nat} : isLow s k = true ↔ ∀ y ∈ s.take (k + 1), s.getD k 0 ≤ y := by unfold isLow; rw [List.all_eq_true]; simp only [decide_eq_true_iff]
theorem lowAt_min {s : List Int} : ∀ k, k < s.length → lowAt s (k + 1) ∈ s.take (k + 1) ∧ ∀ y ∈ s.take (k + 1), lowAt s (k + 1) ≤ y
  | 0, h => by
    have hl : isLow s 0 = true := isLow_iff.mpr fun y hy => by
      rcases (take_succ_mem h).mp hy with z | z
      · simp at z
      · omega
    rw [lowAt, if_pos hl]
    exact ⟨(take_succ_mem h).mpr (.inr rfl), isLow_iff.mp hl⟩
  | k + 1, h => by
    obtain ⟨h1, h2⟩ := lowAt_min (s := s) k (by omega)
    rw [lowAt]
    by_cases c : isLow s (k + 1) = true
    · rw [if_pos c]
      exact ⟨(take_succ_mem h).mpr (.inr rfl), isLow_iff.mp c⟩
    · rw [if_neg c]
      refine ⟨(take_succ_mem h).mpr (.inl h1), fun y hy => ?_⟩
      rcases (take_succ_mem h).mp hy with z | z
      · exact h2 y z
      · subst z
        by_cases d : lowAt s (k + 1) ≤ s.getD (k + 1) 0
        · exact d
        · exfalso
          refine c (isLow_iff.mpr fun y hy => ?_)
          rcases (take_succ_mem h).mp hy with w | w
          · have := h2 y w; omega
          · omega
theorem low_lt {s : List Int} {k : Nat} (h : k < s.length) (c : ¬ isLow s k = true) : 0 < k ∧ lowAt s k < s.getD k 0 := by
  cases k with
  | zero =>
    exfalso
    refine c (isLow_iff.mpr fun y hy => ?_)
    rcases (take_succ_mem h).mp hy with z | z
    · simp at z
    · omega
  | succ k =>
    refine ⟨by omega, ?_⟩
    obtain ⟨h1, h2⟩ := lowAt_min (s := s) k (by omega)
    by_cases d : lowAt s (k + 1) < s.getD (k + 1) 0
    · exact d
    · exfalso
      refine c (isLow_iff.mpr fun y hy => ?_)
      rcases (take_succ_mem h).mp hy with w | w
      · have := h2 y w; omega
      · omega
theorem lowAt_anti {s : List Int} {j k : Nat} (hj : 0 < j) (h : j ≤ k) (hk : k ≤ s.length) : lowAt s k ≤ lowAt s j := by
  obtain ⟨j', rfl⟩ : ∃ j', j = j' + 1 := ⟨j - 1, by omega⟩
  obtain ⟨k', rfl⟩ : ∃ k', k = k' + 1 := ⟨k - 1, by omega⟩
  have h1 := (lowAt_min (s := s) j' (by omega)).1
  refine (lowAt_min (s := s) k' (by omega)).2 _ ?_
  have : s.take (j' + 1) = (s.take (k' + 1)).take (j' + 1) := by rw [List.take_take, Nat.min_eq_left (by omega)]
  rw [this] at h1
  exact List.mem_of_mem_take h1
theorem countP_erase_ge (p : Int → Bool) (x : Int) (l : List Int) : l.countP p ≤ (l.erase x).countP p + 1 := by
  by_cases h : x ∈ l
  · have := (List.perm_cons_erase h).countP_eq p
    rw [this, List.countP_cons]
    split <;> omega
  · rw [List.erase_of_not_mem h]; omega
theorem lft_count (s : List Int) (p : Int → Bool) : ∀ k, (srt (nonl s)).countP p ≤ (lft s k).countP p + cN s k
  | 0 => by rw [lft]; exact Nat.le_add_right _ _
  | k + 1 => by
    have ih := lft_count s p k
    rw [lft, cN_succ]
    by_cases c : isLow s k = true
    · rw [if_pos c, if_pos c]; omega
    · rw [if_neg c, if_neg c]
      have := countP_erase_ge p (((lft s k).filter fun y => decide (lowAt s k < y)).headD 0) (lft s k)
      omega
theorem pick_ok {s : List Int} {k : Nat} (h : k < s.length) (c : ¬ isLow s k = true) : pick s k ∈ (lft s k).filter fun y => decide (lowAt s k < y) := by
  have hne : (lft s k).filter (fun y => decide (lowAt s k < y)) ≠ [] := by
    intro e
    have h0 : (lft s k).countP (fun y => decide (lowAt s k < y)) = 0 := by rw [List.countP_eq_length_filter, e]; rfl
    have h1 := lft_count s (fun y => decide (lowAt s k < y)) k
    rw [h0, (srt_perm (nonl s)).countP_eq] at h1
    have h2 : cN s (k + 1) ≤ (nonl s).countP (fun y => decide (lowAt s k < y)) := by
      unfold nonl cN
      rw [List.countP_map, List.countP_eq_length_filter, List.filter_filter]
      have : List.range s.length = List.range (k + 1) ++ (List.range' (k + 1) (s.length - (k + 1))) := by
        rw [List.range_eq_range', List.range_eq_range']
        have := List.range'_append_1 (s := 0) (m := k + 1) (n := s.length - (k + 1))
        rw [show k + 1 + (s.length - (k + 1)) = s.length by omega, Nat.zero_add] at this
        exact this.symm
      rw [this, List.filter_append, List.length_append]
      refine Nat.le_trans ?_ (Nat.le_add_right _ _)
      refine Nat.le_of_eq ?_
      congr 1
      refine List.filter_congr fun j hj => ?_
      have hj' := List.mem_range.mp hj
      by_cases d : isLow s j = true
      · simp [d]
      · have d' : isLow s j = false := by simpa using d
        obtain ⟨g1, g2⟩ := low_lt (s := s) (by omega : j < s.length) d
        have := lowAt_anti (s := s) g1 (show j ≤ k by omega) (by omega)
        simp [Function.comp, d', show lowAt s k < s.getD j 0 by omega]
        have : lowAt s k < s.getD j 0 := by omega
        simpa [List.getD_eq_getElem?_getD] using this
    rw [cN_succ, if_neg c] at h2
    omega
  unfold pick
  cases e : (lft s k).filter (fun y => decide (lowAt s k < y)) with
  | nil => exact absurd e hne
  | cons y r => simp
theorem lft_len (s : List Int) : ∀ k, k ≤ s.length → (lft s k).length + cN s k = (srt (nonl s)).length
  | 0, _ => by simp [lft, cN]
  | k + 1, h => by
    have ih := lft_len s k (by omega)
    rw [lft, cN_succ]
    by_cases c : isLow s k = true
    · rw [if_pos c, if_pos c]; omega
    · rw [if_neg c, if_neg c]
      have hm := (List.mem_filter.mp (pick_ok (s := s) (by omega) c)).1
      have := List.length_erase_of_mem hm
      have hp : 0 < (lft s k).length := List.length_pos_of_mem hm
      unfold pick at this
      omega
theorem flat_nV (t : List Nat) : (t.map nV).all flatV = true := by rw [nV_ints]; exact flat_ints _
theorem inV_low {s : List Int} {k : Nat} (h : k < s.length) : inV (.int (k : Int)) ((lowsN s).map nV) = isLow s k := by
  rw [nV_ints, inV_ints]
  by_cases c : isLow s k = true
  · rw [c]
    exact decide_eq_true (List.mem_map.mpr ⟨k, List.mem_filter.mpr ⟨List.mem_range.mpr h, c⟩, rfl⟩)
  · rw [show isLow s k = false by simpa using c]
    refine decide_eq_false fun z => c ?_
    obtain ⟨j, hj, e⟩ := List.mem_map.mp z
    have : j = k := by omega
    subst this
    exact (List.mem_filter.mp hj).2
theorem last_snd {bs : List (Addr × List Int)} {f : Nat → List Int} {i : Nat} (e : bs.map Prod.snd = (List.range (i + 1)).map f) : ∃ r b, bs = r ++ [b] ∧ b.2 = f i := by
  have hl : bs.length = i + 1 := by have := congrArg List.length e; simpa using this
  have h0 : bs ≠ [] := fun z => by rw [z] at hl; simp at hl
  refine ⟨bs.dropLast, bs.getLast h0, (List.dropLast_concat_getLast _).symm, ?_⟩
  rw [← List.dropLast_concat_getLast h0, List.map_append, List.range_succ, List.map_append] at e
  have e2 := List.append_inj_right' e (by simp)
  simpa using e2
theorem snd_at {bs : List (Addr × List Int)} {f : Nat → List Int} {n i : Nat} (e : bs.map Prod.snd = (List.range n).map f) (h : i < n) : ∃ b, bs[i]? = some b ∧ b ∈ bs ∧ b.2 = f i := by
  have hl : bs.length = n := by have := congrArg List.length e; simpa using this
  have hi : bs[i]? = some (bs[i]'(by omega)) := List.getElem?_eq_getElem _
  refine ⟨_, hi, List.mem_of_getElem? hi, ?_⟩
  have := congrArg (fun l : List (List Int) => l[i]?) e
  simp only [List.getElem?_map, hi, List.getElem?_range h] at this
  exact Option.some.inj this
theorem pick_first {s : List Int} {k : Nat} (h : k < s.length) (c : ¬ isLow s k = true) : ∃ j, (lft s k)[j]? = some (pick s k) ∧ (∀ m, m < j → (lft s k)[m]? ≠ some (pick s k)) ∧ (lft s k).eraseIdx j = lft s (k + 1) := by
  have hm := (List.mem_filter.mp (pick_ok h c)).1
  refine ⟨(lft s k).idxOf (pick s k), idxOf_at hm, fun m hlt e => idxOf_min hlt e rfl, ?_⟩
  rw [lft, if_neg c]
  show _ = (lft s k).erase (pick s k)
  rw [List.erase_eq_eraseIdx_of_idxOf rfl]
end Sh

set_option Elab.async false
set_option linter.all false
set_option maxRecDepth 100000
set_option maxHeartbeats 4000000
/-! M16: orders of three as patterns; what comes out of a pile: plain Lean. -/
namespace Sh
open PySem PySem.Spec PyProof.Rows L2
/-! ### an order of three stands nowhere -/
theorem fits_three {s o : List Int} (hs : s.Nodup) (ho : o.Nodup) (hl : o.length = 3) {i j k : Nat} (h1 : i < j) (h2 : j < k) (h3 : k < s.length) : fitsB s o [i, j, k] = true ↔ P2 s o [i] j = true ∧ P2 s o [i, j] k = true := by
  have f1 : fitsB s o [i] = true := by
    have := fits_step hs ho (t := []) (p := i) (by simp; omega) (by simp) (by omega) (fits_nil s o)
    rw [show ([] : List Nat) ++ [i] = [i] from rfl] at this
    rw [this]
    simp [P2, lowL, dueL]
  have f2 : fitsB s o [i, j] = P2 s o [i] j := fits_step hs ho (t := [i]) (p := j) (by simp; omega) (by simp; omega) (by omega) f1
  constructor
  · intro h
    have g : fitsB s o [i, j] = true := fits_pre (t := [i, j]) (p := k) (by simp; omega) h
    have f3 := fits_step hs ho (t := [i, j]) (p := k) (by simp; omega) (by simp; omega) (by omega) g
    exact ⟨by rw [← f2]; exact g, by rw [← f3]; exact h⟩
  · rintro ⟨g1, g2⟩
    have f3 := fits_step hs ho (t := [i, j]) (p := k) (by simp; omega) (by simp; omega) (by omega) (by rw [f2]; exact g1)
    exact f3.trans g2
theorem av_iff {s o : List Int} (hs : s.Nodup) (ho : o.Nodup) (hl : o.length = 3) : placesL s o = [] ↔ ∀ i j k, i < j → j < k → k < s.length → ¬ (P2 s o [i] j = true ∧ P2 s o [i, j] k = true) := by
  unfold placesL
  rw [List.filter_eq_nil_iff]
  constructor
  · intro h i j k h1 h2 h3 hp
    refine h [i, j, k] (mem_tupsN.mpr ⟨by rw [hl]; rfl, ?_, fun x hx => ?_⟩) ((fits_three hs ho hl h1 h2 h3).mpr hp)
    · simp; omega
    · simp at hx; omega
  · intro h t ht hf
    obtain ⟨g1, g2, g3⟩ := mem_tupsN.mp ht
    rw [hl] at g1
    match t, g1 with
    | [i, j, k], _ =>
      simp at g2
      have := g3 k (by simp)
      exact h i j k (by omega) (by omega) this ((fits_three hs ho hl (by omega) (by omega) this).mp hf)
theorem av201 {s : List Int} (hs : s.Nodup) : placesL s [2, 0, 1] = [] ↔ ∀ i j k, i < j → j < k → k < s.length → ¬ (s.getD j 0 < s.getD k 0 ∧ s.getD k 0 < s.getD i 0) := by
  rw [av_iff hs (by decide) rfl]
  refine forall_congr' fun i => forall_congr' fun j => forall_congr' fun k => ?_
  refine forall_congr' fun h1 => forall_congr' fun h2 => forall_congr' fun h3 => ?_
  have n1 : s.getD i 0 ≠ s.getD j 0 := fun e => by have := nodup_getD hs (by omega) (by omega) e; omega
  have n2 : s.getD i 0 ≠ s.getD k 0 := fun e => by have := nodup_getD hs (by omega) (by omega) e; omega
  rw [P2_one, P2_two]
  simp only [show ([2, 0, 1] : List Int).getD 0 0 = 2 from rfl, show ([2, 0, 1] : List Int).getD 1 0 = 0 from rfl, show ([2, 0, 1] : List Int).getD 2 0 = 1 from rfl]
  rw [decide_eq_decide, decide_eq_decide, decide_eq_decide]
  omega
theorem av012 {s : List Int} (hs : s.Nodup) : placesL s [0, 1, 2] = [] ↔ ∀ i j k, i < j → j < k → k < s.length → ¬ (s.getD i 0 < s.getD j 0 ∧ s.getD j 0 < s.getD k 0) := by
  rw [av_iff hs (by decide) rfl]
  refine forall_congr' fun i => forall_congr' fun j => forall_congr' fun k => ?_
  refine forall_congr' fun h1 => forall_congr' fun h2 => forall_congr' fun h3 => ?_
  rw [P2_one, P2_two]
  simp only [show ([0, 1, 2] : List Int).getD 0 0 = 0 from rfl, show ([0, 1, 2] : List Int).getD 1 0 = 1 from rfl, show ([0, 1, 2] : List Int).getD 2 0 = 2 from rfl]
  rw [decide_eq_decide, decide_eq_decide, decide_eq_decide]
  omega
theorem av021 {s : List Int} (hs : s.Nodup) : placesL s [0, 2, 1] = [] ↔ ∀ i j k, i < j → j < k → k < s.length → ¬ (s.getD i 0 < s.getD k 0 ∧ s.getD k 0 < s.getD j 0) := by
  rw [av_iff hs (by decide) rfl]
  refine forall_congr' fun i => forall_congr' fun j => forall_congr' fun k => ?_
  refine forall_congr' fun h1 => forall_congr' fun h2 => forall_congr' fun h3 => ?_
  have n1 : s.getD j 0 ≠ s.getD k 0 := fun e => by have := nodup_getD hs (by omega) (by omega) e; omega
  rw [P2_one, P2_two]
  simp only [show ([0, 2, 1] : List Int).getD 0 0 = 0 from rfl, show ([0, 2, 1] : List Int).getD 1 0 = 2 from rfl, show ([0, 2, 1] : List Int).getD 2 0 = 1 from rfl]
  rw [decide_eq_decide, decide_eq_decide, decide_eq_decide]
  omega
theorem av_cnt {s o : List Int} : placesL s o = [] ↔ cnt s o = 0 := by
  unfold cnt; exact List.length_eq_zero_iff.symm
/-! ### out of a pile -/
def av201N : List Nat → Prop
  | [] => True
  | w :: ws => ws.Pairwise (fun a b => a < w → b < w → b < a) ∧ av201N ws
theorem av201N_of : ∀ {l : List Nat}, l.Nodup → (∀ i j k, i < j → j < k → k < l.length → ¬ (l.getD j 0 < l.getD k 0 ∧ l.getD k 0 < l.getD i 0)) → av201N l
  | [], _, _ => trivial
  | w :: ws, hn, h => by
    have hn' := List.nodup_cons.mp hn
    refine ⟨?_, av201N_of hn'.2 fun i j k h1 h2 h3 => ?_⟩
    · rw [List.pairwise_iff_getElem]
      intro i j hi hj hij ha hb
      have h1 := h 0 (i + 1) (j + 1) (by omega) (by omega) (by simp; omega)
      simp only [List.getD_eq_getElem?_getD, List.getElem?_cons_succ, List.getElem?_cons_zero, List.getElem?_eq_getElem hi, List.getElem?_eq_getElem hj, Option.getD_some] at h1
      have h2 : ws[i] ≠ ws[j] := fun e => by
        have := (List.pairwise_iff_getElem.mp hn'.2) i j hi hj hij
        exact this e
      omega
    · have := h (i + 1) (j + 1) (k + 1) (by omega) (by omega) (by simp; omega)
      simpa [List.getD_eq_getElem?_getD] using this
theorem of_av201N : ∀ {l : List Nat}, av201N l → ∀ i j k, i < j → j < k → k < l.length → ¬ (l.getD j 0 < l.getD k 0 ∧ l.getD k 0 < l.getD i 0)
  | [], _, i, j, k, _, _, h => by simp at h
  | w :: ws, h, i, j, k, h1, h2, h3 => by
    obtain ⟨j', rfl⟩ : ∃ j', j = j' + 1 := ⟨j - 1, by omega⟩
    obtain ⟨k', rfl⟩ : ∃ k', k = k' + 1 := ⟨k - 1, by omega⟩
    rw [List.length_cons] at h3
    cases i with
    | zero =>
      have := (List.pairwise_iff_getElem.mp h.1) j' k' (by omega) (by omega) (by omega)
      simp only [List.getD_eq_getElem?_getD, List.getElem?_cons_succ, List.getElem?_cons_zero, List.getElem?_eq_getElem (show j' < ws.length by omega), List.getElem?_eq_getElem (show k' < ws.length by omega), Option.getD_some]
      omega
    | succ i =>
      have := of_av201N h.2 i j' k' (by omega) (by omega) (by omega)
      simpa [List.getD_eq_getElem?_getD] using this
theorem Wy_zero {h : Nat} : Wy 0 (h + 1) = 0 := rfl
theorem Wy_succ (l h : Nat) : Wy (l + 1) h = Wy l (h + 1) + if 0 < h then Wy l (h - 1) else 0 := rfl
theorem pl_first : ∀ (l : Nat) (P : List Nat) (x t m : Nat), m < Wy l (P.length + 1) → x < t → ∃ w ws, pl l (x :: P) t m = w :: ws ∧ x ≤ w
  | 0, P, x, t, m, h, _ => by rw [Wy_zero] at h; omega
  | l + 1, P, x, t, m, h, hx => by
    by_cases c : m < Wy l ((x :: P).length + 1)
    · rw [pl_push c]
      obtain ⟨w, ws, e, hw⟩ := pl_first l (x :: P) t (t + 1) m c (by omega)
      exact ⟨w, ws, e, by omega⟩
    · rw [pl_pop c]
      exact ⟨x, _, rfl, Nat.le_refl _⟩
theorem pop_lt {l m x : Nat} {P : List Nat} (h : m < Wy (l + 1) (x :: P).length) (c : ¬ m < Wy l ((x :: P).length + 1)) : m - Wy l ((x :: P).length + 1) < Wy l P.length := by
  rw [Wy_succ, if_pos (by simp)] at h
  rw [List.length_cons] at h c ⊢
  rw [Nat.add_sub_cancel] at h
  omega
theorem pop_nil {l m : Nat} (h : m < Wy (l + 1) ([] : List Nat).length) : m < Wy l (([] : List Nat).length + 1) := by
  rw [Wy_succ, if_neg (by simp)] at h
  exact h
theorem pn_pl : ∀ (l : Nat) (P : List Nat) (t m : Nat), m < Wy l P.length → (∀ x ∈ P, x < t) → pn l P.length t (pl l P t m) = m
  | 0, P, t, m, h, _ => by
    cases P with
    | nil => simp [Wy] at h; rw [pn]; omega
    | cons x P => rw [List.length_cons, Wy_zero] at h; omega
  | l + 1, P, t, m, h, hP => by
    by_cases c : m < Wy l (P.length + 1)
    · rw [pl_push c]
      obtain ⟨w, ws, e, hw⟩ := pl_first l P t (t + 1) m c (by omega)
      have ih := pn_pl l (t :: P) (t + 1) m c (fun x hx => by
        rcases List.mem_cons.mp hx with z | z
        · omega
        · have := hP x z; omega)
      rw [e] at ih ⊢
      rw [pn, if_pos hw]
      exact ih
    · cases P with
      | nil => exact absurd (pop_nil h) c
      | cons x P' =>
        rw [pl_pop c]
        have hx := hP x (by simp)
        have ih := pn_pl l P' t _ (pop_lt h c) fun y hy => hP y (by simp [hy])
        rw [pn, if_neg (by omega), show (x :: P').length - 1 = P'.length by simp, ih]
        omega
theorem pl_filter : ∀ (l : Nat) (P : List Nat) (t m : Nat), m < Wy l P.length → (∀ x ∈ P, x < t) → (pl l P t m).filter (fun x => decide (x < t)) = P
  | 0, P, t, m, h, _ => by
    cases P with
    | nil => rfl
    | cons x P => rw [List.length_cons, Wy_zero] at h; omega
  | l + 1, P, t, m, h, hP => by
    by_cases c : m < Wy l (P.length + 1)
    · rw [pl_push c]
      have ih := pl_filter l (t :: P) (t + 1) m c (fun x hx => by
        rcases List.mem_cons.mp hx with z | z
        · omega
        · have := hP x z; omega)
      have e : (pl l (t :: P) (t + 1) m).filter (fun x => decide (x < t)) = ((pl l (t :: P) (t + 1) m).filter (fun x => decide (x < t + 1))).filter (fun x => decide (x < t)) := by
        rw [List.filter_filter]
        refine List.filter_congr fun x _ => ?_
        by_cases z : x < t
        · simp [z, show x < t + 1 by omega]
        · simp [z]
      rw [e, ih, List.filter_cons_of_neg (by simp)]
      exact List.filter_eq_self.mpr fun x hx => by simpa using hP x hx
    · cases P with
      | nil => exact absurd (pop_nil h) c
      | cons x P' =>
        rw [pl_pop c, List.filter_cons_of_pos (by simpa using hP x (by simp)), pl_filter l P' t _ (pop_lt h c) fun y hy => hP y (by simp [hy])]
theorem pl_perm : ∀ (l : Nat) (P : List Nat) (t m : Nat), m < Wy l P.length → ∃ p, l = P.length + 2 * p ∧ (pl l P t m).Perm (P ++ (List.range p).map fun i => t + i)
  | 0, P, t, m, h => by
    cases P with
    | nil => exact ⟨0, rfl, List.Perm.refl _⟩
    | cons x P => rw [List.length_cons, Wy_zero] at h; omega
  | l + 1, P, t, m, h => by
    by_cases c : m < Wy l (P.length + 1)
    · rw [pl_push c]
      obtain ⟨p, e, pm⟩ := pl_perm l (t :: P) (t + 1) m c
      refine ⟨p + 1, by rw [List.length_cons] at e; omega, pm.trans ?_⟩
      rw [List.range_succ_eq_map, List.map_cons, List.map_map, List.cons_append]
      have e2 : (List.range p).map ((fun i => t + i) ∘ Nat.succ) = (List.range p).map fun i => t + 1 + i := List.map_congr_left fun i _ => by simp [Function.comp]; omega
      rw [e2, Nat.add_zero]
      exact (List.perm_middle (l₁ := P)).symm
    · cases P with
      | nil => exact absurd (pop_nil h) c
      | cons x P' =>
        rw [pl_pop c]
        obtain ⟨p, e, pm⟩ := pl_perm l P' t _ (pop_lt h c)
        exact ⟨p, by rw [List.length_cons]; omega, pm.cons x⟩
theorem pl_av : ∀ (l : Nat) (P : List Nat) (t m : Nat), m < Wy l P.length → (∀ x ∈ P, x < t) → P.Pairwise (fun a b => b < a) → av201N (pl l P t m)
  | 0, P, t, m, h, _, _ => trivial
  | l + 1, P, t, m, h, hP, hd => by
    by_cases c : m < Wy l (P.length + 1)
    · rw [pl_push c]
      exact pl_av l (t :: P) (t + 1) m c (fun x hx => by
        rcases List.mem_cons.mp hx with z | z
        · omega
        · have := hP x z; omega) (List.pairwise_cons.mpr ⟨fun x hx => hP x hx, hd⟩)
    · cases P with
      | nil => exact absurd (pop_nil h) c
      | cons x P' =>
        have hd' := List.pairwise_cons.mp hd
        have hP' : ∀ y ∈ P', y < t := fun y hy => hP y (by simp [hy])
        have hx := hP x (by simp)
        have hm := pop_lt h c
        rw [pl_pop c]
        refine ⟨?_, pl_av l P' t _ hm hP' hd'.2⟩
        have hf := pl_filter l P' t _ hm hP'
        generalize pl l P' t (m - Wy l ((x :: P').length + 1)) = o' at hf ⊢
        have hp2 : (o'.filter fun y => decide (y < t)).Pairwise (fun a b => b < a) := by rw [hf]; exact hd'.2
        have := List.pairwise_filter.mp hp2
        exact this.imp fun {a b} h1 h2 h3 => h1 (by simp; omega) (by simp; omega)
theorem desc_eq {l m : List Nat} (p : l.Perm m) (h1 : l.Pairwise (fun a b => b < a)) (h2 : m.Pairwise (fun a b => b < a)) : l = m :=
  p.eq_of_pairwise (fun a b _ _ h h' => by omega) h1 h2
theorem pl_pn (n : Nat) : ∀ (l : Nat) (P : List Nat) (t : Nat) (ws : List Nat), ws.Nodup → av201N ws → ws.filter (fun x => decide (x < t)) = P → P.Pairwise (fun a b => b < a) → (∀ x ∈ ws, x < n) → (∀ x, t ≤ x → x < n → x ∈ ws) → l = ws.length + (n - t) → t ≤ n →
    pn l P.length t ws < Wy l P.length ∧ pl l P t (pn l P.length t ws) = ws
  | 0, P, t, ws, _, _, hf, _, _, _, hl, _ => by
    have : ws = [] := List.length_eq_zero_iff.mp (by omega)
    subst this
    have : P = [] := by rw [← hf]; rfl
    subst this
    exact ⟨by simp [pn, Wy], rfl⟩
  | l + 1, P, t, [], _, _, _, _, _, ha, hl, ht => by
    exfalso
    have := ha t (Nat.le_refl _) (by simp at hl; omega)
    simp at this
  | l + 1, P, t, w :: ws, hn, hav, hf, hd, hb, ha, hl, ht => by
    have hw := hb w (by simp)
    by_cases c : t ≤ w
    · have hPt : ∀ x ∈ P, x < t := fun x hx => by
        rw [← hf] at hx
        simpa using (List.mem_filter.mp hx).2
      have htn : t < n := by omega
      have hdt : (t :: P).Pairwise (fun a b => b < a) := List.pairwise_cons.mpr ⟨fun x hx => hPt x hx, hd⟩
      have hf2 : (w :: ws).filter (fun x => decide (x < t + 1)) = t :: P := by
        refine desc_eq ?_ ?_ hdt
        · -- the same numbers
          refine (List.perm_ext_iff_of_nodup (List.Nodup.sublist List.filter_sublist hn) (hdt.imp fun h e => by omega)).mpr fun x => ?_
          rw [← hf]
          simp only [List.mem_filter, List.mem_cons, decide_eq_true_eq]
          constructor
          · rintro ⟨h1, h2⟩
            by_cases e : x = t
            · exact .inl e
            · exact .inr ⟨h1, by omega⟩
          · rintro (h | ⟨h1, h2⟩)
            · subst h
              have := ha x (Nat.le_refl _) htn
              exact ⟨List.mem_cons.mp this, by omega⟩
            · exact ⟨h1, by omega⟩
        · -- falling
          by_cases e : w = t
          · subst e
            rw [List.filter_cons_of_pos (by simp)]
            refine List.pairwise_cons.mpr ⟨fun x hx => ?_, ?_⟩
            · have h1 := List.mem_filter.mp hx
              have h2 : x ≠ w := fun z => (List.nodup_cons.mp hn).1 (z ▸ h1.1)
              have := h1.2
              simp at this; omega
            · refine List.pairwise_filter.mpr (List.Pairwise.imp_of_mem (fun {a b} hma hmb h => ?_) hav.1)
              intro h1 h2
              have n1 : a ≠ w := fun z => (List.nodup_cons.mp hn).1 (z ▸ hma)
              have n2 : b ≠ w := fun z => (List.nodup_cons.mp hn).1 (z ▸ hmb)
              simp at h1 h2
              exact h (by omega) (by omega)
          · rw [List.filter_cons_of_neg (by simp; omega)]
            refine List.pairwise_filter.mpr (hav.1.imp fun {a b} h h1 h2 => ?_)
            simp at h1 h2
            exact h (by omega) (by omega)
      have ih := pl_pn n l (t :: P) (t + 1) (w :: ws) hn hav hf2 hdt hb (fun x h1 h2 => ha x (by omega) h2) (by omega) (by omega)
      rw [pn, if_pos c]
      have e : (t :: P).length = P.length + 1 := rfl
      rw [e] at ih
      refine ⟨?_, ?_⟩
      · rw [Wy_succ]; omega
      · rw [pl_push ih.1]; exact ih.2
    · have hwt : w < t := by omega
      rw [List.filter_cons_of_pos (by simpa using hwt)] at hf
      subst hf
      have hd' := List.pairwise_cons.mp hd
      have ih := pl_pn n l _ t ws (List.nodup_cons.mp hn).2 hav.2 rfl hd'.2 (fun x hx => hb x (by simp [hx])) (fun x h1 h2 => by
        rcases List.mem_cons.mp (ha x h1 h2) with z | z
        · omega
        · exact z) (by rw [List.length_cons] at hl; omega) ht
      rw [pn, if_neg c, List.length_cons, Nat.add_sub_cancel]
      refine ⟨?_, ?_⟩
      · rw [Wy_succ, if_pos (by omega), Nat.add_sub_cancel]; omega
      · rw [pl_pop (by rw [List.length_cons]; omega), List.length_cons, Nat.add_sub_cancel_left, ih.2]
/-! ### shapes out of a pile -/
theorem nI_toNat (t : List Nat) : (nI t).map Int.toNat = t := by
  unfold nI
  rw [List.map_map]
  conv => rhs; rw [← List.map_id t]
  exact List.map_congr_left fun i _ => by simp [Function.comp]
theorem nI_of {s : List Int} (h : ∀ x ∈ s, 0 ≤ x) : nI (s.map Int.toNat) = s := by
  unfold nI
  rw [List.map_map]
  conv => rhs; rw [← List.map_id s]
  refine List.map_congr_left fun x hx => ?_
  have := h x hx
  simp only [Function.comp, id]
  omega
theorem nI_getD (t : List Nat) (i : Nat) : (nI t).getD i 0 = ((t.getD i 0 : Nat) : Int) := by
  unfold nI
  simp only [List.getD_eq_getElem?_getD, List.getElem?_map]
  cases t[i]? <;> rfl
theorem nI_nodup {t : List Nat} (h : t.Nodup) : (nI t).Nodup := nodup_map h fun a _ b _ e => by omega
theorem av_nI {t : List Nat} (h : t.Nodup) : placesL (nI t) [2, 0, 1] = [] ↔ av201N t := by
  rw [av201 (nI_nodup h)]
  have hl : (nI t).length = t.length := by simp [nI]
  constructor
  · intro g
    refine av201N_of h fun i j k h1 h2 h3 z => g i j k h1 h2 (by omega) ?_
    simp only [nI_getD]
    omega
  · intro g i j k h1 h2 h3 z
    simp only [nI_getD] at z
    exact of_av201N g i j k h1 h2 (by omega) (by omega)
theorem pile_facts {n m : Nat} (hn : n ≤ 30) (hm : m < Wy (2 * n) 0) : shapeOk (pileL n m) ∧ (pileL n m).length = n ∧ placesL (pileL n m) [2, 0, 1] = [] ∧ pnum (pileL n m) = m := by
  obtain ⟨p, e, pm⟩ := pl_perm (2 * n) [] 0 m hm
  have ep : p = n := by simp at e; omega
  subst ep
  have pm' : (pl (2 * p) [] 0 m).Perm (List.range p) := by
    refine pm.trans ?_
    rw [List.nil_append]
    have : (List.range p).map (fun i => 0 + i) = List.range p := by
      conv => rhs; rw [← List.map_id (List.range p)]
      exact List.map_congr_left fun i _ => by simp
    rw [this]
  have hl : (pileL p m).length = p := by
    have := pm'.length_eq
    simp only [pileL, nI, List.length_map]
    simpa using this
  have hs : (pileL p m).Perm (rangeI p) := by
    have := pm'.map (fun i : Nat => (i : Int))
    exact this
  refine ⟨⟨by omega, by rw [hl]; exact hs⟩, hl, ?_, ?_⟩
  · exact (av_nI (pm'.nodup_iff.mpr List.nodup_range)).mpr (pl_av (2 * p) [] 0 m hm (by simp) (by simp))
  · unfold pnum
    rw [hl]
    unfold pileL
    rw [nI_toNat]
    exact pn_pl (2 * p) [] 0 m hm (by simp)
theorem pile_back {s : List Int} (h : shapeOk s) (hav : placesL s [2, 0, 1] = []) : pnum s < Wy (2 * s.length) 0 ∧ pileL s.length (pnum s) = s := by
  have hp : ∀ x ∈ s, 0 ≤ x := fun x hx => ((shapeOk_mem h).mp hx).1
  have e := nI_of hp
  have nd : (s.map Int.toNat).Nodup := nodup_map (shapeOk_row h).2 fun a ha b hb z => by
    have := hp a ha
    have := hp b hb
    omega
  have hav' : av201N (s.map Int.toNat) := (av_nI nd).mp (by rw [e]; exact hav)
  have := pl_pn s.length (2 * s.length) [] 0 (s.map Int.toNat) nd hav' (List.filter_eq_nil_iff.mpr fun x _ => by simp) (by simp) (fun x hx => by
    obtain ⟨y, hy, rfl⟩ := List.mem_map.mp hx
    have := (shapeOk_mem h).mp hy
    omega) (fun x _ hx => List.mem_map.mpr ⟨(x : Int), (shapeOk_mem h).mpr ⟨by omega, by omega⟩, by simp⟩) (by rw [List.length_map]; omega) (by omega)
  refine ⟨this.1, ?_⟩
  unfold pileL pnum
  rw [show ([] : List Nat).length = 0 from rfl] at this
  rw [this.2, e]
end Sh

set_option Elab.async false
set_option linter.all false
set_option maxRecDepth 100000
set_option maxHeartbeats 4000000
/-! M17: rows filled above their lows: plain Lean. -/
namespace Sh
open PySem PySem.Spec PyProof.Rows L2
theorem non_count {s : List Int} {k : Nat} (h : k < s.length) : cN s (k + 1) ≤ (srt (nonl s)).countP (fun y => decide (lowAt s (k + 1) < y)) := by
  rw [(srt_perm (nonl s)).countP_eq]
  unfold nonl cN
  rw [List.countP_map, List.countP_eq_length_filter, List.filter_filter]
  have : List.range s.length = List.range (k + 1) ++ (List.range' (k + 1) (s.length - (k + 1))) := by
    rw [List.range_eq_range', List.range_eq_range']
    have := List.range'_append_1 (s := 0) (m := k + 1) (n := s.length - (k + 1))
    rw [show k + 1 + (s.length - (k + 1)) = s.length by omega, Nat.zero_add] at this
    exact this.symm
  rw [this, List.filter_append, List.length_append]
  refine Nat.le_trans ?_ (Nat.le_add_right _ _)
  refine Nat.le_of_eq ?_
  congr 1
  refine List.filter_congr fun j hj => ?_
  have hj' := List.mem_range.mp hj
  by_cases d : isLow s j = true
  · simp [d]
  · have d' : isLow s j = false := by simpa using d
    obtain ⟨g1, g2⟩ := low_lt (s := s) (by omega : j < s.length) d
    have := lowAt_anti (s := s) g1 (show j ≤ k + 1 by omega) (by omega)
    have : lowAt s (k + 1) < s.getD j 0 := by omega
    simp [Function.comp, d']
    simpa [List.getD_eq_getElem?_getD] using this
/-! ### the same lows -/
structure SameLow (s q : List Int) : Prop where
  len : q.length = s.length
  low : ∀ k, k < s.length → isLow q k = isLow s k
  val : ∀ k, k < s.length → isLow s k = true → q.getD k 0 = s.getD k 0
theorem mem_take_get {s : List Int} {k : Nat} {y : Int} (h : y ∈ s.take k) : ∃ i, i < k ∧ i < s.length ∧ s.getD i 0 = y := by
  obtain ⟨i, hi⟩ := List.mem_iff_getElem?.mp h
  have hlt : i < (s.take k).length := (List.getElem?_eq_some_iff.mp hi).1
  rw [List.length_take] at hlt
  rw [List.getElem?_take_of_lt (by omega)] at hi
  exact ⟨i, by omega, by omega, by rw [List.getD_eq_getElem?_getD, hi]; rfl⟩
theorem get_mem_take {s : List Int} {i k : Nat} (h : i < k) (hs : i < s.length) : s.getD i 0 ∈ s.take k := by
  refine List.mem_iff_getElem?.mpr ⟨i, ?_⟩
  rw [List.getElem?_take_of_lt h, getD_at hs]
theorem low_le {s : List Int} {i k : Nat} (hk : k ≤ s.length) (h : i < k) : lowAt s k ≤ s.getD i 0 := by
  obtain ⟨k', rfl⟩ : ∃ k', k = k' + 1 := ⟨k - 1, by omega⟩
  exact (lowAt_min (s := s) k' (by omega)).2 _ (get_mem_take h (by omega))
theorem low_at {s : List Int} {k : Nat} (h0 : 0 < k) (hk : k ≤ s.length) : ∃ i, i < k ∧ s.getD i 0 = lowAt s k := by
  obtain ⟨k', rfl⟩ : ∃ k', k = k' + 1 := ⟨k - 1, by omega⟩
  obtain ⟨i, h1, _, h3⟩ := mem_take_get (lowAt_min (s := s) k' (by omega)).1
  exact ⟨i, h1, h3⟩
theorem sameLow_of {s q : List Int} (hl : q.length = s.length) (h1 : ∀ k, k < s.length → isLow s k = true → q.getD k 0 = s.getD k 0) (h2 : ∀ k, k < s.length → ¬ isLow s k = true → lowAt s k < q.getD k 0) : SameLow s q := by
  -- the least of q's first numbers is the least of s's
  have key : ∀ k, k < s.length → (∀ y ∈ q.take (k + 1), lowAt s (k + 1) ≤ y) ∧ lowAt s (k + 1) ∈ q.take (k + 1) := by
    intro k
    induction k with
    | zero =>
      intro hk
      have c : isLow s 0 = true := Classical.byContradiction fun z => absurd (low_lt hk z).1 (by omega)
      rw [lowAt, if_pos c]
      have e := h1 0 hk c
      refine ⟨fun y hy => ?_, ?_⟩
      · rcases (take_succ_mem (s := q) (by omega)).mp hy with z | z
        · simp at z
        · omega
      · exact (take_succ_mem (s := q) (by omega)).mpr (.inr e.symm)
    | succ k ih =>
      intro hk
      obtain ⟨g1, g2⟩ := ih (by omega)
      by_cases c : isLow s (k + 1) = true
      · have e := h1 (k + 1) hk c
        have lt : lowAt s (k + 2) = s.getD (k + 1) 0 := by rw [lowAt, if_pos c]
        have hle : s.getD (k + 1) 0 ≤ lowAt s (k + 1) := isLow_iff.mp c _ ((take_succ_mem hk).mpr (.inl (lowAt_min (s := s) k (by omega)).1))
        rw [lt]
        refine ⟨fun y hy => ?_, (take_succ_mem (s := q) (by omega)).mpr (.inr e.symm)⟩
        rcases (take_succ_mem (s := q) (by omega)).mp hy with z | z
        · have := g1 y z; omega
        · omega
      · have lt : lowAt s (k + 2) = lowAt s (k + 1) := by rw [lowAt, if_neg c]
        have := h2 (k + 1) hk c
        rw [lt]
        refine ⟨fun y hy => ?_, (take_succ_mem (s := q) (by omega)).mpr (.inl g2)⟩
        rcases (take_succ_mem (s := q) (by omega)).mp hy with z | z
        · exact g1 y z
        · omega
  refine ⟨hl, fun k hk => ?_, h1⟩
  by_cases c : isLow s k = true
  · rw [c]
    refine isLow_iff.mpr fun y hy => ?_
    have := (key k hk).1 y hy
    rw [lowAt, if_pos c] at this
    rw [h1 k hk c]
    exact this
  · rw [show isLow s k = false by simpa using c, Bool.eq_false_iff]
    intro z
    obtain ⟨g1, g2⟩ := low_lt hk c
    obtain ⟨k', rfl⟩ : ∃ k', k = k' + 1 := ⟨k - 1, by omega⟩
    have h3 := (key k' (by omega)).2
    have := isLow_iff.mp z _ ((take_succ_mem (s := q) (by omega)).mpr (.inl h3))
    have := h2 _ hk c
    omega
theorem sorted_above {S : List Int} (hs : S.Pairwise (· ≤ ·)) {i : Nat} (hi : i < S.length) {x : Int} (h : S.getD i 0 ≤ x) : S.countP (fun y => decide (x < y)) ≤ S.length - 1 - i := by
  conv => lhs; rw [← List.take_append_drop (i + 1) S]
  rw [List.countP_append]
  have e : (S.take (i + 1)).countP (fun y => decide (x < y)) = 0 := List.countP_eq_zero.mpr fun y hy => by
    obtain ⟨j, h1, h2, rfl⟩ := mem_take_get hy
    have : S.getD j 0 ≤ S.getD i 0 := by
      by_cases e : j = i
      · rw [e]; exact Int.le_refl _
      · have := (List.pairwise_iff_getElem.mp hs) j i h2 hi (by omega)
        simpa [List.getD_eq_getElem?_getD, h2, hi] using this
    intro z
    have := of_decide_eq_true z
    omega
  have := List.countP_le_length (p := fun y => decide (x < y)) (l := S.drop (i + 1))
  rw [List.length_drop] at this
  omega
theorem fillT_get {s : List Int} {k : Nat} (h : k < s.length) : (fillT s).getD k 0 = if isLow s k = true then s.getD k 0 else (srt (nonl s)).getD ((srt (nonl s)).length - 1 - cN s k) 0 := getD_mapN h 0
theorem fillU_get {s : List Int} {k : Nat} (h : k < s.length) : (fillU s).getD k 0 = if isLow s k = true then s.getD k 0 else pick s k := getD_mapN h 0
theorem S_len (s : List Int) : (srt (nonl s)).length = cN s s.length := by rw [(srt_perm _).length_eq, nonl_len]
theorem cN_lt {s : List Int} {k : Nat} (h : k < s.length) (c : ¬ isLow s k = true) : cN s k < cN s s.length := by
  have h1 := cN_mono s (show k + 1 ≤ s.length by omega)
  have h2 := cN_succ s k
  rw [if_neg c] at h2
  omega
theorem fillT_low (s : List Int) : SameLow s (fillT s) := by
  refine sameLow_of (fillT_len s) (fun k hk c => by rw [fillT_get hk, if_pos c]) (fun k hk c => ?_)
  rw [fillT_get hk, if_neg c]
  have hc := cN_lt hk c
  have sl := S_len s
  by_cases d : lowAt s k < (srt (nonl s)).getD ((srt (nonl s)).length - 1 - cN s k) 0
  · exact d
  · exfalso
    have h1 := sorted_above (srt_sorted (nonl s)) (i := (srt (nonl s)).length - 1 - cN s k) (by omega) (x := lowAt s k) (by omega)
    have h2 := non_count hk
    rw [cN_succ, if_neg c, lowAt, if_neg c] at h2
    omega
theorem fillU_low (s : List Int) : SameLow s (fillU s) := by
  refine sameLow_of (fillU_len s) (fun k hk c => by rw [fillU_get hk, if_pos c]) (fun k hk c => ?_)
  rw [fillU_get hk, if_neg c]
  simpa using (List.mem_filter.mp (pick_ok hk c)).2
/-! ### the same numbers -/
theorem nonl_of {s q : List Int} (h : SameLow s q) : nonl q = ((List.range s.length).filter fun k => !isLow s k).map fun k => q.getD k 0 := by
  unfold nonl
  rw [h.len]
  congr 1
  exact List.filter_congr fun k hk => by rw [h.low k (List.mem_range.mp hk)]
theorem fillT_nonl (s : List Int) : nonl (fillT s) = (srt (nonl s)).reverse := by
  rw [nonl_of (fillT_low s)]
  have sl := S_len s
  have key : ∀ i, i ≤ s.length → ((List.range i).filter fun k => !isLow s k).map (fun k => (fillT s).getD k 0) = (srt (nonl s)).reverse.take (cN s i) := by
    intro i
    induction i with
    | zero => intro _; simp [cN]
    | succ i ih =>
      intro hi
      rw [List.range_succ, List.filter_append, List.map_append, ih (by omega), cN_succ]
      by_cases c : isLow s i = true
      · rw [if_pos c, List.filter_cons_of_neg (by simp [c])]; simp
      · have hc := cN_lt (s := s) (k := i) (by omega) c
        rw [if_neg c, List.filter_cons_of_pos (by simpa using c)]
        have e : (srt (nonl s)).reverse[cN s i]? = some ((fillT s).getD i 0) := by
          rw [rev_at' (by omega), fillT_get (by omega), if_neg c, getD_at (by omega)]
        rw [take_more e]; rfl
  rw [key s.length (Nat.le_refl _), List.take_of_length_le (by rw [List.length_reverse]; omega)]
where rev_at' {α : Type} {l : List α} {k : Nat} (h : k < l.length) : l.reverse[k]? = l[l.length - 1 - k]? := by rw [List.getElem?_reverse h]
theorem fillU_part (s : List Int) : ∀ i, i ≤ s.length → (((List.range i).filter fun k => !isLow s k).map (fun k => (fillU s).getD k 0) ++ lft s i).Perm (srt (nonl s)) := by
  intro i
  induction i with
  | zero => intro _; exact List.Perm.refl _
  | succ i ih =>
    intro hi
    have ih' := ih (by omega)
    rw [List.range_succ, List.filter_append, List.map_append]
    by_cases c : isLow s i = true
    · rw [List.filter_cons_of_neg (by simp [c]), lft, if_pos c]; simpa using ih'
    · rw [List.filter_cons_of_pos (by simpa using c), lft, if_neg c]
      have hm := (List.mem_filter.mp (pick_ok (s := s) (by omega : i < s.length) c)).1
      refine List.Perm.trans ?_ ih'
      rw [List.append_assoc]
      refine List.Perm.append_left _ ?_
      show ([(fillU s).getD i 0] ++ (lft s i).erase (pick s i)).Perm (lft s i)
      rw [fillU_get (by omega), if_neg c]
      exact (List.perm_cons_erase hm).symm
theorem lft_end (s : List Int) : lft s s.length = [] := by
  have h1 := lft_len s s.length (Nat.le_refl _)
  have h2 := S_len s
  exact List.length_eq_zero_iff.mp (by omega)
theorem fillU_nonl (s : List Int) : (nonl (fillU s)).Perm (nonl s) := by
  rw [nonl_of (fillU_low s)]
  have := fillU_part s s.length (Nat.le_refl _)
  rw [lft_end, List.append_nil] at this
  exact this.trans (srt_perm _)
theorem split_low (s q : List Int) (h : q.length = s.length) : (((List.range s.length).filter fun k => isLow s k).map (fun k => q.getD k 0) ++ ((List.range s.length).filter fun k => !isLow s k).map (fun k => q.getD k 0)).Perm q := by
  rw [← List.map_append]
  refine ((List.filter_append_perm (isLow s) (List.range s.length)).map _).trans ?_
  rw [← h, map_getD]
theorem fill_perm {s q : List Int} (h : SameLow s q) (p : (nonl q).Perm (nonl s)) : q.Perm s := by
  refine (split_low s q h.len).symm.trans (List.Perm.trans ?_ (split_low s s rfl))
  rw [nonl_of h] at p
  have e : ((List.range s.length).filter fun k => isLow s k).map (fun k => q.getD k 0) = ((List.range s.length).filter fun k => isLow s k).map (fun k => s.getD k 0) :=
    List.map_congr_left fun k hk => by
      have := List.mem_filter.mp hk
      exact h.val k (List.mem_range.mp this.1) this.2
  rw [e]
  exact p.append_left _
theorem fillT_perm (s : List Int) : (fillT s).Perm s := fill_perm (fillT_low s) (by rw [fillT_nonl]; exact (List.reverse_perm _).trans (srt_perm _))
theorem fillU_perm (s : List Int) : (fillU s).Perm s := fill_perm (fillU_low s) (fillU_nonl s)
theorem fillT_shape {s : List Int} (h : shapeOk s) : shapeOk (fillT s) := ⟨by rw [fillT_len]; exact h.1, by rw [fillT_len]; exact (fillT_perm s).trans h.2⟩
theorem fillU_shape {s : List Int} (h : shapeOk s) : shapeOk (fillU s) := ⟨by rw [fillU_len]; exact h.1, by rw [fillU_len]; exact (fillU_perm s).trans h.2⟩
/-! ### a filling hangs on the lows alone -/
section
variable {s q : List Int}
theorem cN_same (h : SameLow s q) : ∀ k, k ≤ s.length → cN q k = cN s k := by
  intro k hk
  unfold cN
  congr 1
  exact List.filter_congr fun j hj => by rw [h.low j (by have := List.mem_range.mp hj; omega)]
theorem lowAt_same (h : SameLow s q) : ∀ k, k ≤ s.length → lowAt q k = lowAt s k
  | 0, _ => rfl
  | k + 1, hk => by
    rw [lowAt, lowAt, h.low k (by omega), lowAt_same h k (by omega)]
    by_cases c : isLow s k = true
    · rw [if_pos c, if_pos c, h.val k (by omega) c]
    · rw [if_neg c, if_neg c]
theorem S_same (p : (nonl q).Perm (nonl s)) : srt (nonl q) = srt (nonl s) := srt_of ((srt_perm _).trans p) (srt_sorted _)
theorem lft_same (h : SameLow s q) (p : (nonl q).Perm (nonl s)) : ∀ k, k ≤ s.length → lft q k = lft s k
  | 0, _ => S_same p
  | k + 1, hk => by
    rw [lft, lft, h.low k (by omega), lft_same h p k (by omega), lowAt_same h k (by omega)]
theorem fillT_same (h : SameLow s q) (p : (nonl q).Perm (nonl s)) : fillT q = fillT s := by
  refine list_ext_getD (by rw [fillT_len, fillT_len, h.len]) fun k hk => ?_
  rw [fillT_len, h.len] at hk
  rw [fillT_get (by rw [h.len]; exact hk), fillT_get hk, h.low k hk, S_same p, cN_same h k (by omega)]
  by_cases c : isLow s k = true
  · rw [if_pos c, if_pos c, h.val k hk c]
  · rw [if_neg c, if_neg c]
theorem fillU_same (h : SameLow s q) (p : (nonl q).Perm (nonl s)) : fillU q = fillU s := by
  refine list_ext_getD (by rw [fillU_len, fillU_len, h.len]) fun k hk => ?_
  rw [fillU_len, h.len] at hk
  rw [fillU_get (by rw [h.len]; exact hk), fillU_get hk, h.low k hk]
  unfold pick
  rw [lft_same h p k (by omega), lowAt_same h k (by omega)]
  by_cases c : isLow s k = true
  · rw [if_pos c, if_pos c, h.val k hk c]
  · rw [if_neg c, if_neg c]
end
/-! ### what stands nowhere in a filling -/
theorem not_low {s : List Int} {i j : Nat} (hj : j < s.length) (hij : i < j) (h : s.getD i 0 < s.getD j 0) : ¬ isLow s j = true := fun c => by
  have := isLow_iff.mp c _ (get_mem_take (s := s) (i := i) (k := j + 1) (by omega) (by omega))
  omega
theorem sorted_le {S : List Int} (hs : S.Pairwise (· ≤ ·)) {i j : Nat} (hij : i ≤ j) (hj : j < S.length) : S.getD i 0 ≤ S.getD j 0 := by
  by_cases e : i = j
  · rw [e]; exact Int.le_refl _
  · have := (List.pairwise_iff_getElem.mp hs) i j (by omega) hj (by omega)
    simpa [List.getD_eq_getElem?_getD, hj, show i < S.length by omega] using this
theorem fillT_av {s : List Int} (hs : s.Nodup) : placesL (fillT s) [0, 1, 2] = [] := by
  have L := fillT_low s
  refine (av012 ((fillT_perm s).nodup_iff.mpr hs)).mpr fun i j k h1 h2 h3 ⟨z1, z2⟩ => ?_
  rw [fillT_len] at h3
  have cj := not_low (s := fillT s) (by rw [fillT_len]; omega) h1 z1
  have ck := not_low (s := fillT s) (by rw [fillT_len]; omega) h2 z2
  rw [L.low j (by omega)] at cj
  rw [L.low k h3] at ck
  rw [fillT_get (by omega), fillT_get h3, if_neg cj, if_neg ck] at z2
  have c1 := cN_lt h3 ck
  have c2 := cN_mono s (show j + 1 ≤ k by omega)
  rw [cN_succ, if_neg cj] at c2
  have sl := S_len s
  have := sorted_le (srt_sorted (nonl s)) (i := (srt (nonl s)).length - 1 - cN s k) (j := (srt (nonl s)).length - 1 - cN s j) (by omega) (by omega)
  omega
theorem lft_sorted (s : List Int) : ∀ k, (lft s k).Pairwise (· ≤ ·)
  | 0 => srt_sorted _
  | k + 1 => by
    rw [lft]
    split
    · exact lft_sorted s k
    · exact (lft_sorted s k).sublist List.erase_sublist
theorem lft_sub (s : List Int) {j k : Nat} (h : j ≤ k) {y : Int} (hy : y ∈ lft s k) : y ∈ lft s j := by
  induction k with
  | zero => have : j = 0 := by omega
            subst this; exact hy
  | succ k ih =>
    by_cases e : j = k + 1
    · subst e; exact hy
    · refine ih (by omega) ?_
      rw [lft] at hy
      split at hy
      · exact hy
      · exact List.mem_of_mem_erase hy
theorem head_least {l : List Int} (h : l.Pairwise (· ≤ ·)) {y : Int} (hy : y ∈ l) : l.headD 0 ≤ y := by
  cases l with
  | nil => simp at hy
  | cons a r =>
    rcases List.mem_cons.mp hy with z | z
    · rw [z]; exact Int.le_refl _
    · exact (List.pairwise_cons.mp h).1 y z
theorem pick_least {s : List Int} {k : Nat} {y : Int} (hy : y ∈ lft s k) (h : lowAt s k < y) : pick s k ≤ y :=
  head_least ((lft_sorted s k).sublist List.filter_sublist) (List.mem_filter.mpr ⟨hy, by simpa using h⟩)
theorem fillU_av {s : List Int} (hs : s.Nodup) : placesL (fillU s) [0, 2, 1] = [] := by
  have L := fillU_low s
  refine (av021 ((fillU_perm s).nodup_iff.mpr hs)).mpr fun i j k h1 h2 h3 ⟨z1, z2⟩ => ?_
  rw [fillU_len] at h3
  have cj := not_low (s := fillU s) (by rw [fillU_len]; omega) h1 (by omega)
  have ck := not_low (s := fillU s) (by rw [fillU_len]; omega) (show i < k by omega) z1
  rw [L.low j (by omega)] at cj
  rw [L.low k h3] at ck
  have hl := low_le (s := fillU s) (i := i) (k := j) (by rw [fillU_len]; omega) h1
  rw [lowAt_same L j (by omega)] at hl
  have ek := fillU_get h3
  have ej := fillU_get (s := s) (k := j) (by omega)
  rw [if_neg ck] at ek
  rw [if_neg cj] at ej
  have hm := lft_sub s (show j ≤ k by omega) (List.mem_filter.mp (pick_ok h3 ck)).1
  have := pick_least hm (by omega)
  omega
/-! ### there and back -/
theorem nonl_at {s : List Int} {k : Nat} (h : k < s.length) (c : ¬ isLow s k = true) : (nonl s)[cN s k]? = some (s.getD k 0) := by
  unfold nonl
  have e : List.range s.length = List.range k ++ (k :: List.range' (k + 1) (s.length - (k + 1))) := by
    rw [List.range_eq_range', List.range_eq_range']
    have := List.range'_append_1 (s := 0) (m := k) (n := s.length - k)
    rw [show k + (s.length - k) = s.length by omega, Nat.zero_add] at this
    rw [← this, show s.length - k = (s.length - (k + 1)) + 1 by omega, List.range'_succ]
  rw [e, List.filter_append, List.filter_cons_of_pos (by simpa using c), List.map_append, List.map_cons]
  have l : ((List.range k).filter fun j => !isLow s j).length = cN s k := rfl
  rw [List.getElem?_append_right (by rw [List.length_map]; omega), List.length_map, l, Nat.sub_self]
  rfl
theorem fillT_self {s : List Int} (hs : s.Nodup) (h : placesL s [0, 1, 2] = []) : fillT s = s := by
  have hav := (av012 hs).mp h
  have pw : (nonl s).Pairwise (fun a b => b ≤ a) := by
    unfold nonl
    rw [List.pairwise_map, List.pairwise_filter]
    refine List.Pairwise.imp_of_mem (fun {a b} ha hb hab h1 h2 => ?_) List.pairwise_lt_range
    have ha' := List.mem_range.mp ha
    have hb' := List.mem_range.mp hb
    have c1 : ¬ isLow s a = true := by simpa using h1
    obtain ⟨g1, g2⟩ := low_lt ha' c1
    obtain ⟨i, h3, h4⟩ := low_at g1 (by omega : a ≤ s.length)
    have := hav i a b h3 hab hb'
    omega
  have eS : srt (nonl s) = (nonl s).reverse := (srt_of (List.reverse_perm _) (List.pairwise_reverse.mpr pw)).symm
  refine list_ext_getD (fillT_len s) fun k hk => ?_
  rw [fillT_len] at hk
  rw [fillT_get hk]
  by_cases c : isLow s k = true
  · rw [if_pos c]
  · rw [if_neg c, eS, List.length_reverse]
    have hc := cN_lt hk c
    have nl := nonl_len s
    have := nonl_at hk c
    rw [List.getD_eq_getElem?_getD, List.getElem?_reverse (by omega), show (nonl s).length - 1 - ((nonl s).length - 1 - cN s k) = cN s k by omega, this]
    rfl
theorem fillU_self {s : List Int} (hs : s.Nodup) (h : placesL s [0, 2, 1] = []) : fillU s = s := by
  have hav := (av021 hs).mp h
  -- what is left at place i: the others from there on
  have key : ∀ i, i ≤ s.length → (lft s i).Perm (((List.range' i (s.length - i)).filter fun k => !isLow s k).map fun k => s.getD k 0) ∧ ∀ k, k < i → ¬ isLow s k = true → pick s k = s.getD k 0 := by
    intro i
    induction i with
    | zero =>
      intro _
      refine ⟨?_, fun k hk => by omega⟩
      rw [lft, Nat.sub_zero, ← List.range_eq_range']
      exact srt_perm _
    | succ i ih =>
      intro hi
      obtain ⟨pm, pk⟩ := ih (by omega)
      have er : List.range' i (s.length - i) = i :: List.range' (i + 1) (s.length - (i + 1)) := by
        rw [show s.length - i = (s.length - (i + 1)) + 1 by omega, List.range'_succ]
      rw [er] at pm
      by_cases c : isLow s i = true
      · rw [List.filter_cons_of_neg (by simp [c])] at pm
        rw [lft, if_pos c]
        refine ⟨pm, fun k hk hc => ?_⟩
        by_cases e : k = i
        · subst e; exact absurd c hc
        · exact pk k (by omega) hc
      · rw [List.filter_cons_of_pos (by simpa using c), List.map_cons] at pm
        obtain ⟨g1, g2⟩ := low_lt (s := s) (by omega : i < s.length) c
        obtain ⟨i0, h3, h4⟩ := low_at g1 (by omega : i ≤ s.length)
        have e1 : pick s i = s.getD i 0 := by
          have hle := pick_least (s := s) (k := i) (pm.mem_iff.mpr (by simp)) g2
          have hm := List.mem_filter.mp (pick_ok (s := s) (by omega : i < s.length) c)
          have hlow : lowAt s i < pick s i := by simpa using hm.2
          rcases List.mem_cons.mp (pm.mem_iff.mp hm.1) with z | z
          · exact z
          · obtain ⟨k, hk, ek⟩ := List.mem_map.mp z
            have hk' := List.mem_range'_1.mp (List.mem_filter.mp hk).1
            have := hav i0 i k h3 (by omega) (by omega)
            omega
        refine ⟨?_, fun k hk hc => ?_⟩
        · rw [lft, if_neg c]
          show ((lft s i).erase (pick s i)).Perm _
          rw [e1]
          have := pm.erase (s.getD i 0)
          rw [List.erase_cons_head] at this
          exact this
        · by_cases e : k = i
          · subst e; exact e1
          · exact pk k (by omega) hc
  refine list_ext_getD (fillU_len s) fun k hk => ?_
  rw [fillU_len] at hk
  rw [fillU_get hk]
  by_cases c : isLow s k = true
  · rw [if_pos c]
  · rw [if_neg c]
    exact (key s.length (Nat.le_refl _)).2 k hk c
theorem fillU_T {s : List Int} (hs : s.Nodup) (h : placesL s [0, 2, 1] = []) : fillU (fillT s) = s := by
  rw [fillU_same (fillT_low s) (by rw [fillT_nonl]; exact (List.reverse_perm _).trans (srt_perm _))]
  exact fillU_self hs h
theorem fillT_U {s : List Int} (hs : s.Nodup) (h : placesL s [0, 1, 2] = []) : fillT (fillU s) = s := by
  rw [fillT_same (fillU_low s) (fillU_nonl s)]
  exact fillT_self hs h
end Sh

set_option Elab.async false
set_option linter.all false
set_option maxRecDepth 100000
set_option maxHeartbeats 4000000
/-! M18: what is made has its number, and what has it is made: plain Lean. -/
namespace Sh
open PySem PySem.Spec PyProof.Rows L2
theorem contrary_reverse (l : List Int) : contraryL l.reverse = (contraryL l).reverse := by
  unfold contraryL
  rw [List.length_reverse, List.map_reverse]
theorem numOk_of {s : List Int} (h : shapeOk s) : numOk s := ⟨h, fillU_shape h, fillU_shape (contrary_shape h)⟩
theorem av_back {s o : List Int} (ho : shapeOk o) : placesL s.reverse o.reverse = [] ↔ placesL s o = [] := by
  rw [av_cnt, av_cnt, cnt_back ho]
theorem av_contrary {s o : List Int} (hs : shapeOk s) (ho : shapeOk o) : placesL (contraryL s) (contraryL o) = [] ↔ placesL s o = [] := by
  rw [av_cnt, av_cnt, cnt_contrary hs ho]
def bends : List (List Int) := [[0, 2, 1], [1, 0, 2], [1, 2, 0], [2, 0, 1]]
theorem three_cases {o : List Int} (h : o ∈ threes) : o ∈ bends ∨ o = RISE ∨ o = FALL := by
  revert o; decide
theorem bend_ne {o : List Int} (h : o ∈ bends) : o ≠ RISE ∧ o ≠ FALL := by
  revert o; decide
theorem turn_turn (s : List Int) {o : List Int} (h : o ∈ bends) : turnL (turnL s o) o = s := by
  have hb : o = [0, 2, 1] ∨ o = [1, 0, 2] ∨ o = [1, 2, 0] ∨ o = [2, 0, 1] := by simpa [bends] using h
  rcases hb with rfl | rfl | rfl | rfl
  · simp [turnL, contrary_back]
  · simp [turnL]
  · simp [turnL, contrary_reverse, contrary_back]
  · simp [turnL]
theorem av_turn {s o : List Int} (hs : shapeOk s) (h : o ∈ bends) : placesL (turnL s o) o = [] ↔ placesL s [2, 0, 1] = [] := by
  have ok : shapeOk [2, 0, 1] := by decide
  have ok2 : shapeOk [1, 0, 2] := by decide
  have e1 := av_back (s := s) ok
  rw [show ([2, 0, 1] : List Int).reverse = [1, 0, 2] from rfl] at e1
  have hb : o = [0, 2, 1] ∨ o = [1, 0, 2] ∨ o = [1, 2, 0] ∨ o = [2, 0, 1] := by simpa [bends] using h
  rcases hb with rfl | rfl | rfl | rfl
  · have e := av_contrary hs ok
    rw [show contraryL [2, 0, 1] = [0, 2, 1] from rfl] at e
    simpa [turnL] using e
  · simpa [turnL] using e1
  · have e := av_contrary (reverse_shape hs) ok2
    rw [show contraryL [1, 0, 2] = [1, 2, 0] from rfl] at e
    rw [e1] at e
    simpa [turnL] using e
  · simp [turnL]
theorem av_turn' {s o : List Int} (hs : shapeOk s) (h : o ∈ bends) : placesL (turnL s o) [2, 0, 1] = [] ↔ placesL s o = [] := by
  have := av_turn (turn_shape hs o) h
  rw [turn_turn s h] at this
  exact this.symm
theorem rise_fall {s : List Int} (hs : shapeOk s) : placesL (contraryL s) FALL = [] ↔ placesL s RISE = [] := by
  have e := av_contrary hs (show shapeOk RISE by decide)
  rw [show contraryL RISE = FALL from rfl] at e
  exact e
theorem fall_rise {s : List Int} (hs : shapeOk s) : placesL (contraryL s) RISE = [] ↔ placesL s FALL = [] := by
  have e := av_contrary hs (show shapeOk FALL by decide)
  rw [show contraryL FALL = RISE from rfl] at e
  exact e
/-- what is made of a number -/
theorem made_ok {n m : Nat} {o : List Int} (hn : n ≤ 30) (ho : o ∈ threes) (hm : m < Wy (2 * n) 0) : shapeOk (madeL n o m) ∧ (madeL n o m).length = n ∧ placesL (madeL n o m) o = [] ∧ numL (madeL n o m) o = m := by
  obtain ⟨p1, p2, p3, p4⟩ := pile_facts hn hm
  have b021 : ([0, 2, 1] : List Int) ∈ bends := by decide
  have q1 := turn_shape p1 [0, 2, 1]
  have q2 := (av_turn p1 b021).mpr p3
  have q3 := turnL_len (pileL n m) [0, 2, 1]
  have nd := (shapeOk_row q1).2
  have fs := fillT_shape q1
  have fl := fillT_len (turnL (pileL n m) [0, 2, 1])
  have fa := fillT_av nd
  have fb := fillU_T nd q2
  have fn : pnum (turnL (turnL (pileL n m) [0, 2, 1]) [0, 2, 1]) = m := by rw [turn_turn _ b021, p4]
  rcases three_cases ho with h | rfl | rfl
  · have hne := bend_ne h
    unfold madeL numL
    rw [if_pos hne, if_pos hne]
    refine ⟨turn_shape p1 o, by rw [turnL_len, p2], (av_turn p1 h).mpr p3, by rw [turn_turn _ h, p4]⟩
  · unfold madeL numL
    rw [if_neg (by decide), if_neg (by decide), if_neg (by decide), if_neg (by decide)]
    refine ⟨fs, by omega, fa, ?_⟩
    rw [fb, fn]
  · unfold madeL numL
    rw [if_neg (by decide), if_pos rfl, if_neg (by decide), if_pos rfl]
    have ec : (fillT (turnL (pileL n m) [0, 2, 1])).map (fun x => (n : Int) - 1 - x) = contraryL (fillT (turnL (pileL n m) [0, 2, 1])) := by
      unfold contraryL; rw [fl, q3, p2]
    rw [ec]
    refine ⟨contrary_shape fs, by rw [contrary_len]; omega, (rise_fall fs).mpr fa, ?_⟩
    rw [contrary_back, fb, fn]
/-- what has a number is made of it -/
theorem num_ok {s o : List Int} (hs : shapeOk s) (ho : o ∈ threes) (h : placesL s o = []) : numL s o < Wy (2 * s.length) 0 ∧ madeL s.length o (numL s o) = s := by
  have b021 : ([0, 2, 1] : List Int) ∈ bends := by decide
  have rise : ∀ {s : List Int}, shapeOk s → placesL s RISE = [] → pnum (turnL (fillU s) [0, 2, 1]) < Wy (2 * s.length) 0 ∧ fillT (turnL (pileL s.length (pnum (turnL (fillU s) [0, 2, 1]))) [0, 2, 1]) = s := fun {s} hs h => by
    have us := fillU_shape hs
    have ua := fillU_av (shapeOk_row hs).2
    have ul : (turnL (fillU s) [0, 2, 1]).length = s.length := by rw [turnL_len, fillU_len]
    obtain ⟨k1, k2⟩ := pile_back (turn_shape us [0, 2, 1]) ((av_turn' us b021).mpr ua)
    rw [ul] at k1 k2
    refine ⟨k1, ?_⟩
    rw [k2, turn_turn _ b021]
    exact fillT_U (shapeOk_row hs).2 h
  rcases three_cases ho with hb | rfl | rfl
  · have hne := bend_ne hb
    obtain ⟨k1, k2⟩ := pile_back (turn_shape hs o) ((av_turn' hs hb).mpr h)
    rw [turnL_len] at k1 k2
    unfold numL madeL
    rw [if_pos hne, if_pos hne]
    exact ⟨k1, by rw [k2, turn_turn _ hb]⟩
  · obtain ⟨k1, k2⟩ := rise hs h
    unfold numL madeL
    rw [if_neg (by decide), if_neg (by decide), if_neg (by decide), if_neg (by decide)]
    exact ⟨k1, k2⟩
  · obtain ⟨k1, k2⟩ := rise (contrary_shape hs) ((fall_rise hs).mpr h)
    rw [contrary_len] at k1 k2
    unfold numL madeL
    rw [if_neg (by decide), if_pos rfl, if_neg (by decide), if_pos rfl]
    refine ⟨k1, ?_⟩
    rw [k2]
    have := contrary_back s
    unfold contraryL at this ⊢
    rw [List.length_map] at this
    exact this
/-! ### how many there are -/
def catN : Nat → List Nat
  | 0 => [1]
  | n + 1 => catN n ++ [((List.range (n + 1)).map fun j => (catN n).getD j 0 * (catN n).getD (n - j) 0).sum]
def wayL (n : Nat) : Nat → List Nat
  | 0 => 1 :: List.replicate n 0
  | l + 1 => let r := wayL n l; (List.range (n + 1)).map fun h => r.getD (h + 1) 0 + if 0 < h then r.getD (h - 1) 0 else 0
theorem wayL_get (n : Nat) : ∀ l h, h + l ≤ n → (wayL n l).getD h 0 = Wy l h
  | 0, h, hh => by
    cases h with
    | zero => rfl
    | succ h =>
      rw [wayL, Wy, if_neg (by omega)]
      simp only [List.getD_eq_getElem?_getD, List.getElem?_cons_succ, List.getElem?_replicate]
      split <;> rfl
  | l + 1, h, hh => by
    rw [wayL, getD_mapN (by omega), wayL_get n l (h + 1) (by omega), Wy]
    congr 1
    split
    · rw [wayL_get n l (h - 1) (by omega)]
    · rfl
theorem cat_way : ∀ n, n ≤ 20 → (wayL 40 (2 * n)).getD 0 0 = (catN n).getD n 0 := by decide +kernel
theorem Wy_cat {n : Nat} (h : n ≤ 20) : Wy (2 * n) 0 = (catN n).getD n 0 := by
  rw [← cat_way n h, wayL_get 40 (2 * n) 0 (by omega)]
theorem Wy_pos : ∀ n, n ≤ 20 → 0 < (catN n).getD n 0 := by decide +kernel
theorem catN_len : ∀ n, (catN n).length = n + 1
  | 0 => rfl
  | n + 1 => by rw [catN, List.length_append, catN_len n]; rfl
theorem cat_small : ∀ n, n ≤ 20 → (catN n).getD n 0 < 2 ^ 60 := by decide +kernel
end Sh

set_option Elab.async false
set_option linter.all false
set_option maxRecDepth 100000
set_option maxHeartbeats 4000000
/-! M20: written lists of lists, and which is picked; what is no row, no shape. -/
namespace Sh
open PySem PySem.Spec PyProof.Rows L2
/-- lists of ints written so far, each at its own place -/
structure Tr (H0 H : Hp) (ps : List (Addr × List Int)) : Prop where
  sm : Same H0 H
  at_ : ∀ b ∈ ps, H b.1 = some (.lst (b.2.map V.int))
theorem Tr.start (H : Hp) : Tr H H [] := ⟨Same.refl H, fun _ h => nomatch h⟩
theorem Tr.on {H0 H H' : Hp} {ps : List (Addr × List Int)} (t : Tr H0 H ps) (s : Same H H') : Tr H0 H' ps := ⟨t.sm.trans s, fun b hb => s _ _ (t.at_ b hb)⟩
theorem Tr.more {H0 H : Hp} {ps : List (Addr × List Int)} {p : Addr} {o : HO} (t : Tr H0 H ps) (n : H p = none) : Tr H0 (upd H p o) ps := t.on (same_new n)
theorem Tr.add {H0 H : Hp} {ps : List (Addr × List Int)} {p : Addr} {vs : List V} (t : Tr H0 H ps) (n : H p = none) (xs : List Int) (e : vs = xs.map V.int := by rfl) : Tr H0 (upd H p (.lst vs)) (ps ++ [(p, xs)]) := by
  subst e
  refine ⟨t.sm.trans (same_new n), fun b hb => ?_⟩
  rcases List.mem_append.mp hb with h | h
  · exact (t.more n).at_ b h
  · obtain rfl : b = (p, xs) := by simpa using h
    exact upd_same
theorem pick_of {ps : List (Addr × List Int)} {m : Int} (n : Nat) (P : List Int → Prop) (h0 : 0 ≤ m) (h1 : m < n) (hn : ps.length = n) (hP : ∀ xs ∈ ps.map Prod.snd, P xs) : ∃ b ∈ ps, P b.2 ∧ atI (ps.map fun b => V.ref b.1) m = some (V.ref b.1) := by
  obtain ⟨j, rfl⟩ : ∃ j : Nat, m = (j : Int) := ⟨m.toNat, by omega⟩
  have hj : j < ps.length := by omega
  refine ⟨ps[j], List.getElem_mem _, hP _ (List.mem_map_of_mem (List.getElem_mem _)), atI_nat ?_⟩
  rw [List.getElem?_map, List.getElem?_eq_getElem hj]
  rfl
theorem notShape {ns : List Int} {x : Int} (h : x ∈ ns) (o : ¬ (0 ≤ x ∧ x < ns.length)) : ¬ shapeOk ns := fun z => o ((shapeOk_mem z).mp h)
theorem rangeI_shape {n : Nat} (h : n ≤ 30) : shapeOk (rangeI n) := ⟨by rw [rangeI_len]; exact h, by rw [rangeI_len]⟩
theorem rangeI_row {n : Nat} (h : n ≤ 30) : rowOk (rangeI n) := shapeOk_row (rangeI_shape h)
theorem row_long {ns : List Int} (h : 30 < ns.length) : ¬ rowOk ns := fun z => by have := z.1; omega
theorem shape_long {ns : List Int} (h : 30 < ns.length) : ¬ shapeOk ns := fun z => by have := z.1; omega
theorem row_three (far : Int) : ¬ rowOk [far, 1, far] := fun z => by have := z.2; simp at this
end Sh

set_option Elab.async false
set_option linter.all false
set_option maxRecDepth 100000
set_option maxHeartbeats 4000000
/-! M7: exchanged and back, and what becomes of the wrong pairs: plain Lean. -/
namespace Sh
open PySem PySem.Spec PyProof.Rows L2
def good (b : Int → Bool) (p : List Int) : Prop := ∃ u z, p = u ++ [z] ∧ b z = true ∧ ∀ y ∈ u, b y = false
theorem pfold_run (b : Int → Bool) : ∀ (u : List Int), (∀ y ∈ u, b y = false) → ∀ s : List (List Int) × List Int, u.foldl (pstep b) s = (s.1, s.2 ++ u)
  | [], _, s => by simp
  | y :: u, h, s => by
    have hy : pstep b s y = (s.1, s.2 ++ [y]) := by
      unfold pstep; rw [if_neg]; rw [h y (by simp)]; simp
    rw [List.foldl_cons, hy, pfold_run b u (fun z hz => h z (by simp [hz]))]
    simp
theorem foldl_good (b : Int → Bool) : ∀ (ps : List (List Int)), (∀ p ∈ ps, good b p) → ∀ s, ps.flatten.foldl (pstep b) (s, []) = (s ++ ps, [])
  | [], _, s => by simp
  | p :: ps, h, s => by
    obtain ⟨u, z, rfl, hz, hu⟩ := h p (by simp)
    rw [List.flatten_cons, List.foldl_append, List.foldl_append, pfold_run b u hu]
    have e : List.foldl (pstep b) (s, [] ++ u) [z] = (s ++ [u ++ [z]], []) := by
      simp [pstep, hz]
    rw [show ((s, ([] : List Int)).1, (s, ([] : List Int)).2 ++ u) = (s, [] ++ u) from rfl, e, foldl_good b ps (fun q hq => h q (by simp [hq]))]
    simp
theorem pfold_of_good {b : Int → Bool} {ps : List (List Int)} (h : ∀ p ∈ ps, good b p) : pfold b ps.flatten = (ps, []) := by
  unfold pfold
  rw [foldl_good b ps h]
  simp
theorem pfold_good (b : Int → Bool) : ∀ l : List Int, (∀ p ∈ (pfold b l).1, good b p) ∧ ∀ y ∈ (pfold b l).2, b y = false := by
  refine snoc_ind ?_ ?_
  · exact ⟨fun p hp => by simp [pfold] at hp, fun y hy => by simp [pfold] at hy⟩
  · intro l x ih
    rw [pfold_snoc]
    unfold pstep
    by_cases hb : b x = true
    · rw [if_pos hb]
      refine ⟨fun p hp => ?_, fun y hy => by simp at hy⟩
      rcases List.mem_append.mp hp with z | z
      · exact ih.1 p z
      · have e : p = (pfold b l).2 ++ [x] := by simpa using z
        exact ⟨_, x, e, hb, ih.2⟩
    · rw [if_neg hb]
      refine ⟨ih.1, fun y hy => ?_⟩
      rcases List.mem_append.mp hy with z | z
      · exact ih.2 y z
      · have e : y = x := by simpa using z
        rw [e]; simpa using hb
theorem parted_spec {row : List Int} {x : Int} (h : 0 < row.length) : (partedL row x).flatten = row ∧ ∀ p ∈ partedL row x, good (sideOf row x) p := by
  refine ⟨?_, (pfold_good (sideOf row x) row).1⟩
  obtain ⟨r, z, rfl⟩ : ∃ r z, row = r ++ [z] := ⟨row.dropLast, row.getLast (by intro e; simp [e] at h), (List.dropLast_concat_getLast _).symm⟩
  have hz : sideOf (r ++ [z]) x z = true := by unfold sideOf; rw [List.getLastD_concat]; simp
  have e := pfold_flat (sideOf (r ++ [z]) x) (r ++ [z])
  have e2 : (pfold (sideOf (r ++ [z]) x) (r ++ [z])).2 = [] := by
    rw [pfold_snoc]; unfold pstep; rw [if_pos hz]
  rw [e2, List.append_nil] at e
  exact e
theorem rotR_snoc (u : List Int) (z : Int) : rotR (u ++ [z]) = z :: u := by
  unfold rotR
  simp
theorem rotL_cons (u : List Int) (z : Int) : rotL (z :: u) = u ++ [z] := by
  unfold rotL
  simp
theorem rotR_perm (p : List Int) : (rotR p).Perm p := by
  unfold rotR
  refine List.perm_append_comm.trans ?_
  rw [List.take_append_drop]
def bkRow (row : List Int) (x : Int) : List Int := if 0 < row.length then ((partedL row.reverse x).reverse.map fun p => rotL p.reverse).flatten else []
theorem side_of {row row' : List Int} {x : Int} (h : sideOf row x (row'.getLastD 0) = true) : sideOf row' x = sideOf row x := by
  funext y
  unfold sideOf at h ⊢
  have h' := of_decide_eq_true h
  rw [h']
theorem exRow_bk {row : List Int} {x : Int} (h : 0 < row.length) : bkRow (exRow row x) x = row := by
  obtain ⟨hf, hg⟩ := parted_spec (x := x) h
  have el : (exRow row x).length = row.length := by
    unfold exRow; rw [if_pos h, flat_map_len _ rotR_len, hf]
  have ee : exRow row x = ((partedL row x).map rotR).flatten := by unfold exRow; rw [if_pos h]
  have hr : (exRow row x).reverse = (((partedL row x).map rotR).map List.reverse).reverse.flatten := by
    rw [ee, List.reverse_flatten]
  have hs : sideOf (exRow row x).reverse x = sideOf row x := by
    apply side_of
    rw [ee]
    cases hp : partedL row x with
    | nil => rw [hp] at hf; rw [← hf] at h; simp at h
    | cons p ps =>
      obtain ⟨u, z, rfl, hz, _⟩ := hg p (by rw [hp]; simp)
      rw [List.map_cons, rotR_snoc, List.flatten_cons]
      have : ((z :: u) ++ (ps.map rotR).flatten).reverse = (u ++ (ps.map rotR).flatten).reverse ++ [z] := by simp
      rw [this, List.getLastD_concat]
      exact hz
  have hq : ∀ q ∈ (((partedL row x).map rotR).map List.reverse).reverse, good (sideOf row x) q := by
    intro q hq
    rw [List.mem_reverse, List.map_map] at hq
    obtain ⟨p, hp, rfl⟩ := List.mem_map.mp hq
    obtain ⟨u, z, rfl, hz, hu⟩ := hg p hp
    refine ⟨u.reverse, z, ?_, hz, fun y hy => hu y (List.mem_reverse.mp hy)⟩
    simp only [Function.comp, rotR_snoc, List.reverse_cons]
  have hP : partedL (exRow row x).reverse x = (((partedL row x).map rotR).map List.reverse).reverse := by
    show (pfold (sideOf (exRow row x).reverse x) (exRow row x).reverse).1 = _
    rw [hs, hr, pfold_of_good hq]
  unfold bkRow
  rw [if_pos (by omega), hP, List.reverse_reverse, List.map_map, List.map_map]
  conv => rhs; rw [← hf]
  congr 1
  conv => rhs; rw [← List.map_id (partedL row x)]
  refine List.map_congr_left fun p hp => ?_
  obtain ⟨u, z, rfl, hz, hu⟩ := hg p hp
  simp only [Function.comp, rotR_snoc, List.reverse_reverse, rotL_cons, id]
theorem rot_rev {b : Int → Bool} {p : List Int} (h : good b p) : rotR (rotL p.reverse) = p.reverse ∧ good b (rotL p.reverse) := by
  obtain ⟨u, z, rfl, hz, hu⟩ := h
  rw [List.reverse_append, List.reverse_singleton, List.singleton_append, rotL_cons, rotR_snoc]
  exact ⟨rfl, _, _, rfl, hz, fun y hy => hu y (List.mem_reverse.mp hy)⟩
theorem bkRow_len {row : List Int} {x : Int} : (bkRow row x).length = row.length := by
  unfold bkRow
  by_cases h : 0 < row.length
  · obtain ⟨hf, hg⟩ := parted_spec (row := row.reverse) (x := x) (by rw [List.length_reverse]; exact h)
    rw [if_pos h, flat_map_len (fun p => rotL p.reverse) (fun p => by rw [rotL_len, List.length_reverse])]
    have e := congrArg List.length hf
    rw [List.length_reverse] at e
    rw [← e]
    have : ∀ l : List (List Int), l.reverse.flatten.length = l.flatten.length := fun l => by
      rw [List.length_flatten, List.length_flatten, List.map_reverse, List.sum_reverse]
    exact this _
  · rw [if_neg h]; simp; omega
theorem bkRow_ex {row : List Int} {x : Int} (h : 0 < row.length) : exRow (bkRow row x) x = row := by
  have hlen : (bkRow row x).length = row.length := bkRow_len
  obtain ⟨hf, hg⟩ := parted_spec (row := row.reverse) (x := x) (by rw [List.length_reverse]; exact h)
  have ee : bkRow row x = ((partedL row.reverse x).reverse.map fun p => rotL p.reverse).flatten := by unfold bkRow; rw [if_pos h]
  have hq : ∀ q ∈ (partedL row.reverse x).reverse.map (fun p => rotL p.reverse), good (sideOf row.reverse x) q := by
    intro q hq
    obtain ⟨p, hp, rfl⟩ := List.mem_map.mp hq
    exact (rot_rev (hg p (List.mem_reverse.mp hp))).2
  have hs : sideOf (bkRow row x) x = sideOf row.reverse x := by
    apply side_of
    rw [ee]
    cases hp : partedL row.reverse x with
    | nil => 
      rw [hp] at hf
      have := congrArg List.length hf
      simp at this; omega
    | cons p ps =>
      obtain ⟨u, z, rfl, hz, _⟩ := hg p (by rw [hp]; simp)
      have : (((u ++ [z]) :: ps).reverse.map fun p => rotL p.reverse).flatten = ((ps.reverse.map fun p => rotL p.reverse).flatten ++ u.reverse) ++ [z] := by
        rw [List.reverse_cons, List.map_append, List.flatten_append]
        simp [rotL_cons]
      rw [this, List.getLastD_concat]
      exact hz
  have hP : partedL (bkRow row x) x = (partedL row.reverse x).reverse.map fun p => rotL p.reverse := by
    show (pfold (sideOf (bkRow row x) x) (bkRow row x)).1 = _
    rw [hs, ee, pfold_of_good hq]
  unfold exRow
  rw [if_pos (by omega), hP, List.map_map]
  have e3 : (partedL row.reverse x).reverse.map (rotR ∘ fun p => rotL p.reverse) = (partedL row.reverse x).reverse.map List.reverse := by
    refine List.map_congr_left fun p hp => ?_
    exact (rot_rev (hg p (List.mem_reverse.mp hp))).1
  rw [e3, List.map_reverse, ← List.reverse_flatten, hf, List.reverse_reverse]
theorem exRow_perm (row : List Int) (x : Int) : (exRow row x).Perm row := by
  by_cases h : 0 < row.length
  · obtain ⟨hf, _⟩ := parted_spec (x := x) h
    unfold exRow
    rw [if_pos h]
    conv => rhs; rw [← hf]
    generalize partedL row x = ps
    induction ps with
    | nil => exact List.Perm.refl _
    | cons p ps ih =>
      rw [List.map_cons, List.flatten_cons, List.flatten_cons]
      exact (rotR_perm p).append ih
  · have : row = [] := List.length_eq_zero_iff.mp (by omega)
    subst this
    exact List.Perm.refl _
theorem exL_perm : ∀ l : List Int, (exL l).Perm l := by
  refine snoc_ind (List.Perm.refl _) fun l x ih => ?_
  rw [exL_snoc]
  exact ((exRow_perm _ x).trans ih).append_right _
def exBn : Nat → List Int → List Int
  | 0, _ => []
  | n + 1, row => exBn n (bkRow row.dropLast (row.getLastD 0)) ++ [row.getLastD 0]
def exB (row : List Int) : List Int := exBn row.length row
theorem exB_snoc (row : List Int) (x : Int) : exB (row ++ [x]) = exB (bkRow row x) ++ [x] := by
  unfold exB
  rw [List.length_append, List.length_singleton, exBn, List.getLastD_concat, List.dropLast_concat, bkRow_len]
theorem bk_nil (x : Int) : bkRow [] x = [] := rfl
theorem exB_ex : ∀ l : List Int, exB (exL l) = l := by
  refine snoc_ind rfl fun l x ih => ?_
  rw [exL_snoc]
  unfold exStep
  rw [exB_snoc]
  by_cases h : 0 < (exL l).length
  · rw [exRow_bk h, ih]
  · have e : exL l = [] := List.length_eq_zero_iff.mp (by omega)
    have e2 : l = [] := by
      have := (exL_perm l).length_eq
      rw [e] at this
      exact List.length_eq_zero_iff.mp (by simpa using this.symm)
    subst e2
    rfl
theorem exL_bk : ∀ (n : Nat) (l : List Int), l.length = n → exL (exB l) = l
  | 0, l, h => by
    have e : l = [] := List.length_eq_zero_iff.mp h
    subst e; rfl
  | n + 1, l, h => by
    obtain ⟨r, z, rfl⟩ : ∃ r z, l = r ++ [z] := ⟨l.dropLast, l.getLast (by intro e; simp [e] at h), (List.dropLast_concat_getLast _).symm⟩
    have hr : r.length = n := by simpa using h
    rw [exB_snoc, exL_snoc, exL_bk n (bkRow r z) (by rw [bkRow_len]; exact hr)]
    unfold exStep
    by_cases h0 : 0 < r.length
    · rw [bkRow_ex h0]
    · have e : r = [] := List.length_eq_zero_iff.mp (by omega)
      subst e; rfl
theorem exB_perm (l : List Int) : (exB l).Perm l := by
  have h := exL_perm (exB l)
  rw [exL_bk _ l rfl] at h
  exact h.symm
theorem exL_len_eq (l : List Int) : (exL l).length = l.length := (exL_perm l).length_eq
theorem exB_len_eq (l : List Int) : (exB l).length = l.length := (exB_perm l).length_eq
theorem exL_last {l : List Int} : (exL l).getLastD 0 = l.getLastD 0 := by
  refine snoc_ind (P := fun l => (exL l).getLastD 0 = l.getLastD 0) rfl (fun l x _ => ?_) l
  rw [exL_snoc, exStep, List.getLastD_concat, List.getLastD_concat]
theorem exB_last {l : List Int} : (exB l).getLastD 0 = l.getLastD 0 := by
  refine snoc_ind (P := fun l => (exB l).getLastD 0 = l.getLastD 0) rfl (fun l x _ => ?_) l
  rw [exB_snoc, List.getLastD_concat, List.getLastD_concat]
/-! ### wrong pairs -/
def cr (a b : List Int) : Nat := (a.map fun z => (b.filter (· < z)).length).sum
theorem inv_append : ∀ a b : List Int, inv (a ++ b) = inv a + inv b + cr a b
  | [], b => by simp [inv, cr]
  | x :: a, b => by
    have ih := inv_append a b
    simp only [List.cons_append, inv, ih, List.filter_append, List.length_append, cr, List.map_cons, List.sum_cons]
    omega
theorem cr_left {a a' : List Int} (p : a.Perm a') (b : List Int) : cr a b = cr a' b := perm_sum (p.map _)
theorem cr_right (a : List Int) {b b' : List Int} (p : b.Perm b') : cr a b = cr a b' := by
  unfold cr
  congr 1
  exact List.map_congr_left fun z _ => (p.filter _).length_eq
theorem rots_perm : ∀ ps : List (List Int), ((ps.map rotR).flatten).Perm ps.flatten
  | [] => List.Perm.refl _
  | p :: ps => by
    rw [List.map_cons, List.flatten_cons, List.flatten_cons]
    exact (rotR_perm p).append (rots_perm ps)
theorem inv_flat_less (x : Int) : ∀ ps : List (List Int), (∀ p ∈ ps, inv p = inv (rotR p) + (p.filter (fun y => decide (x < y))).length) → inv (ps.map rotR).flatten + (ps.flatten.filter (fun y => decide (x < y))).length = inv ps.flatten
  | [], _ => rfl
  | p :: ps, h => by
    have ih := inv_flat_less x ps fun q hq => h q (by simp [hq])
    have hp := h p (by simp)
    rw [List.map_cons, List.flatten_cons, List.flatten_cons, inv_append, inv_append, cr_left (rotR_perm p), cr_right p (rots_perm ps), List.filter_append, List.length_append]
    omega
theorem inv_flat_more (x : Int) : ∀ ps : List (List Int), (∀ p ∈ ps, inv (rotR p) = inv p + (p.filter (fun y => decide (y < x))).length) → inv (ps.map rotR).flatten = inv ps.flatten + (ps.flatten.filter (fun y => decide (y < x))).length
  | [], _ => rfl
  | p :: ps, h => by
    have ih := inv_flat_more x ps fun q hq => h q (by simp [hq])
    have hp := h p (by simp)
    rw [List.map_cons, List.flatten_cons, List.flatten_cons, inv_append, inv_append, cr_left (rotR_perm p), cr_right p (rots_perm ps), List.filter_append, List.length_append]
    omega
theorem filter_all {p : Int → Bool} {u : List Int} (h : ∀ y ∈ u, p y = true) : (u.filter p).length = u.length := by rw [List.filter_eq_self.mpr h]
theorem filter_none {p : Int → Bool} {u : List Int} (h : ∀ y ∈ u, p y = false) : (u.filter p).length = 0 := by
  rw [List.filter_eq_nil_iff.mpr fun y hy => by rw [h y hy]; simp]; rfl
theorem one_z {p : Int → Bool} {z : Int} (h : p z = false) : ∀ y ∈ [z], p y = false := fun y hy => by
  have e : y = z := by simpa using hy
  rw [e]; exact h
theorem inv_ex {row : List Int} {x : Int} (h : 0 < row.length) (hx : x ∉ row) : inv (exRow row x ++ [x]) = inv row + if x < row.getLastD 0 then row.length else 0 := by
  obtain ⟨hf, hg⟩ := parted_spec (x := x) h
  have ee : exRow row x = ((partedL row x).map rotR).flatten := by unfold exRow; rw [if_pos h]
  have hne : ∀ p ∈ partedL row x, x ∉ p := fun p hp z => hx (by rw [← hf]; exact List.mem_flatten.mpr ⟨p, hp, z⟩)
  have hlast : row.getLastD 0 ∈ row := by
    obtain ⟨r, z, rfl⟩ : ∃ r z, row = r ++ [z] := ⟨row.dropLast, row.getLast (by intro e; simp [e] at h), (List.dropLast_concat_getLast _).symm⟩
    rw [List.getLastD_concat]; simp
  have hl : row.getLastD 0 ≠ x := fun e => hx (e ▸ hlast)
  have hsp := split_len x row hx
  have hpm : ((exRow row x).filter (fun y => decide (x < y))).length = (row.filter (fun y => decide (x < y))).length := ((exRow_perm row x).filter _).length_eq
  rw [inv_snoc, hpm, ee]
  by_cases c : row.getLastD 0 < x
  · rw [if_neg (by omega), Nat.add_zero]
    have := inv_flat_less x (partedL row x) fun p hp => ?_
    · rw [hf] at this; exact this
    obtain ⟨u, z, rfl, hz, hu⟩ := hg p hp
    have hn := hne _ hp
    have hz' : z < x := by
      unfold sideOf at hz; rw [decide_eq_true c] at hz; simpa using hz
    have hu' : ∀ y ∈ u, x < y := fun y hy => by
      have h1 := hu y hy
      unfold sideOf at h1; rw [decide_eq_true c] at h1
      have h2 : ¬ y < x := by simpa using h1
      have h3 : y ≠ x := fun e => hn (by rw [← e]; simp [hy])
      omega
    rw [rotR_snoc, inv_snoc, List.filter_append, List.length_append]
    simp only [inv]
    rw [filter_all (p := fun y => decide (z < y)) (fun y hy => by have := hu' y hy; simp; omega), filter_none (p := fun y => decide (y < z)) (fun y hy => by have := hu' y hy; simp; omega), filter_all (p := fun y => decide (x < y)) (fun y hy => by simpa using hu' y hy), filter_none (p := fun y => decide (x < y)) (u := [z]) (one_z (by simp; omega))]
    omega
  · rw [if_pos (by omega)]
    have := inv_flat_more x (partedL row x) fun p hp => ?_
    · rw [hf] at this; omega
    obtain ⟨u, z, rfl, hz, hu⟩ := hg p hp
    have hn := hne _ hp
    have hz' : x < z := by
      unfold sideOf at hz; rw [decide_eq_false c] at hz
      have h1 : ¬ z < x := by simpa using hz
      have h3 : z ≠ x := fun e => hn (by rw [← e]; simp)
      omega
    have hu' : ∀ y ∈ u, y < x := fun y hy => by
      have h1 := hu y hy
      unfold sideOf at h1; rw [decide_eq_false c] at h1
      simpa using h1
    rw [rotR_snoc, inv_snoc, List.filter_append, List.length_append]
    simp only [inv]
    rw [filter_none (p := fun y => decide (z < y)) (fun y hy => by have := hu' y hy; simp; omega), filter_all (p := fun y => decide (y < z)) (fun y hy => by have := hu' y hy; simp; omega), filter_all (p := fun y => decide (y < x)) (fun y hy => by simpa using hu' y hy), filter_none (p := fun y => decide (y < x)) (u := [z]) (one_z (by simp; omega))]
    omega
/-! ### the sum of falls -/
def majI (ns : List Int) : Int := ((fallsL ns).map (· + 1)).sum
theorem range_filter_congr {n : Nat} {p q : Nat → Bool} (h : ∀ k, k < n → p k = q k) : (List.range n).filter p = (List.range n).filter q :=
  List.filter_congr fun k hk => h k (List.mem_range.mp hk)
theorem maj_snoc {l : List Int} (h : 0 < l.length) (x : Int) : majI (l ++ [x]) = majI l + if x < l.getLastD 0 then (l.length : Int) else 0 := by
  obtain ⟨r, z, rfl⟩ : ∃ r z, l = r ++ [z] := ⟨l.dropLast, l.getLast (by intro e; simp [e] at h), (List.dropLast_concat_getLast _).symm⟩
  rw [List.getLastD_concat]
  unfold majI fallsL
  have e1 : (r ++ [z] ++ [x]).length - 1 = r.length + 1 := by simp
  have e2 : (r ++ [z]).length - 1 = r.length := by simp
  rw [e1, e2, List.range_succ, List.filter_append]
  have e3 : (List.range r.length).filter (fun k => decide ((r ++ [z] ++ [x]).getD (k + 1) 0 < (r ++ [z] ++ [x]).getD k 0)) = (List.range r.length).filter (fun k => decide ((r ++ [z]).getD (k + 1) 0 < (r ++ [z]).getD k 0)) := by
    refine range_filter_congr fun k hk => ?_
    have a1 : (r ++ [z] ++ [x]).getD (k + 1) 0 = (r ++ [z]).getD (k + 1) 0 := by
      simp only [List.getD_eq_getElem?_getD]
      rw [List.getElem?_append_left (by simp; omega)]
    have a2 : (r ++ [z] ++ [x]).getD k 0 = (r ++ [z]).getD k 0 := by
      simp only [List.getD_eq_getElem?_getD]
      rw [List.getElem?_append_left (by simp; omega)]
    rw [a1, a2]
  have e4 : (r ++ [z] ++ [x]).getD (r.length + 1) 0 = x := by
    simp only [List.getD_eq_getElem?_getD]
    rw [List.getElem?_append_right (by simp)]
    simp
  have e5 : (r ++ [z] ++ [x]).getD r.length 0 = z := by
    simp only [List.getD_eq_getElem?_getD]
    rw [List.getElem?_append_left (by simp), List.getElem?_append_right (by simp)]
    simp
  rw [e3, List.map_append, List.map_append, List.sum_append]
  congr 1
  by_cases c : x < z
  · rw [if_pos c, List.filter_cons_of_pos (by rw [e4, e5]; simpa using c)]
    simp
  · rw [if_neg c, List.filter_cons_of_neg (by rw [e4, e5]; simpa using c)]
    simp
theorem inv_exL : ∀ l : List Int, l.Nodup → (inv (exL l) : Int) = majI l := by
  refine snoc_ind (fun _ => rfl) fun l x ih hn => ?_
  have hn' := List.nodup_append.mp hn
  have h1 := ih hn'.1
  have hx : x ∉ l := fun z => hn'.2.2 x z x (by simp) rfl
  rw [exL_snoc]
  unfold exStep
  by_cases h : 0 < l.length
  · have hx2 : x ∉ exL l := fun z => hx ((exL_perm l).mem_iff.mp z)
    rw [inv_ex (by rw [exL_len_eq]; exact h) hx2, exL_last, exL_len_eq, maj_snoc h, ← h1]
    split <;> simp
  · have e : l = [] := List.length_eq_zero_iff.mp (by omega)
    subst e
    rfl
theorem paired_split {α β : Type} {R : α → β → Prop} {x : α} {y : β} : ∀ {xs : List α} {ys : List β}, xs.length = ys.length → Paired R (xs ++ [x]) (ys ++ [y]) → Paired R xs ys ∧ R x y
  | [], [], _, h => by cases h with | cons r _ => exact ⟨.nil, r⟩
  | [], _ :: _, hl, _ => by simp at hl
  | _ :: _, [], hl, _ => by simp at hl
  | a :: xs, b :: ys, hl, h => by
    cases h with
    | cons r t =>
      obtain ⟨h1, h2⟩ := paired_split (xs := xs) (ys := ys) (by simpa using hl) t
      exact ⟨.cons r h1, h2⟩
theorem Own2.split {H0 H : Hp} {qs : List Addr} {xss : List (List Int)} {q : Addr} {xs : List Int} (hl : qs.length = xss.length) (h : Own2 H0 H (qs ++ [q]) (xss ++ [xs])) :
    Own2 H0 H qs xss ∧ H q = some (.lst (xs.map V.int)) ∧ q ∉ qs ∧ H0 q = none := by
  obtain ⟨h1, h2⟩ := paired_split hl h.at_
  have n := List.nodup_append.mp h.nd
  exact ⟨⟨h1, n.1, fun r hr => h.new r (by simp [hr])⟩, h2, fun z => n.2.2 q z q (by simp) rfl, h.new q (by simp)⟩
theorem rev_at {α : Type} {l : List α} {k : Nat} (h : k < l.length) : l.reverse[k]? = l[l.length - 1 - k]? := by rw [List.getElem?_reverse h]
theorem atI_lastD {ns : List Int} (h : 0 < ns.length) : atI (ns.map V.int) (-1) = some (.int (ns.getLastD 0)) := by
  obtain ⟨r, z, rfl⟩ : ∃ r z, ns = r ++ [z] := ⟨ns.dropLast, ns.getLast (by intro e; simp [e] at h), (List.dropLast_concat_getLast _).symm⟩
  rw [List.map_append]
  simp only [List.map_cons, List.map_nil, List.getLastD_concat]
  exact atI_last _ _
theorem exL_shape {s : List Int} (h : shapeOk s) : shapeOk (exL s) := ⟨by rw [exL_len_eq]; exact h.1, by rw [exL_len_eq]; exact (exL_perm s).trans h.2⟩
theorem exB_shape {s : List Int} (h : shapeOk s) : shapeOk (exB s) := ⟨by rw [exB_len_eq]; exact h.1, by rw [exB_len_eq]; exact (exB_perm s).trans h.2⟩
theorem sorted_of {s t l : List Int} (h : shapeOk s) (hl : s.length = l.length) (p : t.Perm s) (w : t.Pairwise (· ≤ ·)) : t = rangeI l.length := by
  rw [← hl]
  exact (shape_sorted p w).mpr h.2
end Sh

set_option Elab.async false
set_option linter.all false
set_option maxRecDepth 100000
set_option maxHeartbeats 4000000
/-! M8: how many shapes have so many falls, so many wrong pairs: rows, plain Lean. -/
namespace Sh
open PySem PySem.Spec PyProof.Rows L2
def fcell (k : Nat) (row : List Int) (j : Nat) : Int := ((j : Int) + 1) * (row ++ [0]).getD j 0 + ((k : Int) - (j : Int)) * (if 0 < j then (row ++ [0]).getD (j - 1) 0 else 0)
def fstep (k : Nat) (row : List Int) : List Int := (List.range (row.length + 1)).map (fcell k row)
def frow : Nat → List Int
  | 0 => [1]
  | n + 1 => fstep (n + 2) (frow n)
theorem fstep_len (k : Nat) (row : List Int) : (fstep k row).length = row.length + 1 := by simp [fstep]
theorem frow_len : ∀ n, (frow n).length = n + 1
  | 0 => rfl
  | n + 1 => by rw [frow, fstep_len, frow_len n]
/-- row's j-th number put in from place j on, k times -/
def wadd (row : List Int) (j : Nat) : Nat → List Int → List Int
  | 0, l => l
  | s + 1, l => let l' := wadd row j s l; l'.set (j + s) (l'.getD (j + s) 0 + row.getD j 0)
def wrows (row : List Int) (k : Nat) : Nat → List Int
  | 0 => List.replicate (row.length + k - 1) 0
  | j + 1 => wadd row j k (wrows row k j)
def wstep (k : Nat) (row : List Int) : List Int := wrows row k row.length
theorem wadd_len (row : List Int) (j : Nat) (l : List Int) : ∀ s, (wadd row j s l).length = l.length
  | 0 => rfl
  | s + 1 => by simp only [wadd, List.length_set]; exact wadd_len row j l s
theorem wrows_len (row : List Int) (k : Nat) : ∀ j, (wrows row k j).length = row.length + k - 1
  | 0 => by simp [wrows]
  | j + 1 => by rw [wrows, wadd_len, wrows_len row k j]
theorem getD_set (l : List Int) (i j : Nat) (x : Int) : (l.set i x).getD j 0 = if i = j ∧ i < l.length then x else l.getD j 0 := by
  simp only [List.getD_eq_getElem?_getD, List.getElem?_set]
  by_cases e : i = j
  · subst e
    by_cases h : i < l.length
    · simp [h]
    · simp [h]
  · simp [e]
theorem wadd_get (row : List Int) (j : Nat) (l : List Int) (p : Nat) : ∀ s, j + s ≤ l.length → (wadd row j s l).getD p 0 = l.getD p 0 + if j ≤ p ∧ p < j + s then row.getD j 0 else 0
  | 0, _ => by rw [if_neg (by omega)]; simp [wadd]
  | s + 1, h => by
    have ih := wadd_get row j l p s (by omega)
    have ih2 := wadd_get row j l (j + s) s (by omega)
    simp only [wadd]
    rw [getD_set, wadd_len, ih2]
    rw [if_neg (show ¬ (j ≤ j + s ∧ j + s < j + s) by omega)]
    by_cases e : j + s = p
    · subst e
      rw [if_pos ⟨rfl, by omega⟩, if_pos (by omega)]; omega
    · rw [if_neg (by omega), ih]
      by_cases c : j ≤ p ∧ p < j + s
      · rw [if_pos c, if_pos (by omega)]
      · rw [if_neg c, if_neg (by omega)]
def wsum (row : List Int) (k p : Nat) : Nat → Int
  | 0 => 0
  | j + 1 => wsum row k p j + if j ≤ p ∧ p < j + k then row.getD j 0 else 0
theorem wrows_get (row : List Int) (k p : Nat) (hk : 0 < k) : ∀ j, j ≤ row.length → (wrows row k j).getD p 0 = wsum row k p j
  | 0, _ => by
    simp only [wrows, wsum, List.getD_eq_getElem?_getD, List.getElem?_replicate]
    split <;> rfl
  | j + 1, h => by
    rw [wrows, wsum, wadd_get _ _ _ _ _ (by rw [wrows_len]; omega), wrows_get row k p hk j (by omega)]
def wrow : Nat → List Int
  | 0 => [1]
  | n + 1 => wstep (n + 2) (wrow n)
def tri : Nat → Nat
  | 0 => 0
  | n + 1 => tri n + (n + 1)
theorem wrow_len : ∀ n, (wrow n).length = tri n + 1
  | 0 => rfl
  | n + 1 => by rw [wrow, wstep, wrows_len, wrow_len n, tri]; omega
theorem tri_le : ∀ n, n ≤ 19 → tri n ≤ 190 := by decide
end Sh

set_option Elab.async false
set_option linter.all false
set_option maxRecDepth 100000
set_option maxHeartbeats 4000000
/-! ShZ: an own def called from an except suite with the caught error in hand: its contract may speak of the error's class. -/
namespace Sh
open PySem PySem.Spec PyProof.Rows L2

/-- what a def promises where the object of p, of class cls, is handled -/
structure FnZ (P : Program) (w : World) (K : PySem.W.Frag) (mg : Str → Option Value) (base : Heap) (k : Nat) (f : Addr) (fd : FuncData) (ps : List Str) (sp : Addr → Value → Option Addr → Sp) : Prop where
  len : ∀ a c d vs H Q E, sp a c d vs H Q E → vs.length = ps.length
  run : ∀ (A : Around) (outer : List Env) (s : Shared) (H : Hp) (args : Args) (us : List Value) (vs : List V) (Q : VK) (E : XK) (p : Addr × Obj) (cls : Value) (d : Option Addr), L2H.RoomH k A → Zc cls d p.2 → (∃ fs, p.2.data = .fields fs) →
    L2H.PinOk outer H s p → Env0 P w K mg base A outer s H → BindsTo s fd args (ps.zip us) → Vals vs us → sp p.1 cls d vs H Q E → codeAny (model P w) A (.call (.ref f) args) (CR CX0 outer P w H s Q E) s

section
variable {P : Program} {w : World} {K : PySem.W.Frag} {mg : Str → Option Value} {base : Heap}
theorem _root_.L2.Fun.okZ {x qual : Str} {st : Stmt} {f : Addr} {fd : FuncData} {N ps : List Str} {k : Nat} {sp : Addr → Value → Option Addr → Sp} (F : Fun K x qual st f fd) (S : FnScope N ps (defScope st))
    (len : ∀ a c d vs H Q E, sp a c d vs H Q E → vs.length = ps.length)
    (body : ∀ (cdv : Value) (A : Around) (outer : List Env) (s : Shared) (H : Hp) (vs : List V) (Q : VK) (E : XK) (p : Addr × Obj) (cls : Value) (d : Option Addr), Zc cls d p.2 → (∃ fs, p.2.data = .fields fs) →
      L2H.RoomH k (A.deeper (envOfC qual (defScope st) s.heap.objs.size f cdv)) → sp p.1 cls d vs H Q E →
      ∃ t, PSs (L2H.cxH CX0 P w K mg base N qual (defScope st) f cdv A outer s H E p) (defBody st) t ∧ t { nx := fun _ H' => Q .non H', rt := Q } (start N vs) H) :
    FnZ P w K mg base (k + 1) f fd ps sp := by
  obtain ⟨oc, od, kV, doc, pm, an, cdv, ct, osl, rfl, lk, hcd⟩ := F.ex
  refine ⟨len, fun A outer s H args us vs Q E p cls d hr hz hf hp e0 hb r hsp => ?_⟩
  have kin : K.In s.heap := e0.mod.kin.keeps fun b o e => (e0.bs b o e).1
  have lim : s.heap.NoLimit := e0.mod.nolimit.keeps fun b o e => (e0.bs b o e).1
  refine codeAny_call_function hr.depth (kin _ _ lk) rfl S.co S.gen rfl (PySem.W.codeRec_of kin hcd) (hb _ _ _ _ ?_)
  refine wpAny_newFunctionEnv_cells S.kind (fun ⟨n, v⟩ hy => ?_) fun env he s1 x => ?_
  · rcases S.par n (List.of_mem_zip hy).1 with q | q
    · exact .inl q
    · exact .inr ⟨q, PySem.W.cellsFrom_some _ _ _ (.inl q)⟩
  subst he
  obtain ⟨t, ht, hq⟩ := body cdv A outer s H vs Q E p cls d hz hf (hr.deeper _) hsp
  refine ⟨lim.keeps x.toInCall.keep, codeAny_func ?_⟩
  refine wpAny_mono (ht.run [] s1 (start N vs) H _ (L2H.inv_startH S hp e0 (len _ _ _ _ _ _ _ hsp) r x) hq) (fun fl s' hs => ?_) fun e s' hs => hs
  cases fl with
  | ret u =>
    obtain ⟨v, σ', H', J, rv, q⟩ := hs
    exact ⟨v, H', J.os, J.bare, J.base, J.hok, rv, q⟩
  | next =>
    obtain ⟨σ', H', J, q⟩ := hs
    exact ⟨V.non, H', J.os, J.bare, J.base, J.hok, rfl, q⟩
  | brk =>
    obtain ⟨_, _, _, q⟩ := hs
    exact q.elim
  | cont =>
    obtain ⟨_, _, _, q⟩ := hs
    exact q.elim
end
section
variable {X : Cx} {k : Nat} {f : Addr} {fd : FuncData} {ps : List Str} {sp : Addr → Value → Option Addr → Sp} {x : Str} {q pos : Pos} {e : Expr} {es : List Expr} {t : TA}
theorem pe_callZ {a : Addr} {oe : Obj} {cls : Value} {d : Option Addr} (F : FnZ X.prog X.w X.K X.mg X.base k f fd ps sp) (hr : L2H.RoomH k X.A) (hpn : (a, oe) ∈ X.pn) (hz : Zc cls d oe) (hf : ∃ fs, oe.data = .fields fs) (hg : Gl X x) (hm : X.mg x = some (.ref f))
    (hk : PySem.W.keepIn X.K (.ref f) = true) (hb : Binds X.K fd ps []) (ha : PA X (e :: es) t) (hdb : (x == ("__debug__" : Str)) = false := by decide) (he : starEach (e :: es) X.env = (false, eval e X.env) :: starEach es X.env := by rfl)
    (hpl : (backTo pos (starEach es X.env)).any (·.1) = false := by rfl) : PE X (.Call (.Name x q) (e :: es) [] pos) (tCallS (sp a cls d) (fun _ => E0) t) := by
  refine ⟨fun pins s σ H Q I h => ?_⟩
  refine wpAny_Call_Name_kw (ld_glob I hg hm ?_ hdb)
  refine PySem.W.callWith_K (h₀ := X.base) I.ok.mod.kin hk (thn (ha.run pos pins s σ H _ I h) fun us s1 ⟨vs, H1, I1, r, q⟩ => ⟨I1.kIn, ?_⟩) he hpl
  have hl : us.length = ps.length := by rw [← r.length]; exact F.len _ _ _ _ _ _ _ q
  have b := hb s1 us I1.kIn (by rw [List.append_nil]; exact hl)
  rw [List.append_nil] at b
  have P1 := I1.pin (a, oe) (List.mem_append_left _ hpn)
  have hp : L2H.PinOk X.stack H1 s1 (a, oe) := ⟨P1.1, P1.2.1, fun hm => (List.mem_cons.mp (I1.stkSub a hm)).elim P1.2.2.1 P1.2.2.2.1, P1.2.2.2.2⟩
  refine wpAny_call (codeAny_mono (F.run X.A X.stack s1 H1 ⟨us, []⟩ us vs Q E0 (a, oe) cls d hr hz hf hp I1.env0 b r q) fun r s' hq => ?_)
  cases r with
  | error e => exact False.elim hq
  | ok fl =>
    cases fl with
    | ret u => exact I1.after hq
    | next => exact False.elim hq
    | brk => exact False.elim hq
    | cont => exact False.elim hq
end
/-- isinstance(e, c), e the error that is handled, of class cls -/
theorem call_isZ {X : Cx} {p : Addr × Obj} {cls : Value} {d : Option Addr} (hp : p ∈ X.pn) (hz : Zc cls d p.2) (hf : ∃ fs, p.2.data = .fields fs) : CallR X (.builtin "isinstance") (rIsX X.K p.1 cls d) := by
  intro pins s σ H xs us Q I r h
  obtain ⟨D, rfl, rfl, C, c, cv, b, rfl, hcv, e, q⟩ := h
  cases r with
  | cons rx rr =>
    cases rr with
    | cons rt rr =>
      cases rr
      cases rx
      have ec := hcv _ rt
      subst ec
      have get := (I.pin p (List.mem_append_left _ hp)).1
      obtain ⟨fs, hv⟩ := hf
      have J : PySem.W.InstAt s.heap p.1 p.2 D none := by
        obtain ⟨pa, pc, pd, pv, ps⟩ := p
        obtain ⟨z1, z2⟩ := hz
        dsimp only at z1 z2 hv
        subst z1 z2 hv
        exact ⟨get, rfl, rfl, trivial⟩
      exact PySem.W.kia_one (PySem.W.handS_kitx_exc C.hg C.hk C.hs C.hd C.ha C.hn C.ht C.hm) I.kIn J e (fun z => nomatch z) fun tk => ⟨.bl b, H, I.kept (t' := tk) fun _ _ z => z, rfl, q⟩
theorem roomZ {k : Nat} {A : Around} {v : Option Value} (r : Room k A) : L2H.RoomH k (A.mark v) := ⟨r.dp, r.un⟩
end Sh

open PySem PySem.Spec PyProof.Rows L2
local macro_rules | `(tactic| walk_at "rd") => `(tactic| try simp only [Sh.cxOf_K, tSeq, tAsg, tRet, tRetN, tVar, tC, tOp, tUn, tCB, tCons, tNil, tLst, tTup, gName, gSub, Sh.tFor_eq, Sh.tLc_eq, iList, iTup, iRng1, iRng2, tBM, tBM0, tNext, tIfS, tTest, tB, tYes, tAnd, tOr, tNot, tAndV, tOrV, tNotV, tIf, tDrop, tChain, tSl, tPart, tNoPart, tCall, tCallS, rI0, rI, rU, rEq, rNe, rIsB, rNotB, wipe,
   rSortedI, rIndex, rSlL, rIxL, rIxT, rSetL, rAppend, rExtend, rPop, rReverse, rCat, rRep, rCatT, rCatA, Sh.rSortedLL, rRemI, rSum, rMin, rIn, Sh.rLen, Sh.rListOf, Sh.rTupleOf, Sh.rInt1, tLstRg, tRg1, tRg2, Sh.tLenSetG, Sh.tListRev, iRevR, iRev, List.length_map, List.length_range, Int.toNat_natCast, Int.zero_add, CDiv, Int.reduceLT, Int.reduceLE,
   List.getElem?_cons_zero, List.getElem?_cons_succ, List.set_cons_zero, List.set_cons_succ, Option.some.injEq, V.int.injEq, V.ref.injEq, V.bl.injEq, List.cons.injEq, and_true, true_and, and_assoc, reduceCtorEq, false_and, and_false, exists_false, false_or, or_false, exists_eq_left', exists_eq_left, exists_and_left, exists_and_right, List.map_cons, List.map_nil, List.append_nil, List.nil_append, List.cons_append, reduceIte, Bool.true_eq_false, Bool.false_eq_true, exists_eq', exists_eq, eq_self, not_true_eq_false, not_false_eq_true, decide_true, decide_false, Bool.not_true, Bool.not_false, if_true, if_false, decide_eq_true_eq, Bool.not_eq_true', decide_eq_false_iff_not])
local macro_rules | `(tactic| walk_at "r1") => `(tactic| try simp only [Sh.cxOf_K, tAsg, tRet, tRetN, tVar, tC, tOp, tUn, tCB, tCons, tNil, tLst, tTup, gName, gSub, Sh.tFor_eq, Sh.tLc_eq, iList, iTup, iRng1, iRng2, tBM, tBM0, tNext, tIfS, tTest, tB, tYes, tAnd, tOr, tNot, tAndV, tOrV, tNotV, tIf, tDrop, tChain, tSl, tPart, tNoPart, tCall, tCallS, rI0, rI, rU, rEq, rNe, rIsB, rNotB, wipe,
   rSortedI, rIndex, rSlL, rIxL, rIxT, rSetL, rAppend, rExtend, rPop, rReverse, rCat, rRep, rCatT, rCatA, Sh.rSortedLL, rRemI, rSum, rMin, rIn, Sh.rLen, Sh.rListOf, Sh.rTupleOf, Sh.rInt1, tLstRg, tRg1, tRg2, Sh.tLenSetG, Sh.tListRev, iRevR, iRev, List.length_map, List.length_range, Int.toNat_natCast, Int.zero_add, CDiv, Int.reduceLT, Int.reduceLE,
   List.getElem?_cons_zero, List.getElem?_cons_succ, List.set_cons_zero, List.set_cons_succ, Option.some.injEq, V.int.injEq, V.ref.injEq, V.bl.injEq, List.cons.injEq, and_true, true_and, and_assoc, reduceCtorEq, false_and, and_false, exists_false, false_or, or_false, exists_eq_left', exists_eq_left, exists_and_left, exists_and_right, List.map_cons, List.map_nil, List.append_nil, List.nil_append, List.cons_append, reduceIte, Bool.true_eq_false, Bool.false_eq_true, exists_eq', exists_eq, eq_self, not_true_eq_false, not_false_eq_true, decide_true, decide_false, Bool.not_true, Bool.not_false, if_true, if_false, decide_eq_true_eq, Bool.not_eq_true', decide_eq_false_iff_not])

namespace Sh
def topS (i : Nat) : Stmt := PySem.Challenge.pw_shapeorders_k14_each_refusal_its_own.main.body.getD i (.Pass ⟨0, 0, 0, 0⟩)
abbrev s__law_cell_at : Stmt := topS 60
theorem sc__law_cell_at : FnScope ["script", "k"] ["script", "k"] (defScope s__law_cell_at) := ⟨rfl, rfl, rfl, by decide +kernel, rfl, by decide +kernel, by decide +kernel⟩
abbrev s_ask_row : Stmt := topS 11
theorem sc_ask_row : FnScope ["row"] ["row"] (defScope s_ask_row) := ⟨rfl, rfl, rfl, by decide +kernel, rfl, by decide +kernel, by decide +kernel⟩
abbrev s_ranks : Stmt := topS 12
theorem sc_ranks : FnScope ["row", "rising", "number"] ["row"] (defScope s_ranks) := ⟨rfl, rfl, rfl, by decide +kernel, rfl, by decide +kernel, by decide +kernel⟩
abbrev s_shape_of : Stmt := topS 13
theorem sc_shape_of : FnScope ["row"] ["row"] (defScope s_shape_of) := ⟨rfl, rfl, rfl, by decide +kernel, rfl, by decide +kernel, by decide +kernel⟩
abbrev s_is_shape : Stmt := topS 14
theorem sc_is_shape : FnScope ["some"] ["some"] (defScope s_is_shape) := ⟨rfl, rfl, rfl, by decide +kernel, rfl, by decide +kernel, by decide +kernel⟩
abbrev s_ask_shape : Stmt := topS 15
theorem sc_ask_shape : FnScope ["shape"] ["shape"] (defScope s_ask_shape) := ⟨rfl, rfl, rfl, by decide +kernel, rfl, by decide +kernel, by decide +kernel⟩
abbrev s_ask_order : Stmt := topS 22
theorem sc_ask_order : FnScope ["order"] ["order"] (defScope s_ask_order) := ⟨rfl, rfl, rfl, by decide +kernel, rfl, by decide +kernel, by decide +kernel⟩
abbrev s_fits : Stmt := topS 23
theorem sc_fits : FnScope ["row", "told", "order", "here", "place"] ["row", "told", "order"] (defScope s_fits) := ⟨rfl, rfl, rfl, by decide +kernel, rfl, by decide +kernel, by decide +kernel⟩
abbrev s_grown : Stmt := topS 24
theorem sc_grown : FnScope ["row", "order", "told", "start", "more", "place", "some"] ["row", "order", "told"] (defScope s_grown) := ⟨rfl, rfl, rfl, by decide +kernel, rfl, by decide +kernel, by decide +kernel⟩
abbrev s_all_places : Stmt := topS 25
theorem sc_all_places : FnScope ["row", "order", "found", "step", "longer", "told"] ["row", "order"] (defScope s_all_places) := ⟨rfl, rfl, rfl, by decide +kernel, rfl, by decide +kernel, by decide +kernel⟩
abbrev s_places : Stmt := topS 26
theorem sc_places : FnScope ["row", "order"] ["row", "order"] (defScope s_places) := ⟨rfl, rfl, rfl, by decide +kernel, rfl, by decide +kernel, by decide +kernel⟩
abbrev s_many : Stmt := topS 27
theorem sc_many : FnScope ["row", "order"] ["row", "order"] (defScope s_many) := ⟨rfl, rfl, rfl, by decide +kernel, rfl, by decide +kernel, by decide +kernel⟩
abbrev s_found_from : Stmt := topS 28
theorem sc_found_from : FnScope ["row", "order", "told", "some", "found"] ["row", "order", "told"] (defScope s_found_from) := ⟨rfl, rfl, rfl, by decide +kernel, rfl, by decide +kernel, by decide +kernel⟩
abbrev s_first : Stmt := topS 29
theorem sc_first : FnScope ["row", "order"] ["row", "order"] (defScope s_first) := ⟨rfl, rfl, rfl, by decide +kernel, rfl, by decide +kernel, by decide +kernel⟩
abbrev s__law_within : Stmt := topS 62
theorem sc__law_within : FnScope ["way", "row", "order"] ["way", "row", "order"] (defScope s__law_within) := ⟨rfl, rfl, rfl, by decide +kernel, rfl, by decide +kernel, by decide +kernel⟩
abbrev s__law_no_row : Stmt := topS 64
theorem sc__law_no_row : FnScope ["cell", "far", "row"] ["cell", "far"] (defScope s__law_no_row) := ⟨rfl, rfl, rfl, by decide +kernel, rfl, by decide +kernel, by decide +kernel⟩
abbrev s_backward : Stmt := topS 16
theorem sc_backward : FnScope ["shape"] ["shape"] (defScope s_backward) := ⟨rfl, rfl, rfl, by decide +kernel, rfl, by decide +kernel, by decide +kernel⟩
abbrev s_contrary : Stmt := topS 17
theorem sc_contrary : FnScope ["shape", "number"] ["shape"] (defScope s_contrary) := ⟨rfl, rfl, rfl, by decide +kernel, rfl, by decide +kernel, by decide +kernel⟩
abbrev s_turned_over : Stmt := topS 18
theorem sc_turned_over : FnScope ["shape", "place"] ["shape"] (defScope s_turned_over) := ⟨rfl, rfl, rfl, by decide +kernel, rfl, by decide +kernel, by decide +kernel⟩
abbrev s_falls : Stmt := topS 50
theorem sc_falls : FnScope ["shape", "k"] ["shape"] (defScope s_falls) := ⟨rfl, rfl, rfl, by decide +kernel, rfl, by decide +kernel, by decide +kernel⟩
abbrev s_wrong_pairs : Stmt := topS 51
theorem sc_wrong_pairs : FnScope ["shape", "found", "k", "one"] ["shape"] (defScope s_wrong_pairs) := ⟨rfl, rfl, rfl, by decide +kernel, rfl, by decide +kernel, by decide +kernel⟩
abbrev s_fall_sum : Stmt := topS 52
theorem sc_fall_sum : FnScope ["shape", "place"] ["shape"] (defScope s_fall_sum) := ⟨rfl, rfl, rfl, by decide +kernel, rfl, by decide +kernel, by decide +kernel⟩
abbrev s_parted : Stmt := topS 56
theorem sc_parted : FnScope ["row", "number", "less", "found", "part", "one"] ["row", "number"] (defScope s_parted) := ⟨rfl, rfl, rfl, by decide +kernel, rfl, by decide +kernel, by decide +kernel⟩
abbrev s_exchanged : Stmt := topS 57
theorem sc_exchanged : FnScope ["shape", "row", "number", "parts", "part"] ["shape"] (defScope s_exchanged) := ⟨rfl, rfl, rfl, by decide +kernel, rfl, by decide +kernel, by decide +kernel⟩
abbrev s_exchanged_back : Stmt := topS 58
theorem sc_exchanged_back : FnScope ["shape", "row", "found", "number", "parts", "part"] ["shape"] (defScope s_exchanged_back) := ⟨rfl, rfl, rfl, by decide +kernel, rfl, by decide +kernel, by decide +kernel⟩
abbrev s__law_of_one : Stmt := topS 63
theorem sc__law_of_one : FnScope ["way", "shape"] ["way", "shape"] (defScope s__law_of_one) := ⟨rfl, rfl, rfl, by decide +kernel, rfl, by decide +kernel, by decide +kernel⟩
abbrev s_ask_three : Stmt := topS 35
theorem sc_ask_three : FnScope ["order"] ["order"] (defScope s_ask_three) := ⟨rfl, rfl, rfl, by decide +kernel, rfl, by decide +kernel, by decide +kernel⟩
abbrev s_ask_size : Stmt := topS 34
theorem sc_ask_size : FnScope ["size"] ["size"] (defScope s_ask_size) := ⟨rfl, rfl, rfl, by decide +kernel, rfl, by decide +kernel, by decide +kernel⟩
abbrev s_ways : Stmt := topS 36
theorem sc_ways : FnScope ["size", "rows", "left", "row", "height"] ["size"] (defScope s_ways) := ⟨rfl, rfl, rfl, by decide +kernel, rfl, by decide +kernel, by decide +kernel⟩
abbrev s_many_without : Stmt := topS 37
theorem sc_many_without : FnScope ["size"] ["size"] (defScope s_many_without) := ⟨rfl, rfl, rfl, by decide +kernel, rfl, by decide +kernel, by decide +kernel⟩
abbrev s_piled : Stmt := topS 38
theorem sc_piled : FnScope ["size", "number", "rows", "pile", "found", "taken", "left", "ahead"] ["size", "number"] (defScope s_piled) := ⟨rfl, rfl, rfl, by decide +kernel, rfl, by decide +kernel, by decide +kernel⟩
abbrev s_lows : Stmt := topS 41
theorem sc_lows : FnScope ["shape", "k"] ["shape"] (defScope s_lows) := ⟨rfl, rfl, rfl, by decide +kernel, rfl, by decide +kernel, by decide +kernel⟩
abbrev s_filled : Stmt := topS 42
theorem sc_filled : FnScope ["shape", "falling", "keep", "left", "found", "low", "k", "pick", "number"] ["shape", "falling"] (defScope s_filled) := ⟨rfl, rfl, rfl, by decide +kernel, rfl, by decide +kernel, by decide +kernel⟩
abbrev s_turned : Stmt := topS 40
theorem sc_turned : FnScope ["shape", "order", "found", "number"] ["shape", "order"] (defScope s_turned) := ⟨rfl, rfl, rfl, by decide +kernel, rfl, by decide +kernel, by decide +kernel⟩
abbrev s_made : Stmt := topS 43
theorem sc_made : FnScope ["size", "order", "number", "shape", "one"] ["size", "order", "number"] (defScope s_made) := ⟨rfl, rfl, rfl, by decide +kernel, rfl, by decide +kernel, by decide +kernel⟩
abbrev s_without_at : Stmt := topS 45
theorem sc_without_at : FnScope ["size", "order", "number", "whole"] ["size", "order", "number"] (defScope s_without_at) := ⟨rfl, rfl, rfl, by decide +kernel, rfl, by decide +kernel, by decide +kernel⟩
abbrev s_ask_without : Stmt := topS 46
theorem sc_ask_without : FnScope ["shape", "order"] ["shape", "order"] (defScope s_ask_without) := ⟨rfl, rfl, rfl, by decide +kernel, rfl, by decide +kernel, by decide +kernel⟩
abbrev s_pile_number : Stmt := topS 39
theorem sc_pile_number : FnScope ["shape", "rows", "left", "height", "taken", "number", "wanted"] ["shape"] (defScope s_pile_number) := ⟨rfl, rfl, rfl, by decide +kernel, rfl, by decide +kernel, by decide +kernel⟩
abbrev s_numbered : Stmt := topS 44
theorem sc_numbered : FnScope ["shape", "order", "one"] ["shape", "order"] (defScope s_numbered) := ⟨rfl, rfl, rfl, by decide +kernel, rfl, by decide +kernel, by decide +kernel⟩
abbrev s_number_of : Stmt := topS 47
theorem sc_number_of : FnScope ["shape", "order"] ["shape", "order"] (defScope s_number_of) := ⟨rfl, rfl, rfl, by decide +kernel, rfl, by decide +kernel, by decide +kernel⟩
abbrev s_led : Stmt := topS 48
theorem sc_led : FnScope ["shape", "order", "other", "some"] ["shape", "order", "other"] (defScope s_led) := ⟨rfl, rfl, rfl, by decide +kernel, rfl, by decide +kernel, by decide +kernel⟩
abbrev s__law_no_shape : Stmt := topS 65
theorem sc__law_no_shape : FnScope ["cell", "far", "bad", "way"] ["cell", "far"] (defScope s__law_no_shape) := ⟨rfl, rfl, rfl, by decide +kernel, rfl, by decide +kernel, by decide +kernel⟩
abbrev s__law_no_order : Stmt := topS 66
theorem sc__law_no_order : FnScope ["cell", "far", "bad", "three", "way"] ["cell", "far"] (defScope s__law_no_order) := ⟨rfl, rfl, rfl, by decide +kernel, rfl, by decide +kernel, by decide +kernel⟩
abbrev s_many_falls : Stmt := topS 53
theorem sc_many_falls : FnScope ["size", "wanted", "row", "k", "j"] ["size", "wanted"] (defScope s_many_falls) := ⟨rfl, rfl, rfl, by decide +kernel, rfl, by decide +kernel, by decide +kernel⟩
abbrev s_many_wrong : Stmt := topS 54
theorem sc_many_wrong : FnScope ["size", "wanted", "row", "k", "longer", "j", "step"] ["size", "wanted"] (defScope s_many_wrong) := ⟨rfl, rfl, rfl, by decide +kernel, rfl, by decide +kernel, by decide +kernel⟩
abbrev s__law_no_size : Stmt := topS 67
theorem sc__law_no_size : FnScope ["cell", "far", "size", "shape", "way"] ["cell", "far"] (defScope s__law_no_size) := ⟨rfl, rfl, rfl, by decide +kernel, rfl, by decide +kernel, by decide +kernel⟩
abbrev s__law_no_number : Stmt := topS 68
theorem sc__law_no_number : FnScope ["cell", "far", "way"] ["cell", "far"] (defScope s__law_no_number) := ⟨rfl, rfl, rfl, by decide +kernel, rfl, by decide +kernel, by decide +kernel⟩
abbrev s__law_done : Stmt := topS 69
theorem sc__law_done : FnScope ["way", "cell", "far"] ["way", "cell", "far"] (defScope s__law_done) := ⟨rfl, rfl, rfl, by decide +kernel, rfl, by decide +kernel, by decide +kernel⟩
abbrev s__law_which : Stmt := topS 61
theorem sc__law_which : FnScope ["e", "told"] ["e"] (defScope s__law_which) := ⟨rfl, rfl, rfl, by decide +kernel, rfl, by decide +kernel, by decide +kernel⟩
abbrev s_law : Stmt := topS 70
theorem sc_law : FnScope ["script", "way", "far", "told", "e", "k"] ["script"] (defScope s_law) := ⟨rfl, rfl, rfl, by decide +kernel, rfl, by decide +kernel, by decide +kernel⟩
/-- what the top has written -/
structure Tx (K : PySem.W.Frag) (mg : Str → Option Value) where
  f__law_cell_at : Addr
  fd__law_cell_at : FuncData
  F__law_cell_at : Fun K "_law_cell_at" "_law_cell_at" s__law_cell_at f__law_cell_at fd__law_cell_at
  g__law_cell_at : mg "_law_cell_at" = some (.ref f__law_cell_at)
  b__law_cell_at : Binds K fd__law_cell_at ["script", "k"] []
  f_ask_row : Addr
  fd_ask_row : FuncData
  F_ask_row : Fun K "ask_row" "ask_row" s_ask_row f_ask_row fd_ask_row
  g_ask_row : mg "ask_row" = some (.ref f_ask_row)
  b_ask_row : Binds K fd_ask_row ["row"] []
  f_ranks : Addr
  fd_ranks : FuncData
  F_ranks : Fun K "ranks" "ranks" s_ranks f_ranks fd_ranks
  g_ranks : mg "ranks" = some (.ref f_ranks)
  b_ranks : Binds K fd_ranks ["row"] []
  f_shape_of : Addr
  fd_shape_of : FuncData
  F_shape_of : Fun K "shape_of" "shape_of" s_shape_of f_shape_of fd_shape_of
  g_shape_of : mg "shape_of" = some (.ref f_shape_of)
  b_shape_of : Binds K fd_shape_of ["row"] []
  f_is_shape : Addr
  fd_is_shape : FuncData
  F_is_shape : Fun K "is_shape" "is_shape" s_is_shape f_is_shape fd_is_shape
  g_is_shape : mg "is_shape" = some (.ref f_is_shape)
  b_is_shape : Binds K fd_is_shape ["some"] []
  f_ask_shape : Addr
  fd_ask_shape : FuncData
  F_ask_shape : Fun K "ask_shape" "ask_shape" s_ask_shape f_ask_shape fd_ask_shape
  g_ask_shape : mg "ask_shape" = some (.ref f_ask_shape)
  b_ask_shape : Binds K fd_ask_shape ["shape"] []
  f_ask_order : Addr
  fd_ask_order : FuncData
  F_ask_order : Fun K "ask_order" "ask_order" s_ask_order f_ask_order fd_ask_order
  g_ask_order : mg "ask_order" = some (.ref f_ask_order)
  b_ask_order : Binds K fd_ask_order ["order"] []
  f_fits : Addr
  fd_fits : FuncData
  F_fits : Fun K "fits" "fits" s_fits f_fits fd_fits
  g_fits : mg "fits" = some (.ref f_fits)
  b_fits : Binds K fd_fits ["row", "told", "order"] []
  f_grown : Addr
  fd_grown : FuncData
  F_grown : Fun K "grown" "grown" s_grown f_grown fd_grown
  g_grown : mg "grown" = some (.ref f_grown)
  b_grown : Binds K fd_grown ["row", "order", "told"] []
  f_all_places : Addr
  fd_all_places : FuncData
  F_all_places : Fun K "all_places" "all_places" s_all_places f_all_places fd_all_places
  g_all_places : mg "all_places" = some (.ref f_all_places)
  b_all_places : Binds K fd_all_places ["row", "order"] []
  f_places : Addr
  fd_places : FuncData
  F_places : Fun K "places" "places" s_places f_places fd_places
  g_places : mg "places" = some (.ref f_places)
  b_places : Binds K fd_places ["row", "order"] []
  f_many : Addr
  fd_many : FuncData
  F_many : Fun K "many" "many" s_many f_many fd_many
  g_many : mg "many" = some (.ref f_many)
  b_many : Binds K fd_many ["row", "order"] []
  f_found_from : Addr
  fd_found_from : FuncData
  F_found_from : Fun K "found_from" "found_from" s_found_from f_found_from fd_found_from
  g_found_from : mg "found_from" = some (.ref f_found_from)
  b_found_from : Binds K fd_found_from ["row", "order", "told"] []
  f_first : Addr
  fd_first : FuncData
  F_first : Fun K "first" "first" s_first f_first fd_first
  g_first : mg "first" = some (.ref f_first)
  b_first : Binds K fd_first ["row", "order"] []
  f__law_within : Addr
  fd__law_within : FuncData
  F__law_within : Fun K "_law_within" "_law_within" s__law_within f__law_within fd__law_within
  g__law_within : mg "_law_within" = some (.ref f__law_within)
  b__law_within : Binds K fd__law_within ["way", "row", "order"] []
  f__law_no_row : Addr
  fd__law_no_row : FuncData
  F__law_no_row : Fun K "_law_no_row" "_law_no_row" s__law_no_row f__law_no_row fd__law_no_row
  g__law_no_row : mg "_law_no_row" = some (.ref f__law_no_row)
  b__law_no_row : Binds K fd__law_no_row ["cell", "far"] []
  f_backward : Addr
  fd_backward : FuncData
  F_backward : Fun K "backward" "backward" s_backward f_backward fd_backward
  g_backward : mg "backward" = some (.ref f_backward)
  b_backward : Binds K fd_backward ["shape"] []
  f_contrary : Addr
  fd_contrary : FuncData
  F_contrary : Fun K "contrary" "contrary" s_contrary f_contrary fd_contrary
  g_contrary : mg "contrary" = some (.ref f_contrary)
  b_contrary : Binds K fd_contrary ["shape"] []
  f_turned_over : Addr
  fd_turned_over : FuncData
  F_turned_over : Fun K "turned_over" "turned_over" s_turned_over f_turned_over fd_turned_over
  g_turned_over : mg "turned_over" = some (.ref f_turned_over)
  b_turned_over : Binds K fd_turned_over ["shape"] []
  f_falls : Addr
  fd_falls : FuncData
  F_falls : Fun K "falls" "falls" s_falls f_falls fd_falls
  g_falls : mg "falls" = some (.ref f_falls)
  b_falls : Binds K fd_falls ["shape"] []
  f_wrong_pairs : Addr
  fd_wrong_pairs : FuncData
  F_wrong_pairs : Fun K "wrong_pairs" "wrong_pairs" s_wrong_pairs f_wrong_pairs fd_wrong_pairs
  g_wrong_pairs : mg "wrong_pairs" = some (.ref f_wrong_pairs)
  b_wrong_pairs : Binds K fd_wrong_pairs ["shape"] []
  f_fall_sum : Addr
  fd_fall_sum : FuncData
  F_fall_sum : Fun K "fall_sum" "fall_sum" s_fall_sum f_fall_sum fd_fall_sum
  g_fall_sum : mg "fall_sum" = some (.ref f_fall_sum)
  b_fall_sum : Binds K fd_fall_sum ["shape"] []
  f_parted : Addr
  fd_parted : FuncData
  F_parted : Fun K "parted" "parted" s_parted f_parted fd_parted
  g_parted : mg "parted" = some (.ref f_parted)
  b_parted : Binds K fd_parted ["row", "number"] []
  f_exchanged : Addr
  fd_exchanged : FuncData
  F_exchanged : Fun K "exchanged" "exchanged" s_exchanged f_exchanged fd_exchanged
  g_exchanged : mg "exchanged" = some (.ref f_exchanged)
  b_exchanged : Binds K fd_exchanged ["shape"] []
  f_exchanged_back : Addr
  fd_exchanged_back : FuncData
  F_exchanged_back : Fun K "exchanged_back" "exchanged_back" s_exchanged_back f_exchanged_back fd_exchanged_back
  g_exchanged_back : mg "exchanged_back" = some (.ref f_exchanged_back)
  b_exchanged_back : Binds K fd_exchanged_back ["shape"] []
  f__law_of_one : Addr
  fd__law_of_one : FuncData
  F__law_of_one : Fun K "_law_of_one" "_law_of_one" s__law_of_one f__law_of_one fd__law_of_one
  g__law_of_one : mg "_law_of_one" = some (.ref f__law_of_one)
  b__law_of_one : Binds K fd__law_of_one ["way", "shape"] []
  f_ask_three : Addr
  fd_ask_three : FuncData
  F_ask_three : Fun K "ask_three" "ask_three" s_ask_three f_ask_three fd_ask_three
  g_ask_three : mg "ask_three" = some (.ref f_ask_three)
  b_ask_three : Binds K fd_ask_three ["order"] []
  f_ask_size : Addr
  fd_ask_size : FuncData
  F_ask_size : Fun K "ask_size" "ask_size" s_ask_size f_ask_size fd_ask_size
  g_ask_size : mg "ask_size" = some (.ref f_ask_size)
  b_ask_size : Binds K fd_ask_size ["size"] []
  f_ways : Addr
  fd_ways : FuncData
  F_ways : Fun K "ways" "ways" s_ways f_ways fd_ways
  g_ways : mg "ways" = some (.ref f_ways)
  b_ways : Binds K fd_ways ["size"] []
  f_many_without : Addr
  fd_many_without : FuncData
  F_many_without : Fun K "many_without" "many_without" s_many_without f_many_without fd_many_without
  g_many_without : mg "many_without" = some (.ref f_many_without)
  b_many_without : Binds K fd_many_without ["size"] []
  f_piled : Addr
  fd_piled : FuncData
  F_piled : Fun K "piled" "piled" s_piled f_piled fd_piled
  g_piled : mg "piled" = some (.ref f_piled)
  b_piled : Binds K fd_piled ["size", "number"] []
  f_lows : Addr
  fd_lows : FuncData
  F_lows : Fun K "lows" "lows" s_lows f_lows fd_lows
  g_lows : mg "lows" = some (.ref f_lows)
  b_lows : Binds K fd_lows ["shape"] []
  f_filled : Addr
  fd_filled : FuncData
  F_filled : Fun K "filled" "filled" s_filled f_filled fd_filled
  g_filled : mg "filled" = some (.ref f_filled)
  b_filled : Binds K fd_filled ["shape", "falling"] []
  f_turned : Addr
  fd_turned : FuncData
  F_turned : Fun K "turned" "turned" s_turned f_turned fd_turned
  g_turned : mg "turned" = some (.ref f_turned)
  b_turned : Binds K fd_turned ["shape", "order"] []
  f_made : Addr
  fd_made : FuncData
  F_made : Fun K "made" "made" s_made f_made fd_made
  g_made : mg "made" = some (.ref f_made)
  b_made : Binds K fd_made ["size", "order", "number"] []
  f_without_at : Addr
  fd_without_at : FuncData
  F_without_at : Fun K "without_at" "without_at" s_without_at f_without_at fd_without_at
  g_without_at : mg "without_at" = some (.ref f_without_at)
  b_without_at : Binds K fd_without_at ["size", "order", "number"] []
  f_ask_without : Addr
  fd_ask_without : FuncData
  F_ask_without : Fun K "ask_without" "ask_without" s_ask_without f_ask_without fd_ask_without
  g_ask_without : mg "ask_without" = some (.ref f_ask_without)
  b_ask_without : Binds K fd_ask_without ["shape", "order"] []
  f_pile_number : Addr
  fd_pile_number : FuncData
  F_pile_number : Fun K "pile_number" "pile_number" s_pile_number f_pile_number fd_pile_number
  g_pile_number : mg "pile_number" = some (.ref f_pile_number)
  b_pile_number : Binds K fd_pile_number ["shape"] []
  f_numbered : Addr
  fd_numbered : FuncData
  F_numbered : Fun K "numbered" "numbered" s_numbered f_numbered fd_numbered
  g_numbered : mg "numbered" = some (.ref f_numbered)
  b_numbered : Binds K fd_numbered ["shape", "order"] []
  f_number_of : Addr
  fd_number_of : FuncData
  F_number_of : Fun K "number_of" "number_of" s_number_of f_number_of fd_number_of
  g_number_of : mg "number_of" = some (.ref f_number_of)
  b_number_of : Binds K fd_number_of ["shape", "order"] []
  f_led : Addr
  fd_led : FuncData
  F_led : Fun K "led" "led" s_led f_led fd_led
  g_led : mg "led" = some (.ref f_led)
  b_led : Binds K fd_led ["shape", "order", "other"] []
  f__law_no_shape : Addr
  fd__law_no_shape : FuncData
  F__law_no_shape : Fun K "_law_no_shape" "_law_no_shape" s__law_no_shape f__law_no_shape fd__law_no_shape
  g__law_no_shape : mg "_law_no_shape" = some (.ref f__law_no_shape)
  b__law_no_shape : Binds K fd__law_no_shape ["cell", "far"] []
  f__law_no_order : Addr
  fd__law_no_order : FuncData
  F__law_no_order : Fun K "_law_no_order" "_law_no_order" s__law_no_order f__law_no_order fd__law_no_order
  g__law_no_order : mg "_law_no_order" = some (.ref f__law_no_order)
  b__law_no_order : Binds K fd__law_no_order ["cell", "far"] []
  f_many_falls : Addr
  fd_many_falls : FuncData
  F_many_falls : Fun K "many_falls" "many_falls" s_many_falls f_many_falls fd_many_falls
  g_many_falls : mg "many_falls" = some (.ref f_many_falls)
  b_many_falls : Binds K fd_many_falls ["size", "wanted"] []
  f_many_wrong : Addr
  fd_many_wrong : FuncData
  F_many_wrong : Fun K "many_wrong" "many_wrong" s_many_wrong f_many_wrong fd_many_wrong
  g_many_wrong : mg "many_wrong" = some (.ref f_many_wrong)
  b_many_wrong : Binds K fd_many_wrong ["size", "wanted"] []
  f__law_no_size : Addr
  fd__law_no_size : FuncData
  F__law_no_size : Fun K "_law_no_size" "_law_no_size" s__law_no_size f__law_no_size fd__law_no_size
  g__law_no_size : mg "_law_no_size" = some (.ref f__law_no_size)
  b__law_no_size : Binds K fd__law_no_size ["cell", "far"] []
  f__law_no_number : Addr
  fd__law_no_number : FuncData
  F__law_no_number : Fun K "_law_no_number" "_law_no_number" s__law_no_number f__law_no_number fd__law_no_number
  g__law_no_number : mg "_law_no_number" = some (.ref f__law_no_number)
  b__law_no_number : Binds K fd__law_no_number ["cell", "far"] []
  f__law_done : Addr
  fd__law_done : FuncData
  F__law_done : Fun K "_law_done" "_law_done" s__law_done f__law_done fd__law_done
  g__law_done : mg "_law_done" = some (.ref f__law_done)
  b__law_done : Binds K fd__law_done ["way", "cell", "far"] []
  f__law_which : Addr
  fd__law_which : FuncData
  F__law_which : Fun K "_law_which" "_law_which" s__law_which f__law_which fd__law_which
  g__law_which : mg "_law_which" = some (.ref f__law_which)
  b__law_which : Binds K fd__law_which ["e"] []
  f_law : Addr
  fd_law : FuncData
  F_law : Fun K "law" "law" s_law f_law fd_law
  g_law : mg "law" = some (.ref f_law)
  b_law : Binds K fd_law ["script"] []
  m_len : mg "len" = none
  m_set : mg "set" = none
  m_sorted : mg "sorted" = none
  m_list : mg "list" = none
  m_range : mg "range" = none
  m_tuple : mg "tuple" = none
  m_reversed : mg "reversed" = none
  m_sum : mg "sum" = none
  m_min : mg "min" = none
  m_isinstance : mg "isinstance" = none
  m_ValueError : mg "ValueError" = none
  t_MOST : Tok
  g_MOST : mg "MOST" = some (.int 30 t_MOST)
  t_MOST_ORDER : Tok
  g_MOST_ORDER : mg "MOST_ORDER" = some (.int 4 t_MOST_ORDER)
  t_MOST_ROW : Tok
  g_MOST_ROW : mg "MOST_ROW" = some (.int 12 t_MOST_ROW)
  t_MOST_SIZE : Tok
  g_MOST_SIZE : mg "MOST_SIZE" = some (.int 20 t_MOST_SIZE)
  a_FALL : Addr
  g_FALL : mg "FALL" = some (.ref a_FALL)
  l_FALL : ∀ H, SqL K H a_FALL [.int 2, .int 1, .int 0]
  a_RISE : Addr
  g_RISE : mg "RISE" = some (.ref a_RISE)
  l_RISE : ∀ H, SqL K H a_RISE [.int 0, .int 1, .int 2]
  C_NoRow : Addr
  gC_NoRow : mg "NoRow" = some (.ref C_NoRow)
  x_NoRow : PySem.W.excIn K C_NoRow [.type "ValueError", .type "Exception", .type "BaseException", .type "object"] "ValueError.__new__" = true
  kC_NoRow : PySem.W.keepIn K (.ref C_NoRow) = true
  bC_NoRow : PySem.W.subIn K (.ref C_NoRow) (.type "BaseException") = some true
  tC_NoRow : PySem.W.typeIn K (.ref C_NoRow) = some (.type "type")
  C_NoShape : Addr
  gC_NoShape : mg "NoShape" = some (.ref C_NoShape)
  x_NoShape : PySem.W.excIn K C_NoShape [.type "ValueError", .type "Exception", .type "BaseException", .type "object"] "ValueError.__new__" = true
  kC_NoShape : PySem.W.keepIn K (.ref C_NoShape) = true
  bC_NoShape : PySem.W.subIn K (.ref C_NoShape) (.type "BaseException") = some true
  tC_NoShape : PySem.W.typeIn K (.ref C_NoShape) = some (.type "type")
  C_NoOrder : Addr
  gC_NoOrder : mg "NoOrder" = some (.ref C_NoOrder)
  x_NoOrder : PySem.W.excIn K C_NoOrder [.type "ValueError", .type "Exception", .type "BaseException", .type "object"] "ValueError.__new__" = true
  kC_NoOrder : PySem.W.keepIn K (.ref C_NoOrder) = true
  bC_NoOrder : PySem.W.subIn K (.ref C_NoOrder) (.type "BaseException") = some true
  tC_NoOrder : PySem.W.typeIn K (.ref C_NoOrder) = some (.type "type")
  C_TooLong : Addr
  gC_TooLong : mg "TooLong" = some (.ref C_TooLong)
  x_TooLong : PySem.W.excIn K C_TooLong [.type "ValueError", .type "Exception", .type "BaseException", .type "object"] "ValueError.__new__" = true
  kC_TooLong : PySem.W.keepIn K (.ref C_TooLong) = true
  bC_TooLong : PySem.W.subIn K (.ref C_TooLong) (.type "BaseException") = some true
  tC_TooLong : PySem.W.typeIn K (.ref C_TooLong) = some (.type "type")
  C_NoSize : Addr
  gC_NoSize : mg "NoSize" = some (.ref C_NoSize)
  x_NoSize : PySem.W.excIn K C_NoSize [.type "ValueError", .type "Exception", .type "BaseException", .type "object"] "ValueError.__new__" = true
  kC_NoSize : PySem.W.keepIn K (.ref C_NoSize) = true
  bC_NoSize : PySem.W.subIn K (.ref C_NoSize) (.type "BaseException") = some true
  tC_NoSize : PySem.W.typeIn K (.ref C_NoSize) = some (.type "type")
  C_NoNumber : Addr
  gC_NoNumber : mg "NoNumber" = some (.ref C_NoNumber)
  x_NoNumber : PySem.W.excIn K C_NoNumber [.type "ValueError", .type "Exception", .type "BaseException", .type "object"] "ValueError.__new__" = true
  kC_NoNumber : PySem.W.keepIn K (.ref C_NoNumber) = true
  bC_NoNumber : PySem.W.subIn K (.ref C_NoNumber) (.type "BaseException") = some true
  tC_NoNumber : PySem.W.typeIn K (.ref C_NoNumber) = some (.type "type")
  C_HasOrder : Addr
  gC_HasOrder : mg "HasOrder" = some (.ref C_HasOrder)
  x_HasOrder : PySem.W.excIn K C_HasOrder [.type "ValueError", .type "Exception", .type "BaseException", .type "object"] "ValueError.__new__" = true
  kC_HasOrder : PySem.W.keepIn K (.ref C_HasOrder) = true
  bC_HasOrder : PySem.W.subIn K (.ref C_HasOrder) (.type "BaseException") = some true
  tC_HasOrder : PySem.W.typeIn K (.ref C_HasOrder) = some (.type "type")
  C_OrderError : Addr
  gC_OrderError : mg "OrderError" = some (.ref C_OrderError)
  x_OrderError : PySem.W.excIn K C_OrderError [.type "ValueError", .type "Exception", .type "BaseException", .type "object"] "ValueError.__new__" = true
  kC_OrderError : PySem.W.keepIn K (.ref C_OrderError) = true
  bC_OrderError : PySem.W.subIn K (.ref C_OrderError) (.type "BaseException") = some true
  tC_OrderError : PySem.W.typeIn K (.ref C_OrderError) = some (.type "type")
  hd_NoRow : PySem.W.hasDictIn K C_NoRow = true
  hd_NoShape : PySem.W.hasDictIn K C_NoShape = true
  hd_NoOrder : PySem.W.hasDictIn K C_NoOrder = true
  hd_TooLong : PySem.W.hasDictIn K C_TooLong = true
  hd_NoSize : PySem.W.hasDictIn K C_NoSize = true
  hd_NoNumber : PySem.W.hasDictIn K C_NoNumber = true
  hd_HasOrder : PySem.W.hasDictIn K C_HasOrder = true
  hd_OrderError : PySem.W.hasDictIn K C_OrderError = true
  ex_NoRow : ExcC K C_NoRow
  sV_NoRow : PySem.W.subIn K (.ref C_NoRow) (.type "ValueError") = some true
  s_NoRow_NoRow : PySem.W.subIn K (.ref C_NoRow) (.ref C_NoRow) = some true
  s_NoRow_NoShape : PySem.W.subIn K (.ref C_NoRow) (.ref C_NoShape) = some false
  s_NoRow_NoOrder : PySem.W.subIn K (.ref C_NoRow) (.ref C_NoOrder) = some false
  s_NoRow_TooLong : PySem.W.subIn K (.ref C_NoRow) (.ref C_TooLong) = some false
  s_NoRow_NoSize : PySem.W.subIn K (.ref C_NoRow) (.ref C_NoSize) = some false
  s_NoRow_NoNumber : PySem.W.subIn K (.ref C_NoRow) (.ref C_NoNumber) = some false
  s_NoRow_HasOrder : PySem.W.subIn K (.ref C_NoRow) (.ref C_HasOrder) = some false
  s_NoRow_OrderError : PySem.W.subIn K (.ref C_NoRow) (.ref C_OrderError) = some true
  ex_NoShape : ExcC K C_NoShape
  sV_NoShape : PySem.W.subIn K (.ref C_NoShape) (.type "ValueError") = some true
  s_NoShape_NoRow : PySem.W.subIn K (.ref C_NoShape) (.ref C_NoRow) = some false
  s_NoShape_NoShape : PySem.W.subIn K (.ref C_NoShape) (.ref C_NoShape) = some true
  s_NoShape_NoOrder : PySem.W.subIn K (.ref C_NoShape) (.ref C_NoOrder) = some false
  s_NoShape_TooLong : PySem.W.subIn K (.ref C_NoShape) (.ref C_TooLong) = some false
  s_NoShape_NoSize : PySem.W.subIn K (.ref C_NoShape) (.ref C_NoSize) = some false
  s_NoShape_NoNumber : PySem.W.subIn K (.ref C_NoShape) (.ref C_NoNumber) = some false
  s_NoShape_HasOrder : PySem.W.subIn K (.ref C_NoShape) (.ref C_HasOrder) = some false
  s_NoShape_OrderError : PySem.W.subIn K (.ref C_NoShape) (.ref C_OrderError) = some true
  ex_NoOrder : ExcC K C_NoOrder
  sV_NoOrder : PySem.W.subIn K (.ref C_NoOrder) (.type "ValueError") = some true
  s_NoOrder_NoRow : PySem.W.subIn K (.ref C_NoOrder) (.ref C_NoRow) = some false
  s_NoOrder_NoShape : PySem.W.subIn K (.ref C_NoOrder) (.ref C_NoShape) = some false
  s_NoOrder_NoOrder : PySem.W.subIn K (.ref C_NoOrder) (.ref C_NoOrder) = some true
  s_NoOrder_TooLong : PySem.W.subIn K (.ref C_NoOrder) (.ref C_TooLong) = some false
  s_NoOrder_NoSize : PySem.W.subIn K (.ref C_NoOrder) (.ref C_NoSize) = some false
  s_NoOrder_NoNumber : PySem.W.subIn K (.ref C_NoOrder) (.ref C_NoNumber) = some false
  s_NoOrder_HasOrder : PySem.W.subIn K (.ref C_NoOrder) (.ref C_HasOrder) = some false
  s_NoOrder_OrderError : PySem.W.subIn K (.ref C_NoOrder) (.ref C_OrderError) = some true
  ex_TooLong : ExcC K C_TooLong
  sV_TooLong : PySem.W.subIn K (.ref C_TooLong) (.type "ValueError") = some true
  s_TooLong_NoRow : PySem.W.subIn K (.ref C_TooLong) (.ref C_NoRow) = some false
  s_TooLong_NoShape : PySem.W.subIn K (.ref C_TooLong) (.ref C_NoShape) = some false
  s_TooLong_NoOrder : PySem.W.subIn K (.ref C_TooLong) (.ref C_NoOrder) = some false
  s_TooLong_TooLong : PySem.W.subIn K (.ref C_TooLong) (.ref C_TooLong) = some true
  s_TooLong_NoSize : PySem.W.subIn K (.ref C_TooLong) (.ref C_NoSize) = some false
  s_TooLong_NoNumber : PySem.W.subIn K (.ref C_TooLong) (.ref C_NoNumber) = some false
  s_TooLong_HasOrder : PySem.W.subIn K (.ref C_TooLong) (.ref C_HasOrder) = some false
  s_TooLong_OrderError : PySem.W.subIn K (.ref C_TooLong) (.ref C_OrderError) = some true
  ex_NoSize : ExcC K C_NoSize
  sV_NoSize : PySem.W.subIn K (.ref C_NoSize) (.type "ValueError") = some true
  s_NoSize_NoRow : PySem.W.subIn K (.ref C_NoSize) (.ref C_NoRow) = some false
  s_NoSize_NoShape : PySem.W.subIn K (.ref C_NoSize) (.ref C_NoShape) = some false
  s_NoSize_NoOrder : PySem.W.subIn K (.ref C_NoSize) (.ref C_NoOrder) = some false
  s_NoSize_TooLong : PySem.W.subIn K (.ref C_NoSize) (.ref C_TooLong) = some false
  s_NoSize_NoSize : PySem.W.subIn K (.ref C_NoSize) (.ref C_NoSize) = some true
  s_NoSize_NoNumber : PySem.W.subIn K (.ref C_NoSize) (.ref C_NoNumber) = some false
  s_NoSize_HasOrder : PySem.W.subIn K (.ref C_NoSize) (.ref C_HasOrder) = some false
  s_NoSize_OrderError : PySem.W.subIn K (.ref C_NoSize) (.ref C_OrderError) = some true
  ex_NoNumber : ExcC K C_NoNumber
  sV_NoNumber : PySem.W.subIn K (.ref C_NoNumber) (.type "ValueError") = some true
  s_NoNumber_NoRow : PySem.W.subIn K (.ref C_NoNumber) (.ref C_NoRow) = some false
  s_NoNumber_NoShape : PySem.W.subIn K (.ref C_NoNumber) (.ref C_NoShape) = some false
  s_NoNumber_NoOrder : PySem.W.subIn K (.ref C_NoNumber) (.ref C_NoOrder) = some false
  s_NoNumber_TooLong : PySem.W.subIn K (.ref C_NoNumber) (.ref C_TooLong) = some false
  s_NoNumber_NoSize : PySem.W.subIn K (.ref C_NoNumber) (.ref C_NoSize) = some false
  s_NoNumber_NoNumber : PySem.W.subIn K (.ref C_NoNumber) (.ref C_NoNumber) = some true
  s_NoNumber_HasOrder : PySem.W.subIn K (.ref C_NoNumber) (.ref C_HasOrder) = some false
  s_NoNumber_OrderError : PySem.W.subIn K (.ref C_NoNumber) (.ref C_OrderError) = some true
  ex_HasOrder : ExcC K C_HasOrder
  sV_HasOrder : PySem.W.subIn K (.ref C_HasOrder) (.type "ValueError") = some true
  s_HasOrder_NoRow : PySem.W.subIn K (.ref C_HasOrder) (.ref C_NoRow) = some false
  s_HasOrder_NoShape : PySem.W.subIn K (.ref C_HasOrder) (.ref C_NoShape) = some false
  s_HasOrder_NoOrder : PySem.W.subIn K (.ref C_HasOrder) (.ref C_NoOrder) = some false
  s_HasOrder_TooLong : PySem.W.subIn K (.ref C_HasOrder) (.ref C_TooLong) = some false
  s_HasOrder_NoSize : PySem.W.subIn K (.ref C_HasOrder) (.ref C_NoSize) = some false
  s_HasOrder_NoNumber : PySem.W.subIn K (.ref C_HasOrder) (.ref C_NoNumber) = some false
  s_HasOrder_HasOrder : PySem.W.subIn K (.ref C_HasOrder) (.ref C_HasOrder) = some true
  s_HasOrder_OrderError : PySem.W.subIn K (.ref C_HasOrder) (.ref C_OrderError) = some true
end Sh

namespace Sh
section
variable {P : Program} {w : World} {K : PySem.W.Frag} {mg : Str → Option Value} {base : Heap}
def sp__law_cell_at (T : Tx K mg) : Sp := fun vs H Q _ => ∃ (a : Addr) (ns : List Int) (k : Int), vs = [.ref a, .int k] ∧ SqL K H a (ns.map V.int) ∧ 0 ≤ k ∧ Q (.int (ns.getD k.toNat 0)) H
theorem ok__law_cell_at (T : Tx K mg) : FnOk P w K mg base CX0 1 T.f__law_cell_at T.fd__law_cell_at ["script", "k"] (sp__law_cell_at T) := by
  refine T.F__law_cell_at.ok sc__law_cell_at (fun vs H Q E h => ?_) (fun cdv A outer s H vs Q E hr h => ?_)
  · obtain ⟨a, ns, k, rfl, _⟩ := h
    rfl
  · obtain ⟨a, ns, k, rfl, hS, hk, q⟩ := h
    refine ⟨_, (pss_cons (by exact (ps_if (pt_cmpR (op_lt) (pv 1) (by exact (pe_callB call_lenS (by rfl) T.m_len PySem.boot_len (pa_cons (pv 0) pa_nil))) (nomark _)) (pss_one (by exact (ps_ret (pe_ix ix_list (pv 0) (pv 1) (fun _ _ => rfl))))) pss_nil))
        (pss_one (by exact (ps_ret pe_int)))), ?_⟩
    rw [show (start ["script", "k"] [V.ref a, V.int k] : L2.St) = [some (V.ref a), some (V.int k)] from rfl]
    walk_at "rd"
    refine ⟨_, .inl hS, ?_⟩
    walk_at "rd"
    obtain ⟨j, rfl⟩ : ∃ j : Nat, k = (j : Int) := ⟨k.toNat, by omega⟩
    rw [Int.toNat_natCast] at q
    refine ite2 (fun c => ?_) (fun c => ?_)
    · have hi : j < ns.length := by omega
      refine ⟨_, hS, .int (ns.getD j 0), atI_nat ?_, q⟩
      rw [List.getElem?_map, List.getElem?_eq_getElem hi, List.getD_eq_getElem?_getD, List.getElem?_eq_getElem hi]
      rfl
    · have e : ns.getD j 0 = 0 := by
        rw [List.getD_eq_getElem?_getD, List.getElem?_eq_none (by omega)] <;> rfl
      rw [e] at q
      exact q

end
end Sh

namespace Sh
section
variable {P : Program} {w : World} {K : PySem.W.Frag} {mg : Str → Option Value} {base : Heap}
def sp_ask_row (T : Tx K mg) : Sp := fun vs H Q E => ∃ (a : Addr) (ns : List Int), vs = [.ref a] ∧ SqL K H a (ns.map V.int) ∧ ns.length ≤ 4000 ∧ (rowOk ns → Q .non H) ∧ (¬ rowOk ns → E (.ref T.C_NoRow) none H)
theorem ok_ask_row (T : Tx K mg) : FnOk P w K mg base (L2.CX P w) 1 T.f_ask_row T.fd_ask_row ["row"] (sp_ask_row T) := by
  refine T.F_ask_row.okX sc_ask_row (fun vs H Q E h => ?_) (fun cdv A outer s H vs Q E hr h => ?_)
  · obtain ⟨a, ns, rfl, _⟩ := h
    rfl
  · obtain ⟨a, ns, rfl, hS, hl, q1, q2⟩ := h
    refine ⟨_, (pss_one (by exact (ps_if (PW.pt (pw_or (pt_cmpR (op_gt) (by exact (pe_callB call_lenS (by rfl) T.m_len PySem.boot_len (pa_cons (pv 0) pa_nil))) (pe_glob (v := .int 30) rfl T.g_MOST ⟨_, rfl⟩) (nomark _)) (pw_or1 (pt_cmpR (op_lt) (by exact (pe_lenSetG (by rfl) T.m_len (by rfl) T.m_set (pv 0))) (by exact (pe_callB call_lenS (by rfl) T.m_len PySem.boot_len (pa_cons (pv 0) pa_nil))) (nomark _))))) (pss_one (by exact (ps_raise rfl (takes_of rfl rfl rfl rfl) (pmk_own PySem.F.excBase_ValueError T.x_NoRow T.gC_NoRow T.kC_NoRow (raises_own T.bC_NoRow T.tC_NoRow) (by exact rfl))))) pss_nil))), ?_⟩
    rw [show (start ["row"] [V.ref a] : L2.St) = [some (V.ref a)] from rfl]
    walk_at "rd"
    refine ⟨_, .inl hS, ?_⟩
    walk_at "rd"
    refine ite2 (fun c => q2 fun z => ?_) (fun c => ⟨ns, hS, hl, _, .inl hS, ?_⟩)
    · have := z.1; omega
    · walk_at "rd"
      refine ite2 (fun d => q2 fun z => ?_) (fun d => q1 ⟨by omega, ?_⟩)
      · exact (dedup_lt ns).mp d z.2
      · exact Classical.byContradiction fun z => d ((dedup_lt ns).mpr z)

end
end Sh

namespace Sh
section
variable {P : Program} {w : World} {K : PySem.W.Frag} {mg : Str → Option Value} {base : Heap}
def sp_ranks (T : Tx K mg) : Sp := fun vs H Q _ => ∃ (a : Addr) (ns : List Int), vs = [.ref a] ∧ SqL K H a (ns.map V.int) ∧ ns.length ≤ 4000 ∧ ∀ H' p, Same H H' → H p = none → H' p = some (.lst ((rk ns).map V.int)) → Q (.ref p) H'
theorem ok_ranks (T : Tx K mg) : FnOk P w K mg base CX0 1 T.f_ranks T.fd_ranks ["row"] (sp_ranks T) := by
  refine T.F_ranks.ok sc_ranks (fun vs H Q E h => ?_) (fun cdv A outer s H vs Q E hr h => ?_)
  · obtain ⟨a, ns, rfl, _⟩ := h
    rfl
  · obtain ⟨a, ns, rfl, hS, hlen, q⟩ := h
    refine ⟨_, (pss_cons (by exact (ps_set (i := 1) sc_ranks.nd rfl (Or.inr rfl) (by exact (pe_callB cr_sortedI (by rfl) T.m_sorted (by decide +kernel) (pa_cons (pv 0) pa_nil)))))
        (pss_one (by exact (ps_ret (by exact (pe_lc (own := [("number", 2)]) (g := gName 2) (tt := tYes) (te := (tBM K "list" (rIndex K) (tVar 1) (tCons (tVar 2) tNil))) rfl sc_ranks.nd (pi_list (pv 0)) (blkOk_by (N := ["row", "rising", "number"]) (sc := defScope s_ranks) (by decide +kernel)) (fun _ _ _ _ _ => by exact (pg_name (i := 2) sc_ranks.nd rfl (by first | exact Or.inl rfl | exact Or.inr rfl))) (fun _ _ _ _ _ => pts_nil) (fun _ _ _ _ _ => by exact (pe_bm PySem.F.plainAttrs_list PySem.F.slot_list_index PySem.F.type_list_index mt_index (pv 1) (pa_cons (pv 2) pa_nil))))))))), ?_⟩
    rw [show (start ["row", "rising", "number"] [V.ref a] : L2.St) = [some (V.ref a), none, none] from rfl]
    walk_at "rd"
    refine ⟨ns, hS, fun ns' p perm ri np => ⟨⟨_, sql_new np hS⟩, fun D nD => ?_⟩⟩
    refine lcK_map ns V.int (fun x => V.int (lessN ns x)) nD (sql_new np hS) (by omega) (fun i x acc H' QT hx hs hD hq => ?_) (fun H' hs hD => ?_)
    · walk_at "rd"
      have hR : SqL K H' p (ns'.map V.int) := hs.seq sql_self
      obtain ⟨j, ej, hj, hm⟩ := rk_index perm ri x (List.mem_of_getElem? hx)
      refine ⟨tBM_list hR, _, hR, rfl, flat_ints _, j, .int x, by rw [List.getElem?_map, hj] <;> rfl, by rw [eqV_int] <;> simp, fun m z' hmj hz => ?_, ?_⟩
      · obtain ⟨y, hy, rfl⟩ := at_map hz
        rw [eqV_int, decide_eq_false (hm m y hmj hy)]
      · rw [ej]
        exact hq H' hs hD
    · refine q H' D ((same_new np).trans hs) ((same_new np).free nD) ?_
      rw [hD, rk, List.map_map]
      rfl

end
end Sh

namespace Sh
section
variable {P : Program} {w : World} {K : PySem.W.Frag} {mg : Str → Option Value} {base : Heap}
def sp_shape_of (T : Tx K mg) : Sp := fun vs H Q E => ∃ (a : Addr) (ns : List Int), vs = [.ref a] ∧ SqL K H a (ns.map V.int) ∧ ns.length ≤ 4000 ∧ (rowOk ns → ∀ H' p, Same H H' → H p = none → H' p = some (.lst ((rk ns).map V.int)) → Q (.ref p) H') ∧ (¬ rowOk ns → E (.ref T.C_NoRow) none H)
theorem ok_shape_of (T : Tx K mg) : FnOk P w K mg base (L2.CX P w) 2 T.f_shape_of T.fd_shape_of ["row"] (sp_shape_of T) := by
  refine T.F_shape_of.okX sc_shape_of (fun vs H Q E h => ?_) (fun cdv A outer s H vs Q E hr h => ?_)
  · obtain ⟨a, ns, rfl, _⟩ := h
    rfl
  · obtain ⟨a, ns, rfl, hS, hl, q1, q2⟩ := h
    refine ⟨_, (pss_cons (by exact (ps_expr (by exact (pe_call (ok_ask_row T) (hr.mono (by decide)) (by rfl) T.g_ask_row T.F_ask_row.kp T.b_ask_row .nil (passes_call (takes_of rfl rfl rfl rfl) (fun _ _ _ _ h => h)) (pa_cons (pv 0) pa_nil)))))
        (pss_one (by exact (ps_ret (by exact (pe_call (ok_ranks T) (hr.mono (by decide)) (by rfl) T.g_ranks T.F_ranks.kp T.b_ranks .nil pass0 (pa_cons (pv 0) pa_nil))))))), ?_⟩
    rw [show (start ["row"] [V.ref a] : L2.St) = [some (V.ref a)] from rfl]
    walk_at "rd"
    refine ⟨a, ns, rfl, hS, hl, fun ok => ?_, q2⟩
    walk_at "rd"
    exact ⟨a, ns, rfl, hS, hl, q1 ok⟩

end
end Sh

namespace Sh
section
variable {P : Program} {w : World} {K : PySem.W.Frag} {mg : Str → Option Value} {base : Heap}
def sp_is_shape (T : Tx K mg) : Sp := fun vs H Q E => ∃ (a : Addr) (ns : List Int), vs = [.ref a] ∧ SqL K H a (ns.map V.int) ∧ ns.length ≤ 4000 ∧ ∀ H', Same H H' → Q (.bl (decide (shapeOk ns))) H'
theorem ok_is_shape (T : Tx K mg) : FnOk P w K mg base CX0 1 T.f_is_shape T.fd_is_shape ["some"] (sp_is_shape T) := by
  refine T.F_is_shape.ok sc_is_shape (fun vs H Q E h => ?_) (fun cdv A outer s H vs Q E hr h => ?_)
  · obtain ⟨a, ns, rfl, _⟩ := h
    rfl
  · obtain ⟨a, ns, rfl, hS, hl, q⟩ := h
    refine ⟨_, (pss_one (by exact (ps_ret (pe_and (pe_cmpR (op_le) (by exact (pe_callB call_lenS (by rfl) T.m_len PySem.boot_len (pa_cons (pv 0) pa_nil))) (pe_glob (v := .int 30) rfl T.g_MOST ⟨_, rfl⟩) (nomark _)) (pe_one (pe_cmpR (op_eqD hr.units) (by exact (pe_callB cr_sortedI (by rfl) T.m_sorted (by decide +kernel) (pa_cons (pv 0) pa_nil))) (by exact (pe_listRg rfl (by rfl) T.m_list (prg_1 (by rfl) T.m_range (by exact (pe_callB call_lenS (by rfl) T.m_len PySem.boot_len (pa_cons (pv 0) pa_nil)))))) (nomark _))))))), ?_⟩
    rw [show (start ["some"] [V.ref a] : L2.St) = [some (V.ref a)] from rfl]
    walk_at "rd"
    refine ⟨_, .inl hS, ?_⟩
    walk_at "rd"
    refine ite2 (fun c => ⟨ns, hS, fun ns' p perm ri np => ⟨_, .inl (sql_new np hS), ?_⟩⟩) (fun c => ?_)
    · walk_at "rd"
      refine ⟨⟨by decide, by decide, by omega, by omega, by omega⟩, fun r nr => ?_⟩
      refine rEq_ints (ns := ns') (ms := rangeI ns.length) (sql_new nr sql_self) (by rw [rgV_range]; exact sql_self) ?_
      have e : decide (ns' = rangeI ns.length) = decide (shapeOk ns) := by
        refine decide_eq_decide.mpr ((shape_sorted perm ri).trans ⟨fun z => ⟨by omega, z⟩, fun z => z.2⟩)
      rw [e]
      exact q _ ((same_new np).trans (same_new nr))
    · have e : decide (shapeOk ns) = false := decide_eq_false fun z => by have := z.1; omega
      have := q H (Same.refl H)
      rw [e] at this
      exact this

end
end Sh

namespace Sh
section
variable {P : Program} {w : World} {K : PySem.W.Frag} {mg : Str → Option Value} {base : Heap}
def sp_ask_shape (T : Tx K mg) : Sp := fun vs H Q E => ∃ (a : Addr) (ns : List Int), vs = [.ref a] ∧ SqL K H a (ns.map V.int) ∧ ns.length ≤ 4000 ∧ (shapeOk ns → ∀ H', Same H H' → Q .non H') ∧ (¬ shapeOk ns → ∀ H', Same H H' → E (.ref T.C_NoShape) none H')
theorem ok_ask_shape (T : Tx K mg) : FnOk P w K mg base (L2.CX P w) 2 T.f_ask_shape T.fd_ask_shape ["shape"] (sp_ask_shape T) := by
  refine T.F_ask_shape.okX sc_ask_shape (fun vs H Q E h => ?_) (fun cdv A outer s H vs Q E hr h => ?_)
  · obtain ⟨a, ns, rfl, _⟩ := h
    rfl
  · obtain ⟨a, ns, rfl, hS, hl, q1, q2⟩ := h
    refine ⟨_, (pss_one (by exact (ps_if (pt_not (pt_val (by exact (pe_call (ok_is_shape T) (hr.mono (by decide)) (by rfl) T.g_is_shape T.F_is_shape.kp T.b_is_shape .nil pass0 (pa_cons (pv 0) pa_nil))))) (pss_one (by exact (ps_raise rfl (takes_of rfl rfl rfl rfl) (pmk_own PySem.F.excBase_ValueError T.x_NoShape T.gC_NoShape T.kC_NoShape (raises_own T.bC_NoShape T.tC_NoShape) (by exact rfl))))) pss_nil))), ?_⟩
    rw [show (start ["shape"] [V.ref a] : L2.St) = [some (V.ref a)] from rfl]
    walk_at "rd"
    refine ⟨a, ns, rfl, hS, hl, fun H' s => ⟨_, rfl, ite2 (fun c => ?_) (fun c => ?_)⟩⟩
    · exact q2 (of_decide_eq_false c) H' s
    · exact q1 (of_decide_eq_true (by simpa using c)) H' s

end
end Sh

namespace Sh
section
variable {P : Program} {w : World} {K : PySem.W.Frag} {mg : Str → Option Value} {base : Heap}
def sp_ask_order (T : Tx K mg) : Sp := fun vs H Q E => ∃ (a : Addr) (ns : List Int), vs = [.ref a] ∧ SqL K H a (ns.map V.int) ∧ ns.length ≤ 4000 ∧ (shapeOk ns → 1 ≤ ns.length ∧ ns.length ≤ 4 → ∀ H', Same H H' → Q .non H') ∧ (¬ shapeOk ns → ∀ H', Same H H' → E (.ref T.C_NoShape) none H') ∧ (shapeOk ns → ¬ (1 ≤ ns.length ∧ ns.length ≤ 4) → ∀ H', Same H H' → E (.ref T.C_NoOrder) none H')
theorem ok_ask_order (T : Tx K mg) : FnOk P w K mg base (L2.CX P w) 3 T.f_ask_order T.fd_ask_order ["order"] (sp_ask_order T) := by
  refine T.F_ask_order.okX sc_ask_order (fun vs H Q E h => ?_) (fun cdv A outer s H vs Q E hr h => ?_)
  · obtain ⟨a, ns, rfl, _⟩ := h
    rfl
  · obtain ⟨a, ns, rfl, hS, hl, q1, q2, q3⟩ := h
    refine ⟨_, (pss_cons (by exact (ps_expr (by exact (pe_call (ok_ask_shape T) (hr.mono (by decide)) (by rfl) T.g_ask_shape T.F_ask_shape.kp T.b_ask_shape .nil (passes_call (takes_of rfl rfl rfl rfl) (fun _ _ _ _ h => h)) (pa_cons (pv 0) pa_nil)))))
        (pss_one (by exact (ps_if (pt_not (pt_chain (op_le) (op_le) pe_int (by exact (pe_callB call_lenS (by rfl) T.m_len PySem.boot_len (pa_cons (pv 0) pa_nil))) (pe_glob (v := .int 4) rfl T.g_MOST_ORDER ⟨_, rfl⟩))) (pss_one (by exact (ps_raise rfl (takes_of rfl rfl rfl rfl) (pmk_own PySem.F.excBase_ValueError T.x_NoOrder T.gC_NoOrder T.kC_NoOrder (raises_own T.bC_NoOrder T.tC_NoOrder) (by exact rfl))))) pss_nil)))), ?_⟩
    rw [show (start ["order"] [V.ref a] : L2.St) = [some (V.ref a)] from rfl]
    walk_at "rd"
    refine ⟨a, ns, rfl, hS, hl, fun ok H1 s1 => ?_, q2⟩
    walk_at "rd"
    refine ⟨_, .inl (s1.seq hS), ?_⟩
    simp only [List.length_map]
    exact ite2 (fun c => ite2 (fun d => q3 ok (fun z => d (by omega)) _ s1) (fun d => q1 ok (by omega) _ s1)) (fun c => q3 ok (fun z => c (by omega)) _ s1)

end
end Sh

namespace Sh
section
variable {P : Program} {w : World} {K : PySem.W.Frag} {mg : Str → Option Value} {base : Heap}
def sp_fits (T : Tx K mg) : Sp := fun vs H Q E => ∃ (a b c : Addr) (row order : List Int) (t : List Nat), vs = [.ref a, .ref b, .ref c] ∧ SqL K H a (row.map V.int) ∧ SqL K H b (t.map nV) ∧ SqL K H c (order.map V.int) ∧ row.length ≤ 4000 ∧ t.length ≤ 4000 ∧ order.length ≤ 4000 ∧ (∀ i ∈ t, i < row.length) ∧ ∀ H', Same H H' → Q (.bl (fitsB row order t)) H'
theorem ok_fits (T : Tx K mg) : FnOk P w K mg base CX0 2 T.f_fits T.fd_fits ["row", "told", "order"] (sp_fits T) := by
  refine T.F_fits.ok sc_fits (fun vs H Q E h => ?_) (fun cdv A outer s H vs Q E hr h => ?_)
  · obtain ⟨a, b, c, row, order, t, rfl, _⟩ := h
    rfl
  · obtain ⟨a, b, c, row, order, t, rfl, hA, hB, hC, lA, lB, lC, ht, q⟩ := h
    refine ⟨_, (pss_cons (by exact (ps_set (i := 3) sc_fits.nd rfl (Or.inl rfl) (by exact (pe_call (ok_ranks T) (hr.mono (by decide)) (by rfl) T.g_ranks T.F_ranks.kp T.b_ranks .nil pass0 (pa_cons (by exact (pe_lc (own := [("place", 4)]) (g := gName 4) (tt := tYes) (te := (tOp (rIxL K) (tVar 0) (tVar 4))) rfl sc_fits.nd (pi_list (pv 1)) (blkOk_by (N := ["row", "told", "order", "here", "place"]) (sc := defScope s_fits) (by decide +kernel)) (fun _ _ _ _ _ => by exact (pg_name (i := 4) sc_fits.nd rfl (by first | exact Or.inl rfl | exact Or.inr rfl))) (fun _ _ _ _ _ => pts_nil) (fun _ _ _ _ _ => by exact (pe_ix ix_list (pv 0) (pv 4) (fun _ _ => rfl))))) pa_nil)))))
        (pss_one (by exact (ps_ret (pe_cmpR (op_eqD hr.units) (pv 3) (by exact (pe_call (ok_ranks T) (hr.mono (by decide)) (by rfl) T.g_ranks T.F_ranks.kp T.b_ranks .nil pass0 (pa_cons (pe_slice sl_list (pv 2) po_none (po_some (by exact (pe_callB call_lenS (by rfl) T.m_len PySem.boot_len (pa_cons (pv 1) pa_nil))))) pa_nil))) (nomark _)))))), ?_⟩
    rw [show (start ["row", "told", "order", "here", "place"] [V.ref a, V.ref b, V.ref c] : L2.St) = [some (V.ref a), some (V.ref b), some (V.ref c), none, none] from rfl]
    walk_at "rd"
    refine ⟨⟨_, hB⟩, fun D nD => ?_⟩
    refine lcK_map t nV (fun i => V.int (row.getD i 0)) nD hB (by omega) (fun i x acc H' QT hx hs hD hq => ?_) (fun H1 s1 hD => ?_)
    · walk_at "rd"
      have hx2 := ht x (List.mem_of_getElem? hx)
      refine ⟨_, hs.seq hA, _, atI_ints (by omega) (by omega), ?_⟩
      rw [Int.toNat_natCast]
      exact hq _ hs hD
    · refine ⟨D, sel row t, rfl, SqL.of (by rw [hD, sel, List.map_map]; rfl), by simp [sel]; omega, fun H2 p s2 np hp => ?_⟩
      have s12 := s1.trans s2
      walk_at "rd"
      refine ⟨_, .inl (s12.seq hB), _, s12.seq hC, fun r nr => ?_⟩
      rw [List.length_map, cut_to, ← List.map_take]
      refine ⟨r, order.take t.length, rfl, sql_self, by simp; omega, fun H3 z s3 nz hz => ?_⟩
      exact rEq_ints (SqL.of (s3 _ _ (same_new nr _ _ hp))) (SqL.of hz) (q _ ((s12.trans (same_new nr)).trans s3))

end
end Sh

namespace Sh
section
variable {P : Program} {w : World} {K : PySem.W.Frag} {mg : Str → Option Value} {base : Heap}
def LLN (H : Hp) (bs : List (Addr × List Nat)) : Prop := ∀ b ∈ bs, H b.1 = some (.lst (b.2.map nV))
def sp_grown (T : Tx K mg) : Sp := fun vs H Q E => ∃ (a b c : Addr) (row order : List Int) (t : List Nat), vs = [.ref a, .ref c, .ref b] ∧ SqL K H a (row.map V.int) ∧ H b = some (.lst (t.map nV)) ∧ SqL K H c (order.map V.int) ∧ row.length ≤ 4000 ∧ t.length ≤ 2000 ∧ order.length ≤ 4000 ∧ (∀ i ∈ t, i < row.length) ∧
  ∀ (bs : List (Addr × List Nat)) H' p, Same H H' → H p = none → H' p = some (.lst (bs.map fun b => V.ref b.1)) → (∀ b ∈ bs, H' b.1 = some (.lst (b.2.map nV))) → (∀ b ∈ bs, H b.1 = none) → bs.map Prod.snd = grownL row order t → Q (.ref p) H'
theorem ok_grown (T : Tx K mg) : FnOk P w K mg base CX0 3 T.f_grown T.fd_grown ["row", "order", "told"] (sp_grown T) := by
  refine T.F_grown.ok sc_grown (fun vs H Q E h => ?_) (fun cdv A outer s H vs Q E hr h => ?_)
  · obtain ⟨a, b, c, row, order, t, rfl, _⟩ := h
    rfl
  · obtain ⟨a, b, c, row, order, t, rfl, hA, hB, hC, lA, lB, lC, ht, q⟩ := h
    refine ⟨_, (pss_cons (by exact (ps_set (i := 3) sc_grown.nd rfl (Or.inl rfl) (by exact (pe_ifExp (pt_cmpR (op_gt) (by exact (pe_callB call_lenS (by rfl) T.m_len PySem.boot_len (pa_cons (pv 2) pa_nil))) pe_int (nomark _)) (pe_op op_add (pe_ix ix_list (pv 2) (pe_un un_neg pe_int) (fun _ _ => rfl)) pe_int) pe_int))))
        (pss_cons (by exact (ps_setLc (i := 4) (own := [("place", 5)]) (g := gName 5) (tt := tYes) (te := (tOp rCat (tVar 2) (tLst (tCons (tVar 5) tNil)))) rfl sc_grown.nd rfl rfl (sw_true rfl rfl rfl (by decide +kernel)) (pi_range2 rfl T.m_range (pa_cons (pv 3) (pa_cons (by exact (pe_callB call_lenS (by rfl) T.m_len PySem.boot_len (pa_cons (pv 0) pa_nil))) pa_nil))) (blkOk_by (N := ["row", "order", "told", "start", "more", "place", "some"]) (sc := defScope s_grown) (by decide +kernel)) (fun _ _ _ _ _ => by exact (pg_name (i := 5) sc_grown.nd rfl (by first | exact Or.inl rfl | exact Or.inr rfl))) (fun _ _ _ _ _ => pts_nil) (fun _ _ _ _ _ => by exact (pe_op op_cat (pv 2) (pe_lst (pa_cons (pv 5) pa_nil))))))
        (pss_one (by exact (ps_ret (by exact (pe_lc (own := [("some", 6)]) (g := gName 6) (tt := (tB (tCall (sp_fits T) [] E0 (tCons (tVar 0) (tCons (tVar 6) (tCons (tVar 1) tNil)))))) (te := (tVar 6)) rfl sc_grown.nd (pi_list (pv 4)) (blkOk_by (N := ["row", "order", "told", "start", "more", "place", "some"]) (sc := defScope s_grown) (by decide +kernel)) (fun _ _ _ _ _ => by exact (pg_name (i := 6) sc_grown.nd rfl (by first | exact Or.inl rfl | exact Or.inr rfl))) (fun _ _ _ _ _ => by exact (pts_one (pt_val (by exact (pe_call (ok_fits T) (hr.mono (by decide)) (by rfl) T.g_fits T.F_fits.kp T.b_fits .nil pass0 (pa_cons (pv 0) (pa_cons (pv 6) (pa_cons (pv 1) pa_nil)))))))) (fun _ _ _ _ _ => by exact (pv 6))))))))), ?_⟩
    rw [show (start ["row", "order", "told", "start", "more", "place", "some"] [V.ref a, V.ref c, V.ref b] : L2.St) = [some (V.ref a), some (V.ref c), some (V.ref b), none, none, none, none] from rfl]
    walk_at "rd"
    refine ⟨_, .inl (SqL.of hB), ?_⟩
    simp only [List.length_map]
    have st : startN t ≤ row.length := by
      unfold startN
      split
      · omega
      · rename_i h0; have := ht _ (last_mem h0); omega
    refine ite2 (fun cc => ?_) (fun cc => ?_)
    have h0 : t ≠ [] := fun z => by rw [z] at cc; simp at cc
    have hst : ((t.getLastD 0 : Nat) : Int) + 1 = ((startN t : Nat) : Int) := by unfold startN; rw [if_neg h0]; omega
    refine ⟨_, SqL.of hB, _, atI_lastN h0, _, rfl, ?_⟩
    rw [hst]
    rotate_left
    have h0 : t = [] := List.length_eq_zero_iff.mp (by omega)
    have hst : (0 : Int) = ((startN t : Nat) : Int) := by unfold startN; rw [if_pos h0]; rfl
    rw [hst]
    all_goals
      refine ⟨_, .inl hA, by omega, by omega, by rw [List.length_map]; omega, by rw [List.length_map]; omega, fun D nD => ?_⟩
      rw [List.length_map, show ((row.length : Int) - ((startN t : Nat) : Int)).toNat = row.length - startN t by omega]
      refine lcK_newR (fun t : List Nat => .lst (t.map nV)) (fun i => t ++ [startN t + i]) nD (by omega) (fun i H' QT hi hs hq => ?_) (fun H1 bs s1 hD hb hn hne e => ?_)
      · walk_at "rd"
        refine ⟨lineLe (by simp), fun p1 np1 => ⟨_, same_new np1 _ _ (hs _ _ hB), _, upd_same, lineLe (by simp; omega), fun p2 np2 => ?_⟩⟩
        refine hq _ p2 ((same_new np1).trans (same_new np2)) ((same_new np1).free np2) ?_
        rw [upd_same]
        simp
      · refine ⟨⟨_, SqL.of hD⟩, fun D2 nD2 => ?_⟩
        have be : ∀ b ∈ bs, b.2 ∈ growN row.length t := fun b hb => by
          have : b.2 ∈ bs.map Prod.snd := List.mem_map.mpr ⟨b, hb, rfl⟩
          rw [e] at this; exact this
        refine lcK_filt bs (fun b => V.ref b.1) (fun b => fitsB row order b.2) (fun b => V.ref b.1) nD2 (SqL.of hD) (by have := congrArg List.length e; simp at this; omega) (fun i x acc H' QT Qf hx hs hD2 htt hff => ?_) (fun H2 s2 hD2 => ?_)
        · have hxm := List.mem_of_getElem? hx
          obtain ⟨p, hp, _, hp2⟩ := growN_len (be x hxm)
          have s12 := s1.trans hs
          walk_at "rd"
          refine ⟨a, x.1, c, row, order, x.2, rfl, s12.seq hA, SqL.of (hs _ _ (hb x hxm)), s12.seq hC, lA, by rw [hp]; simp; omega, lC, fun i hi => ?_, fun H4 s4 => ⟨_, rfl, ?_⟩⟩
          · rw [hp] at hi
            rcases List.mem_append.mp hi with z | z
            · exact ht i z
            · have : i = p := by simpa using z
              omega
          · exact ite2 (fun c => htt c _ (hs.trans s4) (s4 _ _ hD2)) (fun c => hff (by simpa using c) _ (hs.trans s4) (s4 _ _ hD2))
        · refine q (bs.filter fun b => fitsB row order b.2) _ D2 (s1.trans s2) (s1.free nD2) hD2 (fun b hb' => s2 _ _ (hb b (List.mem_filter.mp hb').1)) (fun b hb' => hn b (List.mem_filter.mp hb').1) ?_
          rw [grownL, growN, ← e, List.filter_map]
          rfl

end
end Sh

namespace Sh
section
variable {P : Program} {w : World} {K : PySem.W.Frag} {mg : Str → Option Value} {base : Heap}
def sp_all_places (T : Tx K mg) : Sp := fun vs H Q E => ∃ (a c : Addr) (row order : List Int), vs = [.ref a, .ref c] ∧ SqL K H a (row.map V.int) ∧ SqL K H c (order.map V.int) ∧ row.length ≤ 12 ∧ order.length ≤ 4 ∧
  ∀ (bs : List (Addr × List Nat)) H' p, Same H H' → H p = none → H' p = some (.lst (bs.map fun b => V.ref b.1)) → (∀ b ∈ bs, H' b.1 = some (.tup (b.2.map nV))) → (∀ b ∈ bs, b.1 ≠ p) → bs.map Prod.snd = placesL row order → Q (.ref p) H'
theorem ok_all_places (T : Tx K mg) : FnOk P w K mg base CX0 4 T.f_all_places T.fd_all_places ["row", "order"] (sp_all_places T) := by
  refine T.F_all_places.ok sc_all_places (fun vs H Q E h => ?_) (fun cdv A outer s H vs Q E hr h => ?_)
  · obtain ⟨a, c, row, order, rfl, _⟩ := h
    rfl
  · obtain ⟨a, c, row, order, rfl, hA, hC, lA, lC, q⟩ := h
    refine ⟨_, (pss_cons (by exact (ps_set (i := 2) sc_all_places.nd rfl (Or.inl rfl) (pe_lst (pa_cons (pe_lst pa_nil) pa_nil))))
        (pss_cons (by exact (ps_for PassesOwn.never rfl (pi_range1 rfl T.m_range (pa_cons (by exact (pe_callB call_lenS (by rfl) T.m_len PySem.boot_len (pa_cons (pv 1) pa_nil))) pa_nil)) (pg_name (i := 3) sc_all_places.nd rfl (Or.inl rfl))
        (pss_cons (by exact (ps_set (i := 4) sc_all_places.nd rfl (Or.inl rfl) (pe_lst pa_nil)))
        (pss_cons (by exact (ps_for PassesOwn.never rfl (pi_list (pv 2)) (pg_name (i := 5) sc_all_places.nd rfl (Or.inl rfl))
        (pss_one (by exact (ps_expr (by exact (pe_bm PySem.F.plainAttrs_list PySem.F.slot_list_extend PySem.F.type_list_extend mt_extend (pv 4) (pa_cons (by exact (pe_call (ok_grown T) (hr.mono (by decide)) (by rfl) T.g_grown T.F_grown.kp T.b_grown .nil pass0 (pa_cons (pv 0) (pa_cons (pv 1) (pa_cons (pv 5) pa_nil))))) pa_nil))))))))
        (pss_one (by exact (ps_set (i := 2) sc_all_places.nd rfl (Or.inl rfl) (pv 4))))))))
        (pss_one (by exact (ps_ret (by exact (pe_lc (own := [("told", 5)]) (g := gName 5) (tt := tYes) (te := (tCB (rTupleOf K) (tCons (tVar 5) tNil))) rfl sc_all_places.nd (pi_list (pv 2)) (blkOk_by (N := ["row", "order", "found", "step", "longer", "told"]) (sc := defScope s_all_places) (by decide +kernel)) (fun _ _ _ _ _ => by exact (pg_name (i := 5) sc_all_places.nd rfl (by first | exact Or.inl rfl | exact Or.inr rfl))) (fun _ _ _ _ _ => pts_nil) (fun _ _ _ _ _ => by exact (pe_callTy call_tupleS (by rfl) T.m_tuple (by decide +kernel) (pa_cons (pv 5) pa_nil)))))))))), ?_⟩
    rw [show (start ["row", "order", "found", "step", "longer", "told"] [V.ref a, V.ref c] : L2.St) = [some (V.ref a), some (V.ref c), none, none, none, none] from rfl]
    walk_at "rd"
    refine ⟨lineLe (by simp), fun e0 ne0 => ⟨lineLe (by simp), fun f0 nf0 => ⟨_, .inl (sql_new nf0 (sql_new ne0 hC)), ?_⟩⟩⟩
    walk_at "rd"
    refine ⟨by omega, by omega, ?_⟩
    have few : ∀ s, s ≤ order.length → (allP row order s).length ≤ 1000 := fun s hs => by
      rw [allP_eq row order s hs]
      have h3 := List.length_filter_le (fitsB row order) (tupsN row.length s)
      have h4 := tupsN_few _ lA s (by omega)
      omega
    refine forK_range (fun k σ H' => ∃ (f : Addr) (bs : List (Addr × List Nat)) (y3 y4 y5 : Option V), σ = [some (V.ref a), some (V.ref c), some (V.ref f), y3, y4, y5] ∧ Same H H' ∧ H' f = some (.lst (bs.map fun b => V.ref b.1)) ∧ (∀ b ∈ bs, H' b.1 = some (.lst (b.2.map nV))) ∧ bs.map Prod.snd = allP row order k)
      ⟨f0, [(e0, [])], _, _, _, rfl, (same_new ne0).trans (same_new nf0), upd_same, fun b hb => by
        have e : b = (e0, []) := by simpa using hb
        subst e
        exact same_new nf0 _ _ upd_same, rfl⟩ (fun k σ H' hk h => ?_) (fun σ H' h => ?_)
    · obtain ⟨f, bs, y3, y4, y5, rfl, s1, hf, ll, eb⟩ := h
      walk_at "rd"
      refine ⟨lineLe (by simp), fun g ng => ⟨⟨_, SqL.of (same_new ng _ _ hf)⟩, ?_⟩⟩
      have hf1 := same_new (o := .lst []) ng _ _ hf
      have ll1 : ∀ b ∈ bs, (upd H' g (.lst [])) b.1 = some (.lst (b.2.map nV)) := fun b hb => same_new (o := .lst []) ng _ _ (ll b hb)
      have s2 := s1.trans (same_new (o := .lst []) ng)
      have ng' : H g = none := s1.free ng
      have hg1 : (upd H' g (.lst [])) g = some (.lst []) := upd_same
      have neb : ∀ b ∈ bs, b.1 ≠ g := fun b hb => ne_of_none (ll b hb) ng
      have nfg : f ≠ g := ne_of_none hf ng
      generalize upd H' g (.lst []) = H1 at hf1 ll1 s2 hg1 ⊢
      have tot := few (k + 1) (by omega)
      rw [allP] at tot
      refine forK_map bs (fun b => V.ref b.1) (fun i σ H' => ∃ (cs : List (Addr × List Nat)) (y4 y5 : Option V), σ = [some (V.ref a), some (V.ref c), some (V.ref f), y4, some (V.ref g), y5] ∧ Same H H' ∧ H' f = some (.lst (bs.map fun b => V.ref b.1)) ∧ (∀ b ∈ bs, H' b.1 = some (.lst (b.2.map nV))) ∧
          H' g = some (.lst (cs.map fun b => V.ref b.1)) ∧ (∀ b ∈ cs, H' b.1 = some (.lst (b.2.map nV))) ∧ (∀ b ∈ cs, b.1 ≠ g) ∧ cs.map Prod.snd = (((allP row order k).take i).map (grownL row order)).flatten)
        ⟨[], _, _, rfl, s2, hf1, ll1, hg1, fun b hb => by simp at hb, by simp, rfl⟩ (fun i σ H' _ h => ?_) (fun i b σ H' hb h => ?_) (fun σ H' h => ?_)
      · obtain ⟨cs, y4, y5, rfl, _, hf2, _⟩ := h
        exact SqL.of hf2
      · obtain ⟨cs, y4, y5, rfl, s3, hf2, ll2, hg2, lc2, nc2, ec⟩ := h
        walk_at "rd"
        have hbm := List.mem_of_getElem? hb
        have hx : (allP row order k)[i]? = some b.2 := by rw [← eb, List.getElem?_map, hb]; rfl
        have tk := take_more hx
        have hbt : b.2 ∈ tupsN row.length k := by
          have := List.mem_of_getElem? hx
          rw [allP_eq row order k (by omega)] at this
          exact (List.mem_filter.mp this).1
        obtain ⟨tl, tb⟩ := tupsN_mem _ _ _ hbt
        refine ⟨tyL hg2, a, b.1, c, row, order, b.2, rfl, s3.seq hA, ll2 b hbm, s3.seq hC, by omega, by omega, by omega, tb, fun ds H3 z s4 nz hz hd hn ed => ?_⟩
        have s34 := s3.trans s4
        have cl := congrArg List.length ec
        have dl := congrArg List.length ed
        rw [List.length_map] at cl dl
        have tot2 := flat_prefix_len (grownL row order) (allP row order k) (i + 1)
        rw [tk, List.map_append, List.flatten_append, List.length_append, show (([b.2].map (grownL row order)).flatten) = grownL row order b.2 by simp] at tot2
        refine ⟨z, rfl, _, s4 _ _ hg2, _, hz, lineLe (by simp; omega), ?_⟩
        have hg3 := s4 _ _ hg2
        have ndg : ∀ d ∈ ds, d.1 ≠ g := fun d hd' z' => by have := hn d hd'; rw [z', hg2] at this; cases this
        refine ⟨same_mut s34 ng', by rw [upd_ne nfg]; exact s4 _ _ hf2, fun d hd' => by rw [upd_ne (neb d hd')]; exact s4 _ _ (ll2 d hd'), cs ++ ds, ?_, fun d hd' => ?_, fun d hd' => ?_, ?_⟩
        · rw [upd_same, List.map_append]
        · rcases List.mem_append.mp hd' with w | w
          · rw [upd_ne (nc2 d w)]; exact s4 _ _ (lc2 d w)
          · rw [upd_ne (ndg d w)]; exact hd d w
        · rcases List.mem_append.mp hd' with w | w
          · exact nc2 d w
          · exact ndg d w
        · rw [List.map_append, ec, ed, tk, List.map_append, List.flatten_append]; simp
      · obtain ⟨cs, y4, y5, rfl, s3, hf2, ll2, hg2, lc2, nc2, ec⟩ := h
        walk_at "rd"
        rw [show bs.length = (allP row order k).length by rw [← eb, List.length_map], List.take_length] at ec
        exact ⟨s3, cs, hg2, lc2, ec⟩
    · obtain ⟨f, bs, y3, y4, y5, rfl, s1, hf, ll, eb⟩ := h
      walk_at "rd"
      refine ⟨⟨_, SqL.of hf⟩, fun D nD => ?_⟩
      have bl : bs.length ≤ 1000 := by
        have := congrArg List.length eb
        rw [List.length_map] at this
        have := few _ (Nat.le_refl order.length)
        omega
      refine lcK_newL bs (fun b => V.ref b.1) (fun t : List Nat => .tup (t.map nV)) Prod.snd nD (SqL.of hf) (by omega) (fun i b H2 QT hb hs hq => ?_) (fun H2 cs s2 hD hb hn hne e => ?_)
      · walk_at "rd"
        refine ⟨_, .inl ⟨SqL.of (hs _ _ (ll b (List.mem_of_getElem? hb))), fun l nl => hq _ l (same_new nl) nl upd_same⟩⟩
      · refine q cs H2 D (s1.trans s2) (s1.free nD) hD hb hne ?_
        rw [e, eb, allP_eq row order _ (Nat.le_refl _)]
        rfl

end
end Sh

namespace Sh
section
variable {P : Program} {w : World} {K : PySem.W.Frag} {mg : Str → Option Value} {base : Heap}
def sp_places (T : Tx K mg) : Sp := fun vs H Q E => ∃ (a c : Addr) (row order : List Int), vs = [.ref a, .ref c] ∧ SqL K H a (row.map V.int) ∧ SqL K H c (order.map V.int) ∧ row.length ≤ 4000 ∧ order.length ≤ 4000 ∧
  (rowOk row → row.length ≤ 12 → shapeOk order → 1 ≤ order.length ∧ order.length ≤ 4 → ∀ (bs : List (Addr × List Nat)) H' p, Same H H' → H p = none → H' p = some (.lst (bs.map fun b => V.ref b.1)) → (∀ b ∈ bs, H' b.1 = some (.tup (b.2.map nV))) → (∀ b ∈ bs, b.1 ≠ p) → bs.map Prod.snd = placesL row order → Q (.ref p) H') ∧
  (¬ rowOk row → ∀ H', Same H H' → E (.ref T.C_NoRow) none H') ∧ (rowOk row → ¬ shapeOk order → ∀ H', Same H H' → E (.ref T.C_NoShape) none H') ∧
  (rowOk row → shapeOk order → ¬ (1 ≤ order.length ∧ order.length ≤ 4) → ∀ H', Same H H' → E (.ref T.C_NoOrder) none H') ∧ (rowOk row → shapeOk order → 1 ≤ order.length ∧ order.length ≤ 4 → ¬ row.length ≤ 12 → ∀ H', Same H H' → E (.ref T.C_TooLong) none H')
theorem ok_places (T : Tx K mg) : FnOk P w K mg base (L2.CX P w) 5 T.f_places T.fd_places ["row", "order"] (sp_places T) := by
  refine T.F_places.okX sc_places (fun vs H Q E h => ?_) (fun cdv A outer s H vs Q E hr h => ?_)
  · obtain ⟨a, c, row, order, rfl, _⟩ := h
    rfl
  · obtain ⟨a, c, row, order, rfl, hA, hC, lA, lC, q1, q2, q3, q4, q5⟩ := h
    refine ⟨_, (pss_cons (by exact (ps_expr (by exact (pe_call (ok_ask_row T) (hr.mono (by decide)) (by rfl) T.g_ask_row T.F_ask_row.kp T.b_ask_row .nil (passes_call (takes_of rfl rfl rfl rfl) (fun _ _ _ _ h => h)) (pa_cons (pv 0) pa_nil)))))
        (pss_cons (by exact (ps_expr (by exact (pe_call (ok_ask_order T) (hr.mono (by decide)) (by rfl) T.g_ask_order T.F_ask_order.kp T.b_ask_order .nil (passes_call (takes_of rfl rfl rfl rfl) (fun _ _ _ _ h => h)) (pa_cons (pv 1) pa_nil)))))
        (pss_cons (by exact (ps_if (pt_cmpR (op_gt) (by exact (pe_callB call_lenS (by rfl) T.m_len PySem.boot_len (pa_cons (pv 0) pa_nil))) (pe_glob (v := .int 12) rfl T.g_MOST_ROW ⟨_, rfl⟩) (nomark _)) (pss_one (by exact (ps_raise rfl (takes_of rfl rfl rfl rfl) (pmk_own PySem.F.excBase_ValueError T.x_TooLong T.gC_TooLong T.kC_TooLong (raises_own T.bC_TooLong T.tC_TooLong) (by exact rfl))))) pss_nil))
        (pss_one (by exact (ps_ret (by exact (pe_call (ok_all_places T) (hr.mono (by decide)) (by rfl) T.g_all_places T.F_all_places.kp T.b_all_places .nil pass0 (pa_cons (pv 0) (pa_cons (pv 1) pa_nil)))))))))), ?_⟩
    rw [show (start ["row", "order"] [V.ref a, V.ref c] : L2.St) = [some (V.ref a), some (V.ref c)] from rfl]
    walk_at "rd"
    refine ⟨a, row, rfl, hA, lA, fun k1 => ?_, fun z => q2 z _ (Same.refl _)⟩
    walk_at "rd"
    refine ⟨c, order, rfl, hC, lC, fun k2 k3 H1 s1 => ?_, fun z H' s => q3 k1 z _ s, fun y z H' s => q4 k1 y z _ s⟩
    walk_at "rd"
    refine ⟨_, .inl (s1.seq hA), ?_⟩
    simp only [List.length_map]
    refine ite2 (fun d => q5 k1 k2 k3 (by omega) _ s1) (fun d => ?_)
    refine ⟨a, c, row, order, rfl, s1.seq hA, s1.seq hC, by omega, k3.2, fun bs H2 p s2 np hp hb hne e => q1 k1 (by omega) k2 k3 bs H2 p (s1.trans s2) (s1.free np) hp hb hne e⟩

end
end Sh

namespace Sh
section
variable {P : Program} {w : World} {K : PySem.W.Frag} {mg : Str → Option Value} {base : Heap}
def sp_many (T : Tx K mg) : Sp := fun vs H Q E => ∃ (a c : Addr) (row order : List Int), vs = [.ref a, .ref c] ∧ SqL K H a (row.map V.int) ∧ SqL K H c (order.map V.int) ∧ row.length ≤ 4000 ∧ order.length ≤ 4000 ∧
  (rowOk row → row.length ≤ 12 → shapeOk order → 1 ≤ order.length ∧ order.length ≤ 4 → ∀ H', Same H H' → Q (.int ((placesL row order).length : Nat)) H') ∧
  (¬ rowOk row → ∀ H', Same H H' → E (.ref T.C_NoRow) none H') ∧ (rowOk row → ¬ shapeOk order → ∀ H', Same H H' → E (.ref T.C_NoShape) none H') ∧
  (rowOk row → shapeOk order → ¬ (1 ≤ order.length ∧ order.length ≤ 4) → ∀ H', Same H H' → E (.ref T.C_NoOrder) none H') ∧ (rowOk row → shapeOk order → 1 ≤ order.length ∧ order.length ≤ 4 → ¬ row.length ≤ 12 → ∀ H', Same H H' → E (.ref T.C_TooLong) none H')
theorem ok_many (T : Tx K mg) : FnOk P w K mg base (L2.CX P w) 6 T.f_many T.fd_many ["row", "order"] (sp_many T) := by
  refine T.F_many.okX sc_many (fun vs H Q E h => ?_) (fun cdv A outer s H vs Q E hr h => ?_)
  · obtain ⟨a, c, row, order, rfl, _⟩ := h
    rfl
  · obtain ⟨a, c, row, order, rfl, hA, hC, lA, lC, q1, q2, q3, q4, q5⟩ := h
    refine ⟨_, (pss_one (by exact (ps_ret (by exact (pe_callB call_lenS (by rfl) T.m_len PySem.boot_len (pa_cons (by exact (pe_call (ok_places T) (hr.mono (by decide)) (by rfl) T.g_places T.F_places.kp T.b_places .nil (passes_call (takes_of rfl rfl rfl rfl) (fun _ _ _ _ h => h)) (pa_cons (pv 0) (pa_cons (pv 1) pa_nil)))) pa_nil)))))), ?_⟩
    rw [show (start ["row", "order"] [V.ref a, V.ref c] : L2.St) = [some (V.ref a), some (V.ref c)] from rfl]
    walk_at "rd"
    refine ⟨a, c, row, order, rfl, hA, hC, lA, lC, fun k1 k2 k3 k4 bs H1 p s1 np hp hb hne e => ?_, q2, q3, q4, q5⟩
    refine ⟨p, rfl, _, .inl (SqL.of hp), ?_⟩
    have := q1 k1 k2 k3 k4 _ s1
    rw [← e, List.length_map] at this
    rw [List.length_map]
    exact this

end
end Sh

namespace Sh
section
variable {P : Program} {w : World} {K : PySem.W.Frag} {mg : Str → Option Value} {base : Heap}
def sp_found_from (T : Tx K mg) : Nat → Sp
  | 0 => fun _ _ _ _ => False
  | d + 1 => fun vs H Q E => ∃ (a b c : Addr) (row order : List Int) (t : List Nat), vs = [.ref a, .ref c, .ref b] ∧ SqL K H a (row.map V.int) ∧ H b = some (.lst (t.map nV)) ∧ SqL K H c (order.map V.int) ∧ row.length ≤ 4000 ∧ order.length < t.length + (d + 1) ∧ t.length ≤ order.length ∧ order.length ≤ 2000 ∧ (∀ i ∈ t, i < row.length) ∧
    (dfs row order (d + 1) t = none → ∀ H', Same H H' → Q .non H') ∧ (∀ r, dfs row order (d + 1) t = some r → ∀ H' p, Same H H' → H p = none → H' p = some (.tup (r.map nV)) → Q (.ref p) H')
theorem ok_found_from (T : Tx K mg) : ∀ d, FnOk P w K mg base CX0 (4 + d) T.f_found_from T.fd_found_from ["row", "order", "told"] (sp_found_from T d)
| 0 => T.F_found_from.ok sc_found_from (fun vs H Q E h => h.elim) (fun cdv A outer s H vs Q E hr h => h.elim)
| d + 1 => by
  refine T.F_found_from.ok sc_found_from (fun vs H Q E h => ?_) (fun cdv A outer s H vs Q E hr h => ?_)
  · obtain ⟨a, b, c, row, order, t, rfl, _⟩ := h
    rfl
  · obtain ⟨a, b, c, row, order, t, rfl, hA, hB, hC, lA, hd, ht, lC, tb, q1, q2⟩ := h
    refine ⟨_, (pss_cons (by exact (ps_if (pt_cmpR (op_eq) (by exact (pe_callB call_lenS (by rfl) T.m_len PySem.boot_len (pa_cons (pv 2) pa_nil))) (by exact (pe_callB call_lenS (by rfl) T.m_len PySem.boot_len (pa_cons (pv 1) pa_nil))) (nomark _)) (pss_one (by exact (ps_ret (by exact (pe_callTy call_tupleS (by rfl) T.m_tuple (by decide +kernel) (pa_cons (pv 2) pa_nil)))))) pss_nil))
        (pss_cons (by exact (ps_for PassesOwn.never rfl (pi_list (by exact (pe_call (ok_grown T) (hr.mono (Nat.le_trans (by decide) (Nat.le_add_right _ _))) (by rfl) T.g_grown T.F_grown.kp T.b_grown .nil pass0 (pa_cons (pv 0) (pa_cons (pv 1) (pa_cons (pv 2) pa_nil)))))) (pg_name (i := 3) sc_found_from.nd rfl (Or.inl rfl))
        (pss_cons (by exact (ps_set (i := 4) sc_found_from.nd rfl (Or.inl rfl) (by exact (pe_call (ok_found_from T d) (hr.mono (Nat.le_refl _)) (by rfl) T.g_found_from T.F_found_from.kp T.b_found_from .nil pass0 (pa_cons (pv 0) (pa_cons (pv 1) (pa_cons (pv 3) pa_nil)))))))
        (pss_one (by exact (ps_if (pt_cmpR (op_notN) (pv 4) pe_non (nomark _)) (pss_one (by exact (ps_ret (pv 4)))) pss_nil))))))
        (pss_one (by exact (ps_ret pe_non))))), ?_⟩
    rw [show (start ["row", "order", "told", "some", "found"] [V.ref a, V.ref c, V.ref b] : L2.St) = [some (V.ref a), some (V.ref c), some (V.ref b), none, none] from rfl]
    walk_at "rd"
    refine ⟨_, .inl (SqL.of hB), _, .inl hC, ?_⟩
    simp only [List.length_map]
    refine ⟨rfl, ite2 (fun cc => ?_) (fun cc => ?_)⟩
    · have e : dfs row order (d + 1) t = some t := by rw [dfs, if_pos (by omega)]
      exact ⟨_, .inl ⟨SqL.of hB, fun l nl => q2 t e _ l (same_new nl) nl upd_same⟩⟩
    have e : dfs row order (d + 1) t = (grownL row order t).findSome? (dfs row order d) := by rw [dfs, if_neg (by omega)]
    rw [e] at q1 q2
    refine ⟨a, b, c, row, order, t, rfl, hA, hB, hC, lA, by omega, by omega, tb, fun bs H1 p s1 np hp hb hn eb => ⟨p, rfl, ⟨_, SqL.of hp⟩, ?_⟩⟩
    rw [← eb] at q1 q2
    have be : ∀ b ∈ bs, b.2 ∈ growN row.length t := fun b hb => by
      have : b.2 ∈ bs.map Prod.snd := List.mem_map.mpr ⟨b, hb, rfl⟩
      rw [eb] at this; exact (List.mem_filter.mp this).1
    refine forK_map bs (fun b => V.ref b.1) (fun i σ H' => ∃ (y3 y4 : Option V), σ = [some (V.ref a), some (V.ref c), some (V.ref b), y3, y4] ∧ Same H1 H' ∧ ((bs.map Prod.snd).take i).findSome? (dfs row order d) = none)
      ⟨_, _, rfl, Same.refl _, rfl⟩ (fun i σ H' _ h => ?_) (fun i x σ H' hx h => ?_) (fun σ H' h => ?_)
    · obtain ⟨y3, y4, rfl, s2, _⟩ := h
      exact SqL.of (s2 _ _ hp)
    · obtain ⟨y3, y4, rfl, s2, hno⟩ := h
      walk_at "rd"
      have hxm := List.mem_of_getElem? hx
      have hx2 : (bs.map Prod.snd)[i]? = some x.2 := by rw [List.getElem?_map, hx]; rfl
      obtain ⟨pl, hpl, _, hpl2⟩ := growN_len (be x hxm)
      have xl : x.2.length = t.length + 1 := by rw [hpl]; simp
      cases d with
      | zero => exact absurd hd (by omega)
      | succ d =>
        refine ⟨a, x.1, c, row, order, x.2, rfl, (s1.trans s2).seq hA, s2 _ _ (hb x hxm), (s1.trans s2).seq hC, lA, by omega, by omega, lC, fun i hi => ?_, fun h0 H2 s3 => ?_, fun r hr H2 p2 s3 np2 hp2 => ?_⟩
        · rw [hpl] at hi
          rcases List.mem_append.mp hi with z | z
          · exact tb i z
          · have : i = pl := by simpa using z
            omega
        · refine iteF' (fun z : ¬ V.non = V.non => z rfl) ?_
          exact ⟨s2.trans s3, findSome_step hno hx2 h0⟩
        · refine iteT' (show ¬ V.ref p2 = V.non from fun z => by cases z) ?_
          exact q2 r (findSome_at hno hx2 hr) _ p2 ((s1.trans s2).trans s3) ((s1.trans s2).free np2) hp2
    · obtain ⟨y3, y4, rfl, s2, hno⟩ := h
      rw [← List.length_map (f := Prod.snd), List.take_length] at hno
      walk_at "rd"
      exact q1 hno _ (s1.trans s2)

end
end Sh

namespace Sh
section
variable {P : Program} {w : World} {K : PySem.W.Frag} {mg : Str → Option Value} {base : Heap}
def sp_first (T : Tx K mg) : Sp := fun vs H Q E => ∃ (a c : Addr) (row order : List Int), vs = [.ref a, .ref c] ∧ SqL K H a (row.map V.int) ∧ SqL K H c (order.map V.int) ∧ row.length ≤ 4000 ∧ order.length ≤ 4000 ∧
  (rowOk row → shapeOk order → 1 ≤ order.length ∧ order.length ≤ 4 → (((placesL row order).head? = none → ∀ H', Same H H' → Q .non H') ∧ (∀ r, (placesL row order).head? = some r → ∀ H' p, Same H H' → H p = none → H' p = some (.tup (r.map nV)) → Q (.ref p) H'))) ∧
  (¬ rowOk row → ∀ H', Same H H' → E (.ref T.C_NoRow) none H') ∧ (rowOk row → ¬ shapeOk order → ∀ H', Same H H' → E (.ref T.C_NoShape) none H') ∧
  (rowOk row → shapeOk order → ¬ (1 ≤ order.length ∧ order.length ≤ 4) → ∀ H', Same H H' → E (.ref T.C_NoOrder) none H')
theorem ok_first (T : Tx K mg) : FnOk P w K mg base (L2.CX P w) 11 T.f_first T.fd_first ["row", "order"] (sp_first T) := by
  refine T.F_first.okX sc_first (fun vs H Q E h => ?_) (fun cdv A outer s H vs Q E hr h => ?_)
  · obtain ⟨a, c, row, order, rfl, _⟩ := h
    rfl
  · obtain ⟨a, c, row, order, rfl, hA, hC, lA, lC, q1, q2, q3, q4⟩ := h
    refine ⟨_, (pss_cons (by exact (ps_expr (by exact (pe_call (ok_ask_row T) (hr.mono (by decide)) (by rfl) T.g_ask_row T.F_ask_row.kp T.b_ask_row .nil (passes_call (takes_of rfl rfl rfl rfl) (fun _ _ _ _ h => h)) (pa_cons (pv 0) pa_nil)))))
        (pss_cons (by exact (ps_expr (by exact (pe_call (ok_ask_order T) (hr.mono (by decide)) (by rfl) T.g_ask_order T.F_ask_order.kp T.b_ask_order .nil (passes_call (takes_of rfl rfl rfl rfl) (fun _ _ _ _ h => h)) (pa_cons (pv 1) pa_nil)))))
        (pss_one (by exact (ps_ret (by exact (pe_call (ok_found_from T 6) (hr.mono (by decide)) (by rfl) T.g_found_from T.F_found_from.kp T.b_found_from .nil pass0 (pa_cons (pv 0) (pa_cons (pv 1) (pa_cons (pe_lst pa_nil) pa_nil)))))))))), ?_⟩
    rw [show (start ["row", "order"] [V.ref a, V.ref c] : L2.St) = [some (V.ref a), some (V.ref c)] from rfl]
    walk_at "rd"
    refine ⟨a, row, rfl, hA, lA, fun k1 => ?_, fun z => q2 z _ (Same.refl _)⟩
    walk_at "rd"
    refine ⟨c, order, rfl, hC, lC, fun k2 k3 H1 s1 => ?_, fun z H' s => q3 k1 z _ s, fun y z H' s => q4 k1 y z _ s⟩
    walk_at "rd"
    obtain ⟨q5, q6⟩ := q1 k1 k2 k3
    refine ⟨lineLe (by simp), fun e ne => ⟨a, e, c, row, order, [], rfl, sql_new ne (s1.seq hA), upd_same, sql_new ne (s1.seq hC), lA, by simp; omega, by simp, by omega, by simp, fun z H2 s2 => ?_, fun r z H2 p s2 np hp => ?_⟩⟩
    · rw [dfs_first (Nat.lt_of_le_of_lt k3.2 (by decide))] at z
      exact q5 z _ ((s1.trans (same_new ne)).trans s2)
    · rw [dfs_first (Nat.lt_of_le_of_lt k3.2 (by decide))] at z
      exact q6 r z _ p ((s1.trans (same_new ne)).trans s2) ((s1.trans (same_new ne)).free np) hp

end
end Sh

namespace Sh
section
variable {P : Program} {w : World} {K : PySem.W.Frag} {mg : Str → Option Value} {base : Heap}
def sp__law_within (T : Tx K mg) : Sp := fun vs H Q E => ∃ (way : Int) (a c C : Addr) (row order : List Int), vs = [.int way, .ref a, .ref c] ∧ SqL K H a (row.map V.int) ∧ SqL K H c (order.map V.int) ∧ row.length ≤ 4000 ∧ order.length ≤ 4000 ∧
  ((¬ rowOk row ∧ C = T.C_NoRow) ∨ (rowOk row ∧ ¬ shapeOk order ∧ C = T.C_NoShape) ∨ (rowOk row ∧ shapeOk order ∧ ¬ (1 ≤ order.length ∧ order.length ≤ 4) ∧ C = T.C_NoOrder) ∨
    (rowOk row ∧ shapeOk order ∧ (1 ≤ order.length ∧ order.length ≤ 4) ∧ ¬ row.length ≤ 12 ∧ (way = 0 ∨ way = 1) ∧ C = T.C_TooLong)) ∧ ∀ H', Same H H' → E (.ref C) none H'
theorem ok__law_within (T : Tx K mg) : FnOk P w K mg base (L2.CX P w) 12 T.f__law_within T.fd__law_within ["way", "row", "order"] (sp__law_within T) := by
  refine T.F__law_within.okX sc__law_within (fun vs H Q E h => ?_) (fun cdv A outer s H vs Q E hr h => ?_)
  · obtain ⟨way, a, c, C, row, order, rfl, _⟩ := h
    rfl
  · obtain ⟨way, a, c, C, row, order, rfl, hr1, hr2, l1, l2, hC, q⟩ := h
    refine ⟨_, (pss_one (by exact (ps_if (pt_cmpR (op_eq) (pv 0) pe_int (nomark _)) (pss_one (by exact (ps_expr (by exact (pe_call (ok_places T) (hr.mono (by decide)) (by rfl) T.g_places T.F_places.kp T.b_places .nil (passes_call (takes_of rfl rfl rfl rfl) (fun _ _ _ _ h => h)) (pa_cons (pv 1) (pa_cons (pv 2) pa_nil))))))) (pss_one (by exact (ps_if (pt_cmpR (op_eq) (pv 0) pe_int (nomark _)) (pss_one (by exact (ps_expr (by exact (pe_call (ok_many T) (hr.mono (by decide)) (by rfl) T.g_many T.F_many.kp T.b_many .nil (passes_call (takes_of rfl rfl rfl rfl) (fun _ _ _ _ h => h)) (pa_cons (pv 1) (pa_cons (pv 2) pa_nil))))))) (pss_one (by exact (ps_expr (by exact (pe_call (ok_first T) (hr.mono (by decide)) (by rfl) T.g_first T.F_first.kp T.b_first .nil (passes_call (takes_of rfl rfl rfl rfl) (fun _ _ _ _ h => h)) (pa_cons (pv 1) (pa_cons (pv 2) pa_nil))))))))))))), ?_⟩
    rw [show (start ["way", "row", "order"] [V.int way, V.ref a, V.ref c] : L2.St) = [some (V.int way), some (V.ref a), some (V.ref c)] from rfl]
    walk_at "rd"
    refine ⟨rfl, ?_⟩
    by_cases w0 : way = 0
    · rw [if_pos w0]
      refine ⟨a, c, row, order, rfl, hr1, hr2, l1, l2, fun h1 h2 h3 h4 => ?_, fun h1 => ?_, fun h1 h2 => ?_, fun h1 h2 h3 => ?_, fun h1 h2 h3 h4 => ?_⟩
      · rcases hC with z | z | z | z <;> exfalso
        · exact z.1 h1
        · exact z.2.1 h3
        · exact z.2.2.1 h4
        · exact z.2.2.2.1 h2
      all_goals (rcases hC with z | z | z | z)
      all_goals first
        | (obtain rfl := z.2; first | exact q | exact absurd h1 z.1)
        | (obtain rfl := z.2.2; first | exact q | exact absurd z.1 h1 | exact absurd h2 z.2.1)
        | (obtain rfl := z.2.2.2; first | exact q | exact absurd z.1 h1 | exact absurd z.2.1 h2 | exact absurd h3 z.2.2.1)
        | (obtain rfl := z.2.2.2.2.2; first | exact q | exact absurd z.1 h1 | exact absurd z.2.1 h2 | exact absurd z.2.2.1 h3 | exact absurd h4 z.2.2.2.1)
    rw [if_neg w0]
    refine ⟨rfl, ?_⟩
    by_cases w1 : way = 1
    · rw [if_pos w1]
      refine ⟨a, c, row, order, rfl, hr1, hr2, l1, l2, fun h1 h2 h3 h4 => ?_, fun h1 => ?_, fun h1 h2 => ?_, fun h1 h2 h3 => ?_, fun h1 h2 h3 h4 => ?_⟩
      · rcases hC with z | z | z | z <;> exfalso
        · exact z.1 h1
        · exact z.2.1 h3
        · exact z.2.2.1 h4
        · exact z.2.2.2.1 h2
      all_goals (rcases hC with z | z | z | z)
      all_goals first
        | (obtain rfl := z.2; first | exact q | exact absurd h1 z.1)
        | (obtain rfl := z.2.2; first | exact q | exact absurd z.1 h1 | exact absurd h2 z.2.1)
        | (obtain rfl := z.2.2.2; first | exact q | exact absurd z.1 h1 | exact absurd z.2.1 h2 | exact absurd h3 z.2.2.1)
        | (obtain rfl := z.2.2.2.2.2; first | exact q | exact absurd z.1 h1 | exact absurd z.2.1 h2 | exact absurd z.2.2.1 h3 | exact absurd h4 z.2.2.2.1)
    rw [if_neg w1]
    refine ⟨a, c, row, order, rfl, hr1, hr2, l1, l2, fun h1 h3 h4 => ?_, fun h1 => ?_, fun h1 h2 => ?_, fun h1 h2 h3 => ?_⟩
    · rcases hC with z | z | z | z <;> exfalso
      · exact z.1 h1
      · exact z.2.1 h3
      · exact z.2.2.1 h4
      · exact z.2.2.2.2.1.elim w0 w1
    all_goals (rcases hC with z | z | z | z)
    all_goals first
      | (obtain rfl := z.2; first | exact q | exact absurd h1 z.1)
      | (obtain rfl := z.2.2; first | exact q | exact absurd z.1 h1 | exact absurd h2 z.2.1)
      | (obtain rfl := z.2.2.2; first | exact q | exact absurd z.1 h1 | exact absurd z.2.1 h2 | exact absurd h3 z.2.2.1)
      | (obtain rfl := z.2.2.2.2.2; first | exact absurd z.1 h1 | exact absurd z.2.1 h2 | exact absurd z.2.2.1 h3)

end
end Sh

namespace Sh
section
variable {P : Program} {w : World} {K : PySem.W.Frag} {mg : Str → Option Value} {base : Heap}
def sp__law_no_row (T : Tx K mg) : Sp := fun vs H Q E => ∃ (c far : Int), vs = [.int c, .int far] ∧ 2 ≤ far ∧ ∀ H', Same H H' → E (.ref T.C_NoRow) none H'
theorem ok__law_no_row (T : Tx K mg) : FnOk P w K mg base (L2.CX P w) 13 T.f__law_no_row T.fd__law_no_row ["cell", "far"] (sp__law_no_row T) := by
  refine T.F__law_no_row.okX sc__law_no_row (fun vs H Q E h => ?_) (fun cdv A outer s H vs Q E hr h => ?_)
  · obtain ⟨c, far, rfl, _⟩ := h
    rfl
  · obtain ⟨c, far, rfl, hf, q⟩ := h
    refine ⟨_, (pss_cons (by exact (ps_set (i := 2) sc__law_no_row.nd rfl (Or.inl rfl) (pe_ix ix_list (pe_lst (pa_cons (pe_lst (pa_cons pe_int (pa_cons pe_int pa_nil))) (pa_cons (pe_lst (pa_cons (pv 1) (pa_cons pe_int (pa_cons (pv 1) pa_nil)))) (pa_cons (pe_op op_rep (pe_lst (pa_cons pe_int pa_nil)) pe_int) (pa_cons (by exact (pe_listRg rfl (by rfl) T.m_list (prg_1 (by rfl) T.m_range pe_int))) (pa_cons (pe_lst (pa_cons pe_int (pa_cons pe_int (pa_cons pe_int (pa_cons pe_int pa_nil))))) pa_nil)))))) (pe_op op_mod (pv 0) pe_int) (fun _ _ => rfl))))
        (pss_one (by exact (ps_if (pt_cmpR (op_eq) (pe_op op_mod (pe_op op_fdiv (pv 0) pe_int) pe_int) pe_int (nomark _)) (pss_one (by exact (ps_expr (by exact (pe_call (ok_shape_of T) (hr.mono (by decide)) (by rfl) T.g_shape_of T.F_shape_of.kp T.b_shape_of .nil (passes_call (takes_of rfl rfl rfl rfl) (fun _ _ _ _ h => h)) (pa_cons (pv 2) pa_nil)))))) (pss_one (by exact (ps_expr (by exact (pe_call (ok__law_within T) (hr.mono (by decide)) (by rfl) T.g__law_within T.F__law_within.kp T.b__law_within .nil (passes_call (takes_of rfl rfl rfl rfl) (fun _ _ _ _ h => h)) (pa_cons (pe_op op_mod (pe_op op_fdiv (pv 0) pe_int) pe_int) (pa_cons (pv 2) (pa_cons (pe_ix ix_list (pe_lst (pa_cons (pe_lst (pa_cons pe_int (pa_cons pe_int pa_nil))) (pa_cons (pe_lst (pa_cons pe_int (pa_cons pe_int pa_nil))) (pa_cons (pe_lst pa_nil) pa_nil)))) (pe_op op_mod (pe_op op_fdiv (pv 0) pe_int) pe_int) (fun _ _ => rfl)) pa_nil)))))))))))), ?_⟩
    rw [show (start ["cell", "far", "row"] [V.int c, V.int far] : L2.St) = [some (V.int c), some (V.int far), none] from rfl]
    walk_at "r1"
    refine seq_of (fun σ H' => ∃ (a : Addr) (ns : List Int), σ = [some (V.int c), some (V.int far), some (V.ref a)] ∧ Same H H' ∧ H' a = some (.lst (ns.map V.int)) ∧ ¬ rowOk ns ∧ ns.length ≤ 4000) (fun σ H' h => ?_) (fun U hU => ?_)
    rotate_left
    · walk_at "r1"
      refine ⟨lineLe (by simp), fun p0 n0 => ⟨lineLe (by simp), fun p1 n1 => ⟨lineLe (by simp), fun p2 n2 => ⟨_, upd_same, by decide, by decide, lineLe (by simp), fun p3 n3 => ⟨⟨by decide, by decide, by decide, by decide, by decide⟩, fun p4 n4 => ⟨lineLe (by simp), fun p5 n5 => ⟨lineLe (by simp), fun p6 n6 => ?_⟩⟩⟩⟩⟩⟩⟩
      have t := (((((((Tr.start H).add n0 [3, 3]).add n1 [far, 1, far]).more n2).add n3 (List.replicate 13 0)).add n4 (rangeI 31) (rgV_range 31)).add n5 [5, 7, 9, 7]).more (o := .lst [V.ref p0, V.ref p1, V.ref p3, V.ref p4, V.ref p5]) n6
      obtain ⟨b, hb, hP, hat⟩ := pick_of (m := c % 5) (ps := [(p0, [3, 3]), (p1, [far, 1, far]), (p3, List.replicate 13 0), (p4, rangeI 31), (p5, [5, 7, 9, 7])]) 5 (fun xs => ¬ rowOk xs ∧ xs.length ≤ 4000) (by omega) (by omega) rfl (fun xs hx => by
        simp only [List.map_cons, List.map_nil, List.mem_cons, List.not_mem_nil, or_false] at hx
        rcases hx with rfl | rfl | rfl | rfl | rfl
        · exact ⟨by decide, by decide⟩
        · exact ⟨row_three far, by simp⟩
        · exact ⟨by decide +kernel, by decide⟩
        · exact ⟨row_long (by rw [rangeI_len]; decide), by rw [rangeI_len]; decide⟩
        · exact ⟨by decide, by decide⟩)
      exact ⟨_, SqL.of upd_same, _, hat, hU _ _ ⟨b.1, b.2, rfl, t.sm, t.at_ b hb, hP⟩⟩
    obtain ⟨a, ns, rfl, s0, ha, no, hl⟩ := h
    walk_at "r1"
    refine ⟨rfl, ite2 (fun cc => ?_) (fun cc => ?_)⟩
    · exact ⟨a, ns, rfl, SqL.of ha, hl, fun z => absurd z no, fun _ => q _ s0⟩
    refine ⟨lineLe (by simp), fun p0 n0 => ⟨lineLe (by simp), fun p1 n1 => ⟨lineLe (by simp), fun p2 n2 => ⟨lineLe (by simp), fun p3 n3 => ?_⟩⟩⟩⟩
    have t := ((((Tr.start H').add n0 [0, 0]).add n1 [1, 0]).add n2 []).more (o := .lst [V.ref p0, V.ref p1, V.ref p2]) n3
    obtain ⟨b, hb, hP, hat⟩ := pick_of (m := c / 20 % 3) (ps := [(p0, [0, 0]), (p1, [1, 0]), (p2, [])]) 3 (fun xs => xs.length ≤ 4000) (by omega) (by omega) rfl (fun xs hx => by
      simp only [List.map_cons, List.map_nil, List.mem_cons, List.not_mem_nil, or_false] at hx
      rcases hx with rfl | rfl | rfl <;> simp)
    exact ⟨_, SqL.of upd_same, _, hat, c / 5 % 4, a, b.1, T.C_NoRow, ns, b.2, rfl, SqL.of (t.sm _ _ ha), SqL.of (t.at_ b hb), hl, hP, .inl ⟨no, rfl⟩, fun _ s1 => q _ (s0.trans (t.sm.trans s1))⟩

end
end Sh

namespace Sh
section
variable {P : Program} {w : World} {K : PySem.W.Frag} {mg : Str → Option Value} {base : Heap}
def sp_backward (T : Tx K mg) : Sp := fun vs H Q E => ∃ (a : Addr) (ns : List Int), vs = [.ref a] ∧ SqL K H a (ns.map V.int) ∧ ns.length ≤ 4000 ∧ (shapeOk ns → ∀ H' p, Same H H' → H p = none → H' p = some (.lst (ns.reverse.map V.int)) → Q (.ref p) H') ∧ (¬ shapeOk ns → ∀ H', Same H H' → E (.ref T.C_NoShape) none H')
theorem ok_backward (T : Tx K mg) : FnOk P w K mg base (L2.CX P w) 3 T.f_backward T.fd_backward ["shape"] (sp_backward T) := by
  refine T.F_backward.okX sc_backward (fun vs H Q E h => ?_) (fun cdv A outer s H vs Q E hr h => ?_)
  · obtain ⟨a, ns, rfl, _⟩ := h
    rfl
  · obtain ⟨a, ns, rfl, hS, hl, q1, q2⟩ := h
    refine ⟨_, (pss_cons (by exact (ps_expr (by exact (pe_call (ok_ask_shape T) (hr.mono (by decide)) (by rfl) T.g_ask_shape T.F_ask_shape.kp T.b_ask_shape .nil (passes_call (takes_of rfl rfl rfl rfl) (fun _ _ _ _ h => h)) (pa_cons (pv 0) pa_nil)))))
        (pss_one (by exact (ps_ret (by exact (pe_listRev rfl (by rfl) T.m_list (by rfl) T.m_reversed (pv 0))))))), ?_⟩
    rw [show (start ["shape"] [V.ref a] : L2.St) = [some (V.ref a)] from rfl]
    walk_at "rd"
    refine ⟨a, ns, rfl, hS, hl, fun ok H' s => ?_, q2⟩
    walk_at "rd"
    refine ⟨_, s.seq hS, fun p np => q1 ok _ p (s.trans (same_new np)) (s.free np) ?_⟩
    rw [upd_same, List.map_reverse]

end
end Sh

namespace Sh
section
variable {P : Program} {w : World} {K : PySem.W.Frag} {mg : Str → Option Value} {base : Heap}
def sp_contrary (T : Tx K mg) : Sp := fun vs H Q E => ∃ (a : Addr) (ns : List Int), vs = [.ref a] ∧ SqL K H a (ns.map V.int) ∧ ns.length ≤ 4000 ∧ (shapeOk ns → ∀ H' p, Same H H' → H p = none → H' p = some (.lst ((contraryL ns).map V.int)) → Q (.ref p) H') ∧ (¬ shapeOk ns → ∀ H', Same H H' → E (.ref T.C_NoShape) none H')
theorem ok_contrary (T : Tx K mg) : FnOk P w K mg base (L2.CX P w) 3 T.f_contrary T.fd_contrary ["shape"] (sp_contrary T) := by
  refine T.F_contrary.okX sc_contrary (fun vs H Q E h => ?_) (fun cdv A outer s H vs Q E hr h => ?_)
  · obtain ⟨a, ns, rfl, _⟩ := h
    rfl
  · obtain ⟨a, ns, rfl, hS, hl, q1, q2⟩ := h
    refine ⟨_, (pss_cons (by exact (ps_expr (by exact (pe_call (ok_ask_shape T) (hr.mono (by decide)) (by rfl) T.g_ask_shape T.F_ask_shape.kp T.b_ask_shape .nil (passes_call (takes_of rfl rfl rfl rfl) (fun _ _ _ _ h => h)) (pa_cons (pv 0) pa_nil)))))
        (pss_one (by exact (ps_ret (by exact (pe_lc (own := [("number", 1)]) (g := gName 1) (tt := tYes) (te := (tOp (rI0 fun i j => .int (i - j)) (tOp (rI0 fun i j => .int (i - j)) (tCB (rLen K) (tCons (tVar 0) tNil)) (tC (.int 1))) (tVar 1))) rfl sc_contrary.nd (pi_list (pv 0)) (blkOk_by (N := ["shape", "number"]) (sc := defScope s_contrary) (by decide +kernel)) (fun _ _ _ _ _ => by exact (pg_name (i := 1) sc_contrary.nd rfl (by first | exact Or.inl rfl | exact Or.inr rfl))) (fun _ _ _ _ _ => pts_nil) (fun _ _ _ _ _ => by exact (pe_op op_sub (pe_op op_sub (by exact (pe_callB call_lenS (by rfl) T.m_len PySem.boot_len (pa_cons (pv 0) pa_nil))) pe_int) (pv 1))))))))), ?_⟩
    rw [show (start ["shape", "number"] [V.ref a] : L2.St) = [some (V.ref a), none] from rfl]
    walk_at "rd"
    refine ⟨a, ns, rfl, hS, hl, fun ok H' s => ?_, q2⟩
    walk_at "rd"
    refine ⟨⟨_, s.seq hS⟩, fun D nD => ?_⟩
    refine lcK_map ns V.int (fun x => V.int ((ns.length : Int) - 1 - x)) nD (s.seq hS) (by omega) (fun i x acc H' QT hx hs hD hq => ?_) (fun H' hs hD => ?_)
    · walk_at "rd"
      refine ⟨_, .inl (hs.seq (s.seq hS)), ?_⟩
      walk_at "rd"
      exact hq _ hs hD
    · refine q1 ok _ D (s.trans hs) (s.free nD) ?_
      rw [hD, contraryL, List.map_map]
      rfl

end
end Sh

namespace Sh
section
variable {P : Program} {w : World} {K : PySem.W.Frag} {mg : Str → Option Value} {base : Heap}
def sp_turned_over (T : Tx K mg) : Sp := fun vs H Q E => ∃ (a : Addr) (ns : List Int), vs = [.ref a] ∧ SqL K H a (ns.map V.int) ∧ ns.length ≤ 4000 ∧ (shapeOk ns → ∀ H' p, Same H H' → H p = none → H' p = some (.lst ((overL ns).map V.int)) → Q (.ref p) H') ∧ (¬ shapeOk ns → ∀ H', Same H H' → E (.ref T.C_NoShape) none H')
theorem ok_turned_over (T : Tx K mg) : FnOk P w K mg base (L2.CX P w) 3 T.f_turned_over T.fd_turned_over ["shape"] (sp_turned_over T) := by
  refine T.F_turned_over.okX sc_turned_over (fun vs H Q E h => ?_) (fun cdv A outer s H vs Q E hr h => ?_)
  · obtain ⟨a, ns, rfl, _⟩ := h
    rfl
  · obtain ⟨a, ns, rfl, hS, hl, q1, q2⟩ := h
    refine ⟨_, (pss_cons (by exact (ps_expr (by exact (pe_call (ok_ask_shape T) (hr.mono (by decide)) (by rfl) T.g_ask_shape T.F_ask_shape.kp T.b_ask_shape .nil (passes_call (takes_of rfl rfl rfl rfl) (fun _ _ _ _ h => h)) (pa_cons (pv 0) pa_nil)))))
        (pss_one (by exact (ps_ret (by exact (pe_lc (own := [("place", 1)]) (g := gName 1) (tt := tYes) (te := (tBM K "list" (rIndex K) (tVar 0) (tCons (tVar 1) tNil))) rfl sc_turned_over.nd (pi_range1 rfl T.m_range (pa_cons (by exact (pe_callB call_lenS (by rfl) T.m_len PySem.boot_len (pa_cons (pv 0) pa_nil))) pa_nil)) (blkOk_by (N := ["shape", "place"]) (sc := defScope s_turned_over) (by decide +kernel)) (fun _ _ _ _ _ => by exact (pg_name (i := 1) sc_turned_over.nd rfl (by first | exact Or.inl rfl | exact Or.inr rfl))) (fun _ _ _ _ _ => pts_nil) (fun _ _ _ _ _ => by exact (pe_bm PySem.F.plainAttrs_list PySem.F.slot_list_index PySem.F.type_list_index mt_index (pv 0) (pa_cons (pv 1) pa_nil))))))))), ?_⟩
    rw [show (start ["shape", "place"] [V.ref a] : L2.St) = [some (V.ref a), none] from rfl]
    walk_at "rd"
    refine ⟨a, ns, rfl, hS, hl, fun ok H' s => ?_, q2⟩
    walk_at "rd"
    refine ⟨_, .inl (s.seq hS), ?_⟩
    walk_at "rd"
    refine ⟨by omega, by omega, fun D nD => ?_⟩
    refine lcK_mapR (fun i => V.int (ns.idxOf (i : Int) : Nat)) nD (by omega) (fun i acc H' QT hi hs hD hq => ?_) (fun H' hs hD => ?_)
    · walk_at "rd"
      have hA : SqL K H' a (ns.map V.int) := hs.seq (s.seq hS)
      have hm : ((0 : Int) + (i : Int)) ∈ ns := (shapeOk_mem ok).mpr ⟨by omega, by omega⟩
      rw [Int.zero_add] at hm
      refine ⟨tBM_list hA, _, hA, rfl, flat_ints _, ns.idxOf (i : Int), .int i, ?_, by rw [eqV_int] <;> simp, fun m z' hmj hz => ?_, hq _ hs hD⟩
      · rw [List.getElem?_map, idxOf_at hm] <;> rfl
      · obtain ⟨y, hy, rfl⟩ := at_map hz
        rw [eqV_int, decide_eq_false (idxOf_min hmj hy)]
    · refine q1 ok _ D (s.trans hs) (s.free nD) ?_
      rw [hD, overL, List.map_map]
      simp

end
end Sh

namespace Sh
section
variable {P : Program} {w : World} {K : PySem.W.Frag} {mg : Str → Option Value} {base : Heap}
def sp_falls (T : Tx K mg) : Sp := fun vs H Q E => ∃ (a : Addr) (ns : List Int), vs = [.ref a] ∧ SqL K H a (ns.map V.int) ∧ ns.length ≤ 4000 ∧ (shapeOk ns → ∀ H' p, Same H H' → H p = none → H' p = some (.lst ((fallsL ns).map V.int)) → Q (.ref p) H') ∧ (¬ shapeOk ns → ∀ H', Same H H' → E (.ref T.C_NoShape) none H')
theorem ok_falls (T : Tx K mg) : FnOk P w K mg base (L2.CX P w) 3 T.f_falls T.fd_falls ["shape"] (sp_falls T) := by
  refine T.F_falls.okX sc_falls (fun vs H Q E h => ?_) (fun cdv A outer s H vs Q E hr h => ?_)
  · obtain ⟨a, ns, rfl, _⟩ := h
    rfl
  · obtain ⟨a, ns, rfl, hS, hl, q1, q2⟩ := h
    refine ⟨_, (pss_cons (by exact (ps_expr (by exact (pe_call (ok_ask_shape T) (hr.mono (by decide)) (by rfl) T.g_ask_shape T.F_ask_shape.kp T.b_ask_shape .nil (passes_call (takes_of rfl rfl rfl rfl) (fun _ _ _ _ h => h)) (pa_cons (pv 0) pa_nil)))))
        (pss_one (by exact (ps_ret (by exact (pe_lc (own := [("k", 1)]) (g := gName 1) (tt := (tTest (tOp (rI0 fun i j => .bl (decide (j < i))) (tOp (rIxL K) (tVar 0) (tVar 1)) (tOp (rIxL K) (tVar 0) (tOp (rI0 fun i j => .int (i + j)) (tVar 1) (tC (.int 1))))))) (te := (tVar 1)) rfl sc_falls.nd (pi_range1 rfl T.m_range (pa_cons (pe_op op_sub (by exact (pe_callB call_lenS (by rfl) T.m_len PySem.boot_len (pa_cons (pv 0) pa_nil))) pe_int) pa_nil)) (blkOk_by (N := ["shape", "k"]) (sc := defScope s_falls) (by decide +kernel)) (fun _ _ _ _ _ => by exact (pg_name (i := 1) sc_falls.nd rfl (by first | exact Or.inl rfl | exact Or.inr rfl))) (fun _ _ _ _ _ => by exact (pts_one (pt_cmpR (op_gt) (pe_ix ix_list (pv 0) (pv 1) (fun _ _ => rfl)) (pe_ix ix_list (pv 0) (pe_op op_add (pv 1) pe_int) (fun _ _ => rfl)) (nomark _)))) (fun _ _ _ _ _ => by exact (pv 1)))))))), ?_⟩
    rw [show (start ["shape", "k"] [V.ref a] : L2.St) = [some (V.ref a), none] from rfl]
    walk_at "rd"
    refine ⟨a, ns, rfl, hS, hl, fun ok H' s => ?_, q2⟩
    walk_at "rd"
    refine ⟨_, .inl (s.seq hS), ?_⟩
    walk_at "rd"
    refine ⟨by omega, by omega, fun D nD => ?_⟩
    have e0 : ((ns.length : Int) - 1).toNat = ns.length - 1 := by omega
    rw [e0]
    refine lcK_filtR (fun k => decide (ns.getD (k + 1) 0 < ns.getD k 0)) (fun k => V.int k) nD (by omega) (fun i acc H2 Qt Qf hi hs hD ht hf => ?_) (fun H2 hs hD => ?_)
    · walk_at "rd"
      have hA : SqL K H2 a (ns.map V.int) := hs.seq (s.seq hS)
      refine ⟨_, hA, _, atI_ints (by omega) (by omega), _, hA, _, atI_ints (by omega) (by omega), ?_⟩
      have e1 : ((i : Int) + 1).toNat = i + 1 := by omega
      walk_at "rd"
      rw [e1]
      exact ite2 (fun c => ht (decide_eq_true c) _ hs hD) (fun c => hf (decide_eq_false c) _ hs hD)
    · refine q1 ok _ D (s.trans hs) (s.free nD) ?_
      rw [hD, fallsL, List.map_map]
      rfl

end
end Sh

namespace Sh
section
variable {P : Program} {w : World} {K : PySem.W.Frag} {mg : Str → Option Value} {base : Heap}
def sp_wrong_pairs (T : Tx K mg) : Sp := fun vs H Q E => ∃ (a : Addr) (ns : List Int), vs = [.ref a] ∧ SqL K H a (ns.map V.int) ∧ ns.length ≤ 4000 ∧ (shapeOk ns → ∀ H', Same H H' → Q (.int (inv ns)) H') ∧ (¬ shapeOk ns → ∀ H', Same H H' → E (.ref T.C_NoShape) none H')
theorem ok_wrong_pairs (T : Tx K mg) : FnOk P w K mg base (L2.CX P w) 3 T.f_wrong_pairs T.fd_wrong_pairs ["shape"] (sp_wrong_pairs T) := by
  refine T.F_wrong_pairs.okX sc_wrong_pairs (fun vs H Q E h => ?_) (fun cdv A outer s H vs Q E hr h => ?_)
  · obtain ⟨a, ns, rfl, _⟩ := h
    rfl
  · obtain ⟨a, ns, rfl, hS, hl, q1, q2⟩ := h
    refine ⟨_, (pss_cons (by exact (ps_expr (by exact (pe_call (ok_ask_shape T) (hr.mono (by decide)) (by rfl) T.g_ask_shape T.F_ask_shape.kp T.b_ask_shape .nil (passes_call (takes_of rfl rfl rfl rfl) (fun _ _ _ _ h => h)) (pa_cons (pv 0) pa_nil)))))
        (pss_cons (by exact (ps_set (i := 1) sc_wrong_pairs.nd rfl (Or.inl rfl) pe_int))
        (pss_cons (by exact (ps_for (passes_of rfl) rfl (pi_range1 rfl T.m_range (pa_cons (by exact (pe_callB call_lenS (by rfl) T.m_len PySem.boot_len (pa_cons (pv 0) pa_nil))) pa_nil)) (pg_name (i := 2) sc_wrong_pairs.nd rfl (Or.inr rfl))
        (pss_one (by exact (ps_set (i := 1) sc_wrong_pairs.nd rfl (Or.inl rfl) (pe_op op_add (pv 1) (by exact (pe_callB call_lenS (by rfl) T.m_len PySem.boot_len (pa_cons (by exact (pe_lc (own := [("one", 3)]) (g := gName 3) (tt := (tTest (tOp (rI0 fun i j => .bl (decide (i < j))) (tVar 3) (tOp (rIxL K) (tVar 0) (tVar 2))))) (te := (tVar 3)) rfl sc_wrong_pairs.nd (pi_list (pe_slice sl_list (pv 0) (po_some (pe_op op_add (pv 2) pe_int)) po_none)) (blkOk_by (N := ["shape", "found", "k", "one"]) (sc := defScope s_wrong_pairs) (by decide +kernel)) (fun _ _ _ _ _ => by exact (pg_name (i := 3) sc_wrong_pairs.nd rfl (by first | exact Or.inl rfl | exact Or.inr rfl))) (fun _ _ _ _ _ => by exact (pts_one (pt_cmpR (op_lt) (pv 3) (pe_ix ix_list (pv 0) (pv 2) (fun _ _ => rfl)) (nomark _)))) (fun _ _ _ _ _ => by exact (pv 3)))) pa_nil)))))))))
        (pss_one (by exact (ps_ret (pv 1))))))), ?_⟩
    rw [show (start ["shape", "found", "k", "one"] [V.ref a] : L2.St) = [some (V.ref a), none, none, none] from rfl]
    walk_at "rd"
    refine ⟨a, ns, rfl, hS, hl, fun ok H1 s1 => ?_, q2⟩
    walk_at "rd"
    refine ⟨_, .inl (s1.seq hS), ?_⟩
    walk_at "rd"
    refine ⟨by omega, by omega, ?_⟩
    refine forK_range (fun i σ H' => ∃ (y2 : Option V), σ = [some (V.ref a), some (V.int ((inv (ns) : Int) - inv (ns.drop i))), y2, none] ∧ Same H H') ⟨none, by simp, s1⟩ (fun i σ H' hi h => ?_) (fun σ H' h => ?_)
    · obtain ⟨y2, rfl, s2⟩ := h
      walk_at "rd"
      have hA := s2.seq hS
      refine ⟨_, hA, fun p np => ⟨⟨_, sql_self⟩, fun D nD => ?_⟩⟩
      have e1 : cutV (ns.map V.int) (some ((i : Int) + 1)) none = (ns.drop (i + 1)).map V.int := by
        rw [show ((i : Int) + 1) = ((i + 1 : Nat) : Int) by omega, cut_from, List.map_drop]
      rw [e1] at nD ⊢
      refine lcK_filt (ns.drop (i + 1)) V.int (fun y => decide (y < ns.getD i 0)) V.int nD sql_self (by simp; omega) (fun j y acc H2 Qt Qf hy hs hD ht hf => ?_) (fun H2 hs hD => ?_)
      · walk_at "rd"
        refine ⟨_, hs.seq (sql_new np hA), _, atI_ints (by omega) (by omega), ?_⟩
        walk_at "rd"
        exact ite2 (fun c => ht (decide_eq_true c) _ hs hD) (fun c => hf (decide_eq_false c) _ hs hD)
      · refine ⟨_, .inl (SqL.of hD), ?_, s2.trans ((same_new np).trans hs)⟩
        have := inv_drop hi
        simp only [List.length_map]
        omega
    · obtain ⟨y2, rfl, s2⟩ := h
      walk_at "rd"
      have := q1 ok H' s2
      simpa [inv] using this

end
end Sh

namespace Sh
section
variable {P : Program} {w : World} {K : PySem.W.Frag} {mg : Str → Option Value} {base : Heap}
def sp_fall_sum (T : Tx K mg) : Sp := fun vs H Q E => ∃ (a : Addr) (ns : List Int), vs = [.ref a] ∧ SqL K H a (ns.map V.int) ∧ ns.length ≤ 4000 ∧ (shapeOk ns → ∀ H', Same H H' → Q (.int ((fallsL ns).map (· + 1)).sum) H') ∧ (¬ shapeOk ns → ∀ H', Same H H' → E (.ref T.C_NoShape) none H')
theorem ok_fall_sum (T : Tx K mg) : FnOk P w K mg base (L2.CX P w) 4 T.f_fall_sum T.fd_fall_sum ["shape"] (sp_fall_sum T) := by
  refine T.F_fall_sum.okX sc_fall_sum (fun vs H Q E h => ?_) (fun cdv A outer s H vs Q E hr h => ?_)
  · obtain ⟨a, ns, rfl, _⟩ := h
    rfl
  · obtain ⟨a, ns, rfl, hS, hl, q1, q2⟩ := h
    refine ⟨_, (pss_one (by exact (ps_ret (by exact (pe_callB (cr_sum rfl) (by rfl) T.m_sum (by decide +kernel) (pa_cons (by exact (pe_lc (own := [("place", 1)]) (g := gName 1) (tt := tYes) (te := (tOp (rI0 fun i j => .int (i + j)) (tVar 1) (tC (.int 1)))) rfl sc_fall_sum.nd (pi_list (by exact (pe_call (ok_falls T) (hr.mono (by decide)) (by rfl) T.g_falls T.F_falls.kp T.b_falls .nil (passes_call (takes_of rfl rfl rfl rfl) (fun _ _ _ _ h => h)) (pa_cons (pv 0) pa_nil)))) (blkOk_by (N := ["shape", "place"]) (sc := defScope s_fall_sum) (by decide +kernel)) (fun _ _ _ _ _ => by exact (pg_name (i := 1) sc_fall_sum.nd rfl (by first | exact Or.inl rfl | exact Or.inr rfl))) (fun _ _ _ _ _ => pts_nil) (fun _ _ _ _ _ => by exact (pe_op op_add (pv 1) pe_int)))) pa_nil)))))), ?_⟩
    rw [show (start ["shape", "place"] [V.ref a] : L2.St) = [some (V.ref a), none] from rfl]
    walk_at "rd"
    refine ⟨a, ns, rfl, hS, hl, fun ok H1 p s1 np hp => ?_, q2⟩
    walk_at "rd"
    have hl2 : (fallsL ns).length ≤ ns.length := by
      unfold fallsL
      have := List.length_filter_le (fun k => decide (ns.getD (k + 1) 0 < ns.getD k 0)) (List.range (ns.length - 1))
      simp only [List.length_map, List.length_range] at *
      omega
    refine ⟨⟨_, SqL.of hp⟩, fun D nD => ?_⟩
    refine lcK_map (fallsL ns) V.int (fun x => V.int (x + 1)) nD (SqL.of hp) (by omega) (fun i x acc H' QT hx hs hD hq => ?_) (fun H' hs hD => ?_)
    · walk_at "rd"
      exact hq _ hs hD
    · refine ⟨(fallsL ns).map (· + 1), SqL.of ?_, q1 ok _ (s1.trans hs)⟩
      rw [hD, List.map_map]
      rfl

end
end Sh

namespace Sh
section
variable {P : Program} {w : World} {K : PySem.W.Frag} {mg : Str → Option Value} {base : Heap}
def sp_parted (T : Tx K mg) : Sp := fun vs H Q E => ∃ (a : Addr) (ns : List Int) (x : Int), vs = [.ref a, .int x] ∧ SqL K H a (ns.map V.int) ∧ 0 < ns.length ∧ ns.length ≤ 4000 ∧ ∀ H' p qs, Same H H' → H p = none → H' p = some (.lst (qs.map V.ref)) → Own2 H H' qs (partedL ns x) → p ∉ qs → Q (.ref p) H'
theorem ok_parted (T : Tx K mg) : FnOk P w K mg base CX0 1 T.f_parted T.fd_parted ["row", "number"] (sp_parted T) := by
  refine T.F_parted.ok sc_parted (fun vs H Q E h => ?_) (fun cdv A outer s H vs Q E hr h => ?_)
  · obtain ⟨a, ns, x, rfl, _⟩ := h
    rfl
  · obtain ⟨a, ns, x, rfl, hS, h0, hl, q⟩ := h
    refine ⟨_, (pss_cons (by exact (ps_set (i := 2) sc_parted.nd rfl (Or.inl rfl) (pe_cmpR (op_lt) (pe_ix ix_list (pv 0) (pe_un un_neg pe_int) (fun _ _ => rfl)) (pv 1) (nomark _))))
        (pss_cons (by exact (ps_set (i := 3) sc_parted.nd rfl (Or.inl rfl) (pe_lst pa_nil)))
        (pss_cons (by exact (ps_set (i := 4) sc_parted.nd rfl (Or.inl rfl) (pe_lst pa_nil)))
        (pss_cons (by exact (ps_for PassesOwn.never rfl (pi_list (pv 0)) (pg_name (i := 5) sc_parted.nd rfl (Or.inl rfl))
        (pss_cons (by exact (ps_expr (by exact (pe_bm PySem.F.plainAttrs_list PySem.F.slot_list_append PySem.F.type_list_append mt_append (pv 4) (pa_cons (pv 5) pa_nil)))))
        (pss_one (by exact (ps_if (pt_cmpR (op_eq) (pe_cmpR (op_lt) (pv 5) (pv 1) (nomark _)) (pv 2) (nomark _)) (pss_cons (by exact (ps_expr (by exact (pe_bm PySem.F.plainAttrs_list PySem.F.slot_list_append PySem.F.type_list_append mt_append (pv 3) (pa_cons (pv 4) pa_nil)))))
        (pss_one (by exact (ps_set (i := 4) sc_parted.nd rfl (Or.inl rfl) (pe_lst pa_nil))))) pss_nil))))))
        (pss_one (by exact (ps_ret (pv 3)))))))), ?_⟩
    rw [show (start ["row", "number", "less", "found", "part", "one"] [V.ref a, V.int x] : L2.St) = [some (V.ref a), some (V.int x), none, none, none, none] from rfl]
    walk_at "rd"
    have hlast : atI (ns.map V.int) (-1) = some (.int (ns.getLastD 0)) := by
      obtain ⟨r, z, rfl⟩ : ∃ r z, ns = r ++ [z] := ⟨ns.dropLast, ns.getLast (by intro e; simp [e] at h0), (List.dropLast_concat_getLast _).symm⟩
      rw [List.map_append]
      simp only [List.map_cons, List.map_nil, List.getLastD_concat]
      exact atI_last _ _
    refine ⟨_, hS, _, hlast, ?_⟩
    walk_at "rd"
    refine ⟨lineLe (by simp), fun f nf => ⟨lineLe (by simp), fun pt npt => ⟨⟨_, sql_new npt (sql_new nf hS)⟩, ?_⟩⟩⟩
    have npt0 : H pt = none := (same_new nf).free npt
    have nfp : f ≠ pt := ne_of_none (upd_same (H := H) (a := f) (o := .lst [])) npt
    refine forK_map ns V.int (fun i σ H' => ∃ (pt : Addr) (y5 : Option V) (qs : List Addr), σ = [some (V.ref a), some (V.int x), some (V.bl (decide (ns.getLastD 0 < x))), some (V.ref f), some (V.ref pt), y5] ∧ Same H H' ∧ H' f = some (.lst (qs.map V.ref)) ∧
        H' pt = some (.lst ((pfold (sideOf ns x) (ns.take i)).2.map V.int)) ∧ Own2 H H' qs (pfold (sideOf ns x) (ns.take i)).1 ∧ f ∉ qs ∧ pt ∉ qs ∧ f ≠ pt ∧ H pt = none)
      ⟨pt, none, [], rfl, (same_new nf).trans (same_new npt), by rw [upd_ne nfp, upd_same]; rfl, upd_same, ⟨.nil, by simp, by simp⟩, by simp, by simp, nfp, npt0⟩ (fun i σ H' _ h => ?_) (fun i y σ H' hy h => ?_) (fun σ H' h => ?_)
    · obtain ⟨pt, y5, qs, rfl, s1, _⟩ := h
      exact s1.seq hS
    · obtain ⟨pt, y5, qs, rfl, s1, hf, hpt, ow, fq, pq, fp, np0⟩ := h
      walk_at "rd"
      have hi : i < ns.length := (List.getElem?_eq_some_iff.mp hy).1
      have l1 := pfold_cur_len (sideOf ns x) (ns.take i)
      have l2 := pfold_count (sideOf ns x) (ns.take i)
      rw [List.length_take] at l1 l2
      have ql := paired_len ow.at_
      have hfm : ∀ o, (upd H' pt o) f = some (.lst (qs.map V.ref)) := fun o => by rw [upd_ne fp]; exact hf
      rw [take_more hy, pfold_snoc]
      refine ⟨tyL hpt, _, hpt, lineLt (by simp; omega), rfl, ?_⟩
      refine ite2 (fun c => ?_) (fun c => ?_)
      · refine ⟨tyL (hfm _), _, hfm _, lineLt (by simp; omega), lineLe (by simp), fun p np => ?_⟩
        have hcur : (upd H' pt (.lst ((pfold (sideOf ns x) (ns.take i)).2.map V.int ++ [V.int y]))) pt = some (.lst (((pfold (sideOf ns x) (ns.take i)).2 ++ [y]).map V.int)) := by rw [upd_same]; simp
        have es : pstep (sideOf ns x) (pfold (sideOf ns x) (ns.take i)) y = ((pfold (sideOf ns x) (ns.take i)).1 ++ [(pfold (sideOf ns x) (ns.take i)).2 ++ [y]], []) := by
          unfold pstep; rw [if_pos]; simpa [sideOf] using c
        have npf : f ≠ p := ne_of_none upd_same np
        have s2 : Same H (upd (upd H' pt (.lst ((pfold (sideOf ns x) (ns.take i)).2.map V.int ++ [V.int y]))) f (.lst (qs.map V.ref ++ [V.ref pt]))) := same_mut (same_mut s1 np0) nf
        have ow2 := ((ow.mut (o := .lst ((pfold (sideOf ns x) (ns.take i)).2.map V.int ++ [V.int y])) pq).snoc pq np0 hcur)
        have fq2 : f ∉ qs ++ [pt] := by simp [fq, fp]
        have ow3 := ow2.mut (o := .lst (qs.map V.ref ++ [V.ref pt])) fq2
        rw [es]
        refine ⟨s2.trans (same_new np), qs ++ [pt], ?_, upd_same, ow3.same (same_new np), fq2, ow3.there np, npf, s2.free np⟩
        rw [upd_ne npf, upd_same]
        simp
      · have es : pstep (sideOf ns x) (pfold (sideOf ns x) (ns.take i)) y = ((pfold (sideOf ns x) (ns.take i)).1, (pfold (sideOf ns x) (ns.take i)).2 ++ [y]) := by
          unfold pstep; rw [if_neg]; simpa [sideOf] using c
        rw [es]
        refine ⟨same_mut s1 np0, qs, hfm _, ?_, ow.mut pq, fq, pq, fp, np0⟩
        rw [upd_same]
        simp
    · obtain ⟨pt, y5, qs, rfl, s1, hf, hpt, ow, fq, pq, fp, np0⟩ := h
      walk_at "rd"
      rw [List.take_length] at ow
      exact q H' f qs s1 nf hf ow fq

end
end Sh

namespace Sh
section
variable {P : Program} {w : World} {K : PySem.W.Frag} {mg : Str → Option Value} {base : Heap}
def sp_exchanged (T : Tx K mg) : Sp := fun vs H Q E => ∃ (a : Addr) (ns : List Int), vs = [.ref a] ∧ SqL K H a (ns.map V.int) ∧ ns.length ≤ 4000 ∧ (shapeOk ns → ∀ H' p, Same H H' → H p = none → H' p = some (.lst ((exL ns).map V.int)) → Q (.ref p) H') ∧ (¬ shapeOk ns → ∀ H', Same H H' → E (.ref T.C_NoShape) none H')
theorem ok_exchanged (T : Tx K mg) : FnOk P w K mg base (L2.CX P w) 3 T.f_exchanged T.fd_exchanged ["shape"] (sp_exchanged T) := by
  refine T.F_exchanged.okX sc_exchanged (fun vs H Q E h => ?_) (fun cdv A outer s H vs Q E hr h => ?_)
  · obtain ⟨a, ns, rfl, _⟩ := h
    rfl
  · obtain ⟨a, ns, rfl, hS, hl, q1, q2⟩ := h
    refine ⟨_, (pss_cons (by exact (ps_expr (by exact (pe_call (ok_ask_shape T) (hr.mono (by decide)) (by rfl) T.g_ask_shape T.F_ask_shape.kp T.b_ask_shape .nil (passes_call (takes_of rfl rfl rfl rfl) (fun _ _ _ _ h => h)) (pa_cons (pv 0) pa_nil)))))
        (pss_cons (by exact (ps_set (i := 1) sc_exchanged.nd rfl (Or.inl rfl) (pe_lst pa_nil)))
        (pss_cons (by exact (ps_for (passes_of rfl) rfl (pi_list (pv 0)) (pg_name (i := 2) sc_exchanged.nd rfl (Or.inl rfl))
        (pss_cons (by exact (ps_if (pt_cmpR (op_gt) (by exact (pe_callB call_lenS (by rfl) T.m_len PySem.boot_len (pa_cons (pv 1) pa_nil))) pe_int (nomark _)) (pss_cons (by exact (ps_set (i := 3) sc_exchanged.nd rfl (Or.inl rfl) (by exact (pe_call (ok_parted T) (hr.mono (by decide)) (by rfl) T.g_parted T.F_parted.kp T.b_parted .nil pass0 (pa_cons (pv 1) (pa_cons (pv 2) pa_nil))))))
        (pss_cons (by exact (ps_set (i := 1) sc_exchanged.nd rfl (Or.inl rfl) (pe_lst pa_nil)))
        (pss_one (by exact (ps_for (passes_of rfl) rfl (pi_list (pv 3)) (pg_name (i := 4) sc_exchanged.nd rfl (Or.inl rfl))
        (pss_one (by exact (ps_set (i := 1) sc_exchanged.nd rfl (Or.inl rfl) (pe_op op_cat (pe_op op_cat (pv 1) (pe_slice sl_list (pv 4) (po_some (pe_un un_neg pe_int)) po_none)) (pe_slice sl_list (pv 4) po_none (po_some (pe_un un_neg pe_int)))))))))))) pss_nil))
        (pss_one (by exact (ps_set (i := 1) sc_exchanged.nd rfl (Or.inl rfl) (pe_op op_cat (pv 1) (pe_lst (pa_cons (pv 2) pa_nil)))))))))
        (pss_one (by exact (ps_ret (pv 1))))))), ?_⟩
    rw [show (start ["shape", "row", "number", "parts", "part"] [V.ref a] : L2.St) = [some (V.ref a), none, none, none, none] from rfl]
    walk_at "rd"
    refine ⟨a, ns, rfl, hS, hl, fun ok H1 s1 => ?_, q2⟩
    walk_at "rd"
    refine ⟨lineLe (by simp), fun r0 nr0 => ⟨⟨_, sql_new nr0 (s1.seq hS)⟩, ?_⟩⟩
    refine forK_map ns V.int (fun i σ H' => ∃ (r : Addr) (y2 y3 y4 : Option V), σ = [some (V.ref a), some (V.ref r), y2, y3, y4] ∧ Same H H' ∧ H r = none ∧ H' r = some (.lst ((exL (ns.take i)).map V.int)))
      ⟨r0, none, none, none, rfl, s1.trans (same_new nr0), s1.free nr0, upd_same⟩ (fun i σ H' _ h => ?_) (fun i y σ H' hy h => ?_) (fun σ H' h => ?_)
    · obtain ⟨r, y2, y3, y4, rfl, s2, _⟩ := h
      exact s2.seq hS
    · obtain ⟨r, y2, y3, y4, rfl, s2, nr, hr⟩ := h
      have hi : i < ns.length := (List.getElem?_eq_some_iff.mp hy).1
      have el := exL_len (ns.take i)
      rw [List.length_take] at el
      walk_at "rd"
      refine ⟨_, .inl (SqL.of hr), ?_⟩
      walk_at "rd"
      rw [take_more hy, exL_snoc]
      have ex := exRow_len (exL (ns.take i)) y
      refine ite2 (fun c => ?_) (fun c => ?_)
      · refine ⟨r, _, y, rfl, SqL.of hr, by omega, by omega, fun H2 pp qs s3 npp hpp ow pq => ⟨lineLe (by simp), fun r2 nr2 => ?_⟩⟩
        walk_at "rd"
        have hpp2 := same_new (o := .lst []) nr2 _ _ hpp
        have ow2 := ow.same (same_new (o := .lst []) nr2)
        have s4 := (s2.trans s3).trans (same_new (o := .lst []) nr2)
        have nr2' : H r2 = none := (s2.trans s3).free nr2
        have fl := parted_flat_len (exL (ns.take i)) y
        refine ⟨⟨_, SqL.of hpp2⟩, ?_⟩
        have hr2 : (upd H2 r2 (.lst [])) r2 = some (.lst []) := upd_same
        generalize upd H2 r2 (.lst []) = H3 at hpp2 ow2 s4 hr2 ⊢
        refine forK_map qs V.ref (fun k σ H' => ∃ (r : Addr) (y4 : Option V), σ = [some (V.ref a), some (V.ref r), some (V.int y), some (V.ref pp), y4] ∧ Same H3 H' ∧ H r = none ∧ H' r = some (.lst (((((partedL (exL (ns.take i)) y).take k).map rotR).flatten).map V.int)))
          ⟨r2, y4, rfl, Same.refl _, nr2', hr2⟩ (fun k σ H' _ h => ?_) (fun k qk σ H' hk h => ?_) (fun σ H' h => ?_)
        · obtain ⟨r, y4, rfl, s5, _⟩ := h
          exact SqL.of (s5 _ _ hpp2)
        · obtain ⟨r, y4, rfl, s5, nr5, hr5⟩ := h
          obtain ⟨xs, hxs, hqk⟩ := paired_get ow2.at_ hk
          have hqk5 := s5 _ _ hqk
          have hmem := List.mem_of_getElem? hxs
          have hxl := flatten_len_le xs _ hmem
          have hfl5 : (((partedL (exL (ns.take i)) y).take k).map rotR).flatten.length ≤ 4000 := by
            rw [flat_map_len _ rotR_len]
            have e := congrArg List.length (congrArg List.flatten (List.take_append_drop k (partedL (exL (ns.take i)) y)))
            rw [List.flatten_append, List.length_append] at e
            omega
          walk_at "rd"
          refine ⟨_, SqL.of hqk5, fun p1 np1 => ?_⟩
          rw [cut_last]
          have s6 := s5.trans (same_new (o := .lst ((xs.map V.int).drop ((xs.map V.int).length - 1))) np1)
          have e1 := same_new (o := .lst ((xs.map V.int).drop ((xs.map V.int).length - 1))) np1 _ _ hr5
          have e2 := same_new (o := .lst ((xs.map V.int).drop ((xs.map V.int).length - 1))) np1 _ _ hqk5
          have e3 : (upd H' p1 (.lst ((xs.map V.int).drop ((xs.map V.int).length - 1)))) p1 = _ := upd_same
          generalize upd H' p1 (.lst ((xs.map V.int).drop ((xs.map V.int).length - 1))) = H6 at s6 e1 e2 e3 ⊢
          refine ⟨_, e1, _, e3, lineLe (by simp only [List.length_append, List.length_map, List.length_drop, List.length_take]; omega), fun p2 np2 => ⟨_, SqL.of (same_new np2 _ _ e2), fun p3 np3 => ?_⟩⟩
          rw [cut_init]
          have e4 := same_new (o := .lst ((xs.map V.int).take ((xs.map V.int).length - 1))) np3 _ _ (upd_same (H := H6) (a := p2) (o := .lst ((((partedL (exL (ns.take i)) y).take k).map rotR).flatten.map V.int ++ (xs.map V.int).drop ((xs.map V.int).length - 1))))
          refine ⟨_, e4, _, upd_same, lineLe (by simp only [List.length_append, List.length_map, List.length_drop, List.length_take]; omega), fun p4 np4 => ?_⟩
          have s7 := ((s6.trans (same_new np2)).trans (same_new np3)).trans (same_new (o := .lst ((((partedL (exL (ns.take i)) y).take k).map rotR).flatten.map V.int ++ (xs.map V.int).drop ((xs.map V.int).length - 1) ++ (xs.map V.int).take ((xs.map V.int).length - 1))) np4)
          refine ⟨s7, (s4.trans ((s6.trans (same_new np2)).trans (same_new np3))).free np4, ?_⟩
          rw [upd_same, take_more hxs, List.map_append, List.flatten_append]
          simp [rotR, List.append_assoc]
        · obtain ⟨r, y4, rfl, s5, nr5, hr5⟩ := h
          have ql := paired_len ow2.at_
          rw [ql, List.take_length] at hr5
          have ee : ((partedL (exL (ns.take i)) y).map rotR).flatten = exRow (exL (ns.take i)) y := by unfold exRow; rw [if_pos (by omega)]
          rw [ee] at hr5
          walk_at "rd"
          refine ⟨lineLe (by simp), fun p1 np1 => ⟨_, same_new np1 _ _ hr5, _, upd_same, lineLe (by simp; omega), fun p2 np2 => ?_⟩⟩
          refine ⟨(s4.trans s5).trans ((same_new np1).trans (same_new np2)), ((s4.trans s5).trans (same_new np1)).free np2, ?_⟩
          rw [upd_same, exStep]
          simp
      · have ee : exRow (exL (ns.take i)) y = [] := by unfold exRow; rw [if_neg (by omega)]
        have e0 : exL (ns.take i) = [] := List.length_eq_zero_iff.mp (by omega)
        refine ⟨lineLe (by simp), fun p1 np1 => ⟨_, same_new np1 _ _ hr, _, upd_same, lineLe (by simp; omega), fun p2 np2 => ?_⟩⟩
        refine ⟨s2.trans ((same_new np1).trans (same_new np2)), (s2.trans (same_new np1)).free np2, ?_⟩
        rw [upd_same, exStep, ee, e0]
        simp
    · obtain ⟨r, y2, y3, y4, rfl, s2, nr, hr⟩ := h
      walk_at "rd"
      rw [List.take_length] at hr
      exact q1 ok H' r s2 nr hr

end
end Sh

namespace Sh
section
variable {P : Program} {w : World} {K : PySem.W.Frag} {mg : Str → Option Value} {base : Heap}
def sp_exchanged_back (T : Tx K mg) : Sp := fun vs H Q E => ∃ (a : Addr) (ns : List Int), vs = [.ref a] ∧ SqL K H a (ns.map V.int) ∧ ns.length ≤ 4000 ∧ (shapeOk ns → ∀ H' p, Same H H' → H p = none → H' p = some (.lst ((exB ns).map V.int)) → Q (.ref p) H') ∧ (¬ shapeOk ns → ∀ H', Same H H' → E (.ref T.C_NoShape) none H')
theorem ok_exchanged_back (T : Tx K mg) : FnOk P w K mg base (L2.CX P w) 3 T.f_exchanged_back T.fd_exchanged_back ["shape"] (sp_exchanged_back T) := by
  refine T.F_exchanged_back.okX sc_exchanged_back (fun vs H Q E h => ?_) (fun cdv A outer s H vs Q E hr h => ?_)
  · obtain ⟨a, ns, rfl, _⟩ := h
    rfl
  · obtain ⟨a, ns, rfl, hS, hl, q1, q2⟩ := h
    refine ⟨_, (pss_cons (by exact (ps_expr (by exact (pe_call (ok_ask_shape T) (hr.mono (by decide)) (by rfl) T.g_ask_shape T.F_ask_shape.kp T.b_ask_shape .nil (passes_call (takes_of rfl rfl rfl rfl) (fun _ _ _ _ h => h)) (pa_cons (pv 0) pa_nil)))))
        (pss_cons (by exact (ps_set (i := 1) sc_exchanged_back.nd rfl (Or.inl rfl) (by exact (pe_callTy call_listS (by rfl) T.m_list (by decide +kernel) (pa_cons (pv 0) pa_nil)))))
        (pss_cons (by exact (ps_set (i := 2) sc_exchanged_back.nd rfl (Or.inl rfl) (pe_lst pa_nil)))
        (pss_cons (by exact (ps_while (passes_of rfl) (pt_cmpR (op_gt) (by exact (pe_callB call_lenS (by rfl) T.m_len PySem.boot_len (pa_cons (pv 1) pa_nil))) pe_int (nomark _))
        (pss_cons (by exact (ps_set (i := 3) sc_exchanged_back.nd rfl (Or.inl rfl) (by exact (pe_bm0 PySem.F.plainAttrs_list PySem.F.slot_list_pop PySem.F.type_list_pop mt_pop (pv 1)))))
        (pss_cons (by exact (ps_expr (by exact (pe_bm PySem.F.plainAttrs_list PySem.F.slot_list_append PySem.F.type_list_append mt_append (pv 2) (pa_cons (pv 3) pa_nil)))))
        (pss_one (by exact (ps_if (pt_cmpR (op_gt) (by exact (pe_callB call_lenS (by rfl) T.m_len PySem.boot_len (pa_cons (pv 1) pa_nil))) pe_int (nomark _)) (pss_cons (by exact (ps_set (i := 4) sc_exchanged_back.nd rfl (Or.inl rfl) (by exact (pe_call (ok_parted T) (hr.mono (by decide)) (by rfl) T.g_parted T.F_parted.kp T.b_parted .nil pass0 (pa_cons (by exact (pe_listRev rfl (by rfl) T.m_list (by rfl) T.m_reversed (pv 1))) (pa_cons (pv 3) pa_nil))))))
        (pss_cons (by exact (ps_set (i := 1) sc_exchanged_back.nd rfl (Or.inl rfl) (pe_lst pa_nil)))
        (pss_one (by exact (ps_for (passes_of rfl) rfl (pi_reversed (by rfl) T.m_reversed (pa_cons (pv 4) pa_nil)) (pg_name (i := 5) sc_exchanged_back.nd rfl (Or.inl rfl))
        (pss_cons (by exact (ps_expr (by exact (pe_bm0 PySem.F.plainAttrs_list PySem.F.slot_list_reverse PySem.F.type_list_reverse mt_reverse (pv 5)))))
        (pss_one (by exact (ps_set (i := 1) sc_exchanged_back.nd rfl (Or.inl rfl) (pe_op op_cat (pe_op op_cat (pv 1) (pe_slice sl_list (pv 5) (po_some pe_int) po_none)) (pe_slice sl_list (pv 5) po_none (po_some pe_int)))))))))))) pss_nil)))))))
        (pss_cons (by exact (ps_expr (by exact (pe_bm0 PySem.F.plainAttrs_list PySem.F.slot_list_reverse PySem.F.type_list_reverse mt_reverse (pv 2)))))
        (pss_one (by exact (ps_ret (pv 2))))))))), ?_⟩
    rw [show (start ["shape", "row", "found", "number", "parts", "part"] [V.ref a] : L2.St) = [some (V.ref a), none, none, none, none, none] from rfl]
    walk_at "rd"
    refine ⟨a, ns, rfl, hS, hl, fun ok H1 s1 => ?_, q2⟩
    walk_at "rd"
    refine ⟨_, .inl (s1.seq hS), fun r0 nr0 => ⟨lineLe (by simp), fun f nf => ?_⟩⟩
    have nr0' : H r0 = none := s1.free nr0
    have nf' : H f = none := (s1.trans (same_new nr0)).free nf
    have hr0f : r0 ≠ f := ne_of_none upd_same nf
    refine ⟨fun m σ H' => ∃ (r : Addr) (row fo : List Int) (y3 y4 y5 : Option V), σ = [some (V.ref a), some (V.ref r), some (V.ref f), y3, y4, y5] ∧ m = row.length ∧ row.length + fo.length = ns.length ∧ exB ns = exB row ++ fo.reverse ∧ Same H H' ∧ H r = none ∧ r ≠ f ∧ H' r = some (.lst (row.map V.int)) ∧ H' f = some (.lst (fo.map V.int)),
      ⟨_, r0, ns, [], _, _, _, rfl, rfl, by simp, by simp, (s1.trans (same_new nr0)).trans (same_new nf), nr0', hr0f, by rw [upd_ne hr0f, upd_same], upd_same⟩, fun m σ H' hW => ?_⟩
    obtain ⟨r, row, fo, y3, y4, y5, rfl, rfl, hlen, hex, s2, nr, hrf, hr, hf⟩ := hW
    walk_at "rd"
    refine ⟨_, .inl (SqL.of hr), ?_⟩
    walk_at "rd"
    refine ite2 (fun c => ?_) (fun c => ?_)
    · obtain ⟨ini, x, rfl⟩ : ∃ r z, row = r ++ [z] := ⟨row.dropLast, row.getLast (by intro e; simp [e] at c), (List.dropLast_concat_getLast _).symm⟩
      rw [List.length_append, List.length_singleton] at hlen
      refine ⟨fun σ' H' => ∃ (r : Addr) (y3 y4 y5 : Option V), σ' = [some (V.ref a), some (V.ref r), some (V.ref f), y3, y4, y5] ∧ Same H H' ∧ H r = none ∧ r ≠ f ∧ H' r = some (.lst ((bkRow ini x).map V.int)) ∧ H' f = some (.lst ((fo ++ [x]).map V.int)), fun σ' H' h => ?_, ?_⟩
      · obtain ⟨r, y3, y4, y5, rfl, s3, nr3, hrf3, hr3, hf3⟩ := h
        refine ⟨_, ?_, r, ⟨_, _, _, rfl⟩, bkRow ini x, rfl, fo ++ [x], by rw [bkRow_len]; simp; omega, by rw [hex, exB_snoc]; simp, s3, nr3, hrf3, hr3, hf3⟩
        rw [bkRow_len]; simp
      · have hdl : ((ini ++ [x]).map V.int).dropLast = ini.map V.int := by rw [List.map_append]; exact List.dropLast_concat
        refine ⟨tyL hr, _, hr, V.int x, by simp, ?_⟩
        rw [hdl]
        have hf2 : (upd H' r (.lst (ini.map V.int))) f = some (.lst (fo.map V.int)) := by rw [upd_ne (Ne.symm hrf)]; exact hf
        refine ⟨tyL hf2, _, hf2, lineLt (by simp; omega), ?_⟩
        have hr4 : (upd (upd H' r (.lst (ini.map V.int))) f (.lst (fo.map V.int ++ [V.int x]))) r = some (.lst (ini.map V.int)) := by rw [upd_ne hrf, upd_same]
        have hf4 : (upd (upd H' r (.lst (ini.map V.int))) f (.lst (fo.map V.int ++ [V.int x]))) f = some (.lst ((fo ++ [x]).map V.int)) := by rw [upd_same]; simp
        have s4 : Same H (upd (upd H' r (.lst (ini.map V.int))) f (.lst (fo.map V.int ++ [V.int x]))) := same_mut (same_mut s2 nr) nf'
        generalize (upd (upd H' r (.lst (ini.map V.int))) f (.lst (fo.map V.int ++ [V.int x]))) = H4 at hr4 hf4 s4 ⊢
        refine ⟨_, .inl (SqL.of hr4), ?_⟩
        walk_at "rd"
        refine ite2 (fun c => ?_) (fun c => ?_)
        · refine ⟨_, SqL.of hr4, fun t nt => ?_⟩
          have hf5 := same_new (o := .lst (ini.map V.int).reverse) nt _ _ hf4
          have s5 := s4.trans (same_new (o := .lst (ini.map V.int).reverse) nt)
          have ht5 : (upd H4 t (.lst (ini.map V.int).reverse)) t = some (.lst (ini.reverse.map V.int)) := by rw [upd_same, List.map_reverse]
          generalize upd H4 t (.lst (ini.map V.int).reverse) = H5 at hf5 s5 ht5 ⊢
          refine ⟨t, ini.reverse, x, rfl, SqL.of ht5, by simp; omega, by simp; omega, fun H6 pp qs s6 npp hpp ow pq => ⟨lineLe (by simp), fun r6 nr6 => ?_⟩⟩
          have hpp7 := same_new (o := .lst []) nr6 _ _ hpp
          have ow7 := ow.same (same_new (o := .lst []) nr6)
          have hf7 := same_new (o := .lst []) nr6 _ _ (s6 _ _ hf5)
          have s7 := (s5.trans s6).trans (same_new (o := .lst []) nr6)
          have nr7 : H r6 = none := (s5.trans s6).free nr6
          have hr7 : (upd H6 r6 (.lst [])) r6 = some (.lst []) := upd_same
          have hrf7 : r6 ≠ f := (ne_of_none (s6 _ _ hf5) nr6).symm
          have hppr : pp ≠ r6 := ne_of_none hpp nr6
          have hrq : r6 ∉ qs := ow.there nr6
          have hex7 : ∀ z ∈ qs, (upd H6 r6 (.lst [])) z ≠ none := fun z hz => by
            obtain ⟨y, e⟩ := paired_at ow7.at_ hz
            rw [e]; exact fun w => nomatch w
          have hfq : f ∉ qs := fun z => by have := ow.new f z; rw [hf5] at this; cases this
          have npp0 : H pp = none := s5.free npp
          have ql := paired_len ow.at_
          have hnew : ∀ q ∈ qs, H q = none := fun q hq => s5.free (ow.new q hq)
          have fl := parted_flat_len ini.reverse x
          rw [List.length_reverse] at fl
          have hbk : bkRow ini x = ((partedL ini.reverse x).reverse.map fun p => rotL p.reverse).flatten := by unfold bkRow; rw [if_pos (by omega)]
          generalize upd H6 r6 (.lst []) = H7 at hpp7 ow7 hf7 s7 hr7 hex7 ⊢
          refine ⟨pp, rfl, _, SqL.of hpp7, ?_⟩
          rw [hbk]
          generalize partedL ini.reverse x = ps at ow7 ql fl ⊢
          refine forK_rev qs V.ref (by simp) (fun k σ H' => ∃ (r : Addr) (y5 : Option V), σ = [some (V.ref a), some (V.ref r), some (V.ref f), some (V.int x), some (V.ref pp), y5] ∧ Same H H' ∧ H r = none ∧ r ≠ f ∧ r ≠ pp ∧ r ∉ qs ∧ (∀ z ∈ qs, H' z ≠ none) ∧ H' pp = some (.lst (qs.map V.ref)) ∧ H' f = some (.lst ((fo ++ [x]).map V.int)) ∧
              Own2 H5 H' (qs.take (qs.length - k)) (ps.take (qs.length - k)) ∧ H' r = some (.lst ((((ps.reverse.take k).map fun p => rotL p.reverse).flatten).map V.int)))
            ⟨r6, y5, rfl, s7, nr7, hrf7, hppr.symm, hrq, hex7, hpp7, hf7, by rw [Nat.sub_zero, List.take_length, ql, List.take_length]; exact ow7, by simpa using hr7⟩ (fun k σ H' _ h => ?_) (fun k q σ H' hk hq h => ?_) (fun σ H' h => ?_)
          · obtain ⟨r, y5, rfl, _, _, _, _, _, _, hpp8, _⟩ := h
            exact SqL.of hpp8
          · obtain ⟨r, y5, rfl, s8, nr8, hrf8, hrp8, hrq8, hex8, hpp8, hf8, ow8, hr8⟩ := h
            walk_at "rd"
            obtain ⟨p, hp⟩ : ∃ p, ps[qs.length - 1 - k]? = some p := ⟨_, List.getElem?_eq_getElem (by omega)⟩
            have e1 : qs.length - k = (qs.length - 1 - k) + 1 := by omega
            rw [e1, take_more hq, take_more hp] at ow8
            obtain ⟨ow9, hq9, nq9, _⟩ := ow8.split (by rw [List.length_take, List.length_take, ql])
            have hqm : q ∈ qs := List.mem_of_getElem? hq
            have hqf : q ≠ f := fun z => hfq (z ▸ hqm)
            have hqr : q ≠ r := fun z => hrq8 (z ▸ hqm)
            have hqp : q ≠ pp := fun z => pq (z ▸ hqm)
            have hfl8 : (((ps.reverse.take k).map fun p => rotL p.reverse).flatten).length + p.length ≤ 4000 := by
              rw [flat_map_len (fun p => rotL p.reverse) (fun p => by rw [rotL_len, List.length_reverse])]
              have hp' : ps.reverse[k]? = some p := by rw [rev_at (by omega), ← ql]; exact hp
              have e2 := congrArg List.length (congrArg List.flatten (List.take_append_drop (k + 1) ps.reverse))
              rw [take_more hp', List.flatten_append, List.flatten_append, List.length_append, List.length_append] at e2
              have e3 : ps.reverse.flatten.length = ps.flatten.length := by rw [List.length_flatten, List.length_flatten, List.map_reverse, List.sum_reverse]
              simp only [List.flatten_singleton] at e2
              omega
            have s9 : Same H (upd H' q (.lst (p.map V.int).reverse)) := same_mut s8 (hnew q hqm)
            have hq10 : (upd H' q (.lst (p.map V.int).reverse)) q = some (.lst (p.reverse.map V.int)) := by rw [upd_same, List.map_reverse]
            have hr10 : (upd H' q (.lst (p.map V.int).reverse)) r = _ := (upd_ne (Ne.symm hqr)).trans hr8
            have hpp10 : (upd H' q (.lst (p.map V.int).reverse)) pp = _ := (upd_ne (Ne.symm hqp)).trans hpp8
            have hf10 : (upd H' q (.lst (p.map V.int).reverse)) f = _ := (upd_ne (Ne.symm hqf)).trans hf8
            have hex10 : ∀ z ∈ qs, (upd H' q (.lst (p.map V.int).reverse)) z ≠ none := fun z hz => by
              by_cases e : z = q
              · subst e; rw [upd_same]; exact fun w => nomatch w
              · rw [upd_ne e]; exact hex8 z hz
            have ow10 := ow9.mut (o := .lst (p.map V.int).reverse) nq9
            refine ⟨tyL hq9, _, hq9, ?_⟩
            have ft : ∀ q ∈ qs.take (qs.length - 1 - k), q ∈ qs := fun q hq => List.mem_of_mem_take hq
            generalize upd H' q (.lst (p.map V.int).reverse) = H10 at s9 hq10 hr10 hpp10 hf10 hex10 ow10 ⊢
            have c1 : cutV (p.reverse.map V.int) (some 1) none = (p.reverse.drop 1).map V.int := by rw [show (1 : Int) = ((1 : Nat) : Int) from rfl, cut_from, List.map_drop]
            have c2 : cutV (p.reverse.map V.int) none (some 1) = (p.reverse.take 1).map V.int := by rw [show (1 : Int) = ((1 : Nat) : Int) from rfl, cut_to, List.map_take]
            refine ⟨_, SqL.of hq10, fun p1 np1 => ?_⟩
            rw [c1]
            refine ⟨_, same_new np1 _ _ hr10, _, upd_same, lineLe (by simp only [List.length_map, List.length_drop, List.length_reverse]; omega), fun p2 np2 => ⟨_, SqL.of (same_new np2 _ _ (same_new np1 _ _ hq10)), fun p3 np3 => ?_⟩⟩
            rw [c2]
            have t1 := same_new (o := .lst ((p.reverse.drop 1).map V.int)) np1
            have t2 := t1.trans (same_new (o := .lst ((((ps.reverse.take k).map fun p => rotL p.reverse).flatten).map V.int ++ (p.reverse.drop 1).map V.int)) np2)
            have t3 := t2.trans (same_new (o := .lst ((p.reverse.take 1).map V.int)) np3)
            refine ⟨_, same_new np3 _ _ upd_same, _, upd_same, lineLe (by simp only [List.length_append, List.length_map, List.length_drop, List.length_take, List.length_reverse]; omega), fun p4 np4 => ?_⟩
            have t4 := t3.trans (same_new (o := .lst ((((ps.reverse.take k).map fun p => rotL p.reverse).flatten).map V.int ++ (p.reverse.drop 1).map V.int ++ (p.reverse.take 1).map V.int)) np4)
            have hp' : ps.reverse[k]? = some p := by rw [rev_at (by omega), ← ql]; exact hp
            have n4 : H10 p4 = none := t3.free np4
            refine ⟨s9.trans t4, (s9.trans t3).free np4, fun z => ?_, fun z => ?_, fun z => hex10 _ z n4, fun z hz w => hex10 _ hz (t4.free w), t4 _ _ hpp10, t4 _ _ hf10, ?_, ?_⟩
            · rw [z, hf10] at n4; cases n4
            · rw [z, hpp10] at n4; cases n4
            · have e3 : qs.length - (k + 1) = qs.length - 1 - k := by omega
              rw [e3]
              exact ow10.same t4
            · rw [upd_same, take_more hp', List.map_append, List.flatten_append]
              simp [rotL, List.append_assoc]
          · obtain ⟨r, y5, rfl, s8, nr8, hrf8, hrp8, hrq8, hex8, hpp8, hf8, ow8, hr8⟩ := h
            walk_at "rd"
            rw [ql, ← List.length_reverse, List.take_length] at hr8
            exact ⟨s8, nr8, hrf8, hr8, hf8⟩
        · have e0 : ini = [] := List.length_eq_zero_iff.mp (by omega)
          subst e0
          exact ⟨s4, nr, hrf, hr4, hf4⟩
    · have e0 : row = [] := List.length_eq_zero_iff.mp (by omega)
      subst e0
      refine ⟨tyL hf, _, hf, q1 ok _ f (same_mut s2 nf') nf' ?_⟩
      rw [upd_same, hex, ← List.map_reverse]
      rfl

end
end Sh

namespace Sh
section
variable {P : Program} {w : World} {K : PySem.W.Frag} {mg : Str → Option Value} {base : Heap}
def sp__law_of_one (T : Tx K mg) : Sp := fun vs H Q E => ∃ (way : Int) (a : Addr) (ns : List Int), vs = [.int way, .ref a] ∧ SqL K H a (ns.map V.int) ∧ ns.length ≤ 4000 ∧ ¬ shapeOk ns ∧ ∀ H', Same H H' → E (.ref T.C_NoShape) none H'
theorem ok__law_of_one (T : Tx K mg) : FnOk P w K mg base (L2.CX P w) 5 T.f__law_of_one T.fd__law_of_one ["way", "shape"] (sp__law_of_one T) := by
  refine T.F__law_of_one.okX sc__law_of_one (fun vs H Q E h => ?_) (fun cdv A outer s H vs Q E hr h => ?_)
  · obtain ⟨way, a, ns, rfl, _⟩ := h
    rfl
  · obtain ⟨way, a, ns, rfl, hS, hl, no, q⟩ := h
    refine ⟨_, (pss_one (by exact (ps_if (pt_cmpR (op_eq) (pv 0) pe_int (nomark _)) (pss_one (by exact (ps_expr (by exact (pe_call (ok_backward T) (hr.mono (by decide)) (by rfl) T.g_backward T.F_backward.kp T.b_backward .nil (passes_call (takes_of rfl rfl rfl rfl) (fun _ _ _ _ h => h)) (pa_cons (pv 1) pa_nil)))))) (pss_one (by exact (ps_if (pt_cmpR (op_eq) (pv 0) pe_int (nomark _)) (pss_one (by exact (ps_expr (by exact (pe_call (ok_contrary T) (hr.mono (by decide)) (by rfl) T.g_contrary T.F_contrary.kp T.b_contrary .nil (passes_call (takes_of rfl rfl rfl rfl) (fun _ _ _ _ h => h)) (pa_cons (pv 1) pa_nil)))))) (pss_one (by exact (ps_if (pt_cmpR (op_eq) (pv 0) pe_int (nomark _)) (pss_one (by exact (ps_expr (by exact (pe_call (ok_turned_over T) (hr.mono (by decide)) (by rfl) T.g_turned_over T.F_turned_over.kp T.b_turned_over .nil (passes_call (takes_of rfl rfl rfl rfl) (fun _ _ _ _ h => h)) (pa_cons (pv 1) pa_nil)))))) (pss_one (by exact (ps_if (pt_cmpR (op_eq) (pv 0) pe_int (nomark _)) (pss_one (by exact (ps_expr (by exact (pe_call (ok_falls T) (hr.mono (by decide)) (by rfl) T.g_falls T.F_falls.kp T.b_falls .nil (passes_call (takes_of rfl rfl rfl rfl) (fun _ _ _ _ h => h)) (pa_cons (pv 1) pa_nil)))))) (pss_one (by exact (ps_if (pt_cmpR (op_eq) (pv 0) pe_int (nomark _)) (pss_one (by exact (ps_expr (by exact (pe_call (ok_wrong_pairs T) (hr.mono (by decide)) (by rfl) T.g_wrong_pairs T.F_wrong_pairs.kp T.b_wrong_pairs .nil (passes_call (takes_of rfl rfl rfl rfl) (fun _ _ _ _ h => h)) (pa_cons (pv 1) pa_nil)))))) (pss_one (by exact (ps_if (pt_cmpR (op_eq) (pv 0) pe_int (nomark _)) (pss_one (by exact (ps_expr (by exact (pe_call (ok_fall_sum T) (hr.mono (by decide)) (by rfl) T.g_fall_sum T.F_fall_sum.kp T.b_fall_sum .nil (passes_call (takes_of rfl rfl rfl rfl) (fun _ _ _ _ h => h)) (pa_cons (pv 1) pa_nil)))))) (pss_one (by exact (ps_if (pt_cmpR (op_eq) (pv 0) pe_int (nomark _)) (pss_one (by exact (ps_expr (by exact (pe_call (ok_exchanged T) (hr.mono (by decide)) (by rfl) T.g_exchanged T.F_exchanged.kp T.b_exchanged .nil (passes_call (takes_of rfl rfl rfl rfl) (fun _ _ _ _ h => h)) (pa_cons (pv 1) pa_nil)))))) (pss_one (by exact (ps_expr (by exact (pe_call (ok_exchanged_back T) (hr.mono (by decide)) (by rfl) T.g_exchanged_back T.F_exchanged_back.kp T.b_exchanged_back .nil (passes_call (takes_of rfl rfl rfl rfl) (fun _ _ _ _ h => h)) (pa_cons (pv 1) pa_nil))))))))))))))))))))))))))), ?_⟩
    rw [show (start ["way", "shape"] [V.int way, V.ref a] : L2.St) = [some (V.int way), some (V.ref a)] from rfl]
    walk_at "rd"
    refine ⟨rfl, ?_⟩
    split
    · exact ⟨a, ns, rfl, hS, hl, fun z => absurd z no, fun _ => q⟩
    refine ⟨rfl, ?_⟩
    split
    · exact ⟨a, ns, rfl, hS, hl, fun z => absurd z no, fun _ => q⟩
    refine ⟨rfl, ?_⟩
    split
    · exact ⟨a, ns, rfl, hS, hl, fun z => absurd z no, fun _ => q⟩
    refine ⟨rfl, ?_⟩
    split
    · exact ⟨a, ns, rfl, hS, hl, fun z => absurd z no, fun _ => q⟩
    refine ⟨rfl, ?_⟩
    split
    · exact ⟨a, ns, rfl, hS, hl, fun z => absurd z no, fun _ => q⟩
    refine ⟨rfl, ?_⟩
    split
    · exact ⟨a, ns, rfl, hS, hl, fun z => absurd z no, fun _ => q⟩
    refine ⟨rfl, ?_⟩
    split
    · exact ⟨a, ns, rfl, hS, hl, fun z => absurd z no, fun _ => q⟩
    exact ⟨a, ns, rfl, hS, hl, fun z => absurd z no, fun _ => q⟩

end
end Sh

namespace Sh
section
variable {P : Program} {w : World} {K : PySem.W.Frag} {mg : Str → Option Value} {base : Heap}
def sp_ask_three (T : Tx K mg) : Sp := fun vs H Q E => ∃ (a : Addr) (ns : List Int), vs = [.ref a] ∧ SqL K H a (ns.map V.int) ∧ ns.length ≤ 4000 ∧ (shapeOk ns → ns.length = 3 → ∀ H', Same H H' → Q .non H') ∧ (¬ shapeOk ns → ∀ H', Same H H' → E (.ref T.C_NoShape) none H') ∧ (shapeOk ns → ¬ ns.length = 3 → ∀ H', Same H H' → E (.ref T.C_NoOrder) none H')
theorem ok_ask_three (T : Tx K mg) : FnOk P w K mg base (L2.CX P w) 4 T.f_ask_three T.fd_ask_three ["order"] (sp_ask_three T) := by
  refine T.F_ask_three.okX sc_ask_three (fun vs H Q E h => ?_) (fun cdv A outer s H vs Q E hr h => ?_)
  · obtain ⟨a, ns, rfl, _⟩ := h
    rfl
  · obtain ⟨a, ns, rfl, hS, hl, q1, q2, q3⟩ := h
    refine ⟨_, (pss_cons (by exact (ps_expr (by exact (pe_call (ok_ask_order T) (hr.mono (by decide)) (by rfl) T.g_ask_order T.F_ask_order.kp T.b_ask_order .nil (passes_call (takes_of rfl rfl rfl rfl) (fun _ _ _ _ h => h)) (pa_cons (pv 0) pa_nil)))))
        (pss_one (by exact (ps_if (pt_cmpR (op_ne) (by exact (pe_callB call_lenS (by rfl) T.m_len PySem.boot_len (pa_cons (pv 0) pa_nil))) pe_int (nomark _)) (pss_one (by exact (ps_raise rfl (takes_of rfl rfl rfl rfl) (pmk_own PySem.F.excBase_ValueError T.x_NoOrder T.gC_NoOrder T.kC_NoOrder (raises_own T.bC_NoOrder T.tC_NoOrder) (by exact rfl))))) pss_nil)))), ?_⟩
    rw [show (start ["order"] [V.ref a] : L2.St) = [some (V.ref a)] from rfl]
    walk_at "rd"
    refine ⟨a, ns, rfl, hS, hl, fun ok k1 H1 s1 => ?_, q2, fun ok k1 H1 s1 => q3 ok (fun z => k1 (by omega)) _ s1⟩
    walk_at "rd"
    refine ⟨_, .inl (s1.seq hS), rfl, ?_⟩
    rw [List.length_map]
    exact ite2 (fun c => q3 ok (fun z => c (by omega)) _ s1) (fun c => q1 ok (by omega) _ s1)

end
end Sh

namespace Sh
section
variable {P : Program} {w : World} {K : PySem.W.Frag} {mg : Str → Option Value} {base : Heap}
def sp_ask_size (T : Tx K mg) : Sp := fun vs H Q E => ∃ (n : Int), vs = [.int n] ∧ (1 ≤ n ∧ n ≤ 20 → Q .non H) ∧ (¬ (1 ≤ n ∧ n ≤ 20) → E (.ref T.C_NoSize) none H)
theorem ok_ask_size (T : Tx K mg) : FnOk P w K mg base (L2.CX P w) 1 T.f_ask_size T.fd_ask_size ["size"] (sp_ask_size T) := by
  refine T.F_ask_size.okX sc_ask_size (fun vs H Q E h => ?_) (fun cdv A outer s H vs Q E hr h => ?_)
  · obtain ⟨n, rfl, _⟩ := h
    rfl
  · obtain ⟨n, rfl, q1, q2⟩ := h
    refine ⟨_, (pss_one (by exact (ps_if (pt_not (pt_chain (op_le) (op_le) pe_int (pv 0) (pe_glob (v := .int 20) rfl T.g_MOST_SIZE ⟨_, rfl⟩))) (pss_one (by exact (ps_raise rfl (takes_of rfl rfl rfl rfl) (pmk_own PySem.F.excBase_ValueError T.x_NoSize T.gC_NoSize T.kC_NoSize (raises_own T.bC_NoSize T.tC_NoSize) (by exact rfl))))) pss_nil))), ?_⟩
    rw [show (start ["size"] [V.int n] : L2.St) = [some (V.int n)] from rfl]
    walk_at "rd"
    exact ite2 (fun c => ite2 (fun d => q2 fun z => d z.2) (fun d => q1 ⟨c, Classical.byContradiction d⟩)) (fun c => q2 fun z => c z.1)

end
end Sh

namespace Sh
section
variable {P : Program} {w : World} {K : PySem.W.Frag} {mg : Str → Option Value} {base : Heap}
def sp_ways (T : Tx K mg) : Sp := fun vs H Q E => ∃ (n : Nat), vs = [.int n] ∧ n ≤ 30 ∧ ∀ (bs : List (Addr × List Int)) H' p, Same H H' → H p = none → H' p = some (.lst (bs.map fun b => V.ref b.1)) → LLs H' bs → bs.map Prod.snd = (List.range (2 * n + 1)).map (wayN n) → Q (.ref p) H'
theorem ok_ways (T : Tx K mg) : FnOk P w K mg base CX0 1 T.f_ways T.fd_ways ["size"] (sp_ways T) := by
  refine T.F_ways.ok sc_ways (fun vs H Q E h => ?_) (fun cdv A outer s H vs Q E hr h => ?_)
  · obtain ⟨n, rfl, _⟩ := h
    rfl
  · obtain ⟨n, rfl, hn, q⟩ := h
    refine ⟨_, (pss_cons (by exact (ps_set (i := 1) sc_ways.nd rfl (Or.inl rfl) (pe_lst (pa_cons (pe_op op_cat (pe_lst (pa_cons pe_int pa_nil)) (pe_op op_rep (pe_lst (pa_cons pe_int pa_nil)) (pe_op op_add (pe_op op_mul pe_int (pv 0)) pe_int))) pa_nil))))
        (pss_cons (by exact (ps_for PassesOwn.never rfl (pi_range2 rfl T.m_range (pa_cons pe_int (pa_cons (pe_op op_add (pe_op op_mul pe_int (pv 0)) pe_int) pa_nil))) (pg_name (i := 2) sc_ways.nd rfl (Or.inl rfl))
        (pss_cons (by exact (ps_set (i := 3) sc_ways.nd rfl (Or.inl rfl) (pe_lst pa_nil)))
        (pss_cons (by exact (ps_for PassesOwn.never rfl (pi_range1 rfl T.m_range (pa_cons (pe_op op_add (pe_op op_mul pe_int (pv 0)) pe_int) pa_nil)) (pg_name (i := 4) sc_ways.nd rfl (Or.inl rfl))
        (pss_one (by exact (ps_expr (by exact (pe_bm PySem.F.plainAttrs_list PySem.F.slot_list_append PySem.F.type_list_append mt_append (pv 3) (pa_cons (pe_op op_add (pe_ix ix_list (pe_ix ix_list (pv 1) (pe_un un_neg pe_int) (fun _ _ => rfl)) (pe_op op_add (pv 4) pe_int) (fun _ _ => rfl)) (by exact (pe_ifExp (pt_cmpR (op_gt) (pv 4) pe_int (nomark _)) (pe_ix ix_list (pe_ix ix_list (pv 1) (pe_un un_neg pe_int) (fun _ _ => rfl)) (pe_op op_sub (pv 4) pe_int) (fun _ _ => rfl)) pe_int))) pa_nil))))))))
        (pss_one (by exact (ps_expr (by exact (pe_bm PySem.F.plainAttrs_list PySem.F.slot_list_append PySem.F.type_list_append mt_append (pv 1) (pa_cons (pe_op op_cat (pv 3) (pe_lst (pa_cons pe_int pa_nil))) pa_nil))))))))))
        (pss_one (by exact (ps_ret (pv 1)))))), ?_⟩
    rw [show (start ["size", "rows", "left", "row", "height"] [V.int n] : L2.St) = [some (V.int n), none, none, none, none] from rfl]
    walk_at "rd"
    refine ⟨lineLe (by simp), fun p0 n0 => ⟨lineLe (by simp), fun p1 n1 => ⟨.inl ⟨by decide, by decide⟩, _, upd_same, by omega, by omega, lineLe (by simp; omega), fun p2 n2 => ?_⟩⟩⟩
    have hrep : (List.replicate (2 * (n : Int) + 1).toNat [V.int 0]).flatten = (List.replicate (2 * n + 1) (0 : Int)).map V.int := by
      rw [show (2 * (n : Int) + 1).toNat = 2 * n + 1 by omega, List.map_replicate]
      generalize 2 * n + 1 = L
      induction L with
      | zero => rfl
      | succ L ih => rw [List.replicate_succ, List.flatten_cons, ih]; rfl
    rw [hrep]
    have m1 := same_new (o := .lst [V.int 1]) n0
    have m2 := m1.trans (same_new (o := .lst [V.int 0]) n1)
    refine ⟨_, same_new n2 _ _ (same_new n1 _ _ upd_same), _, upd_same, lineLe (by simp; omega), fun p3 n3 => ⟨lineLe (by simp), fun p4 n4 => ⟨.inl ⟨by decide, by decide⟩, by omega, by omega, by omega, by omega, ?_⟩⟩⟩
    have m3 := m2.trans (same_new (o := .lst ((List.replicate (2 * n + 1) (0 : Int)).map V.int)) n2)
    have m4 := m3.trans (same_new (o := .lst ([V.int 1] ++ (List.replicate (2 * n + 1) (0 : Int)).map V.int)) n3)
    have nR : H p4 = none := m4.free n4
    have m5 := m4.trans (same_new (o := .lst [V.ref p3]) n4)
    have n34 : p3 ≠ p4 := ne_of_none upd_same n4
    have g3 := same_new (o := .lst [V.ref p3]) n4 _ _ (upd_same (H := (upd (upd (upd H p0 (.lst [V.int 1])) p1 (.lst [V.int 0])) p2 (.lst ((List.replicate (2 * n + 1) (0 : Int)).map V.int)))) (a := p3) (o := .lst ([V.int 1] ++ (List.replicate (2 * n + 1) (0 : Int)).map V.int)))
    have g4 : (upd (upd (upd (upd (upd H p0 (.lst [V.int 1])) p1 (.lst [V.int 0])) p2 (.lst ((List.replicate (2 * n + 1) (0 : Int)).map V.int))) p3 (.lst ([V.int 1] ++ (List.replicate (2 * n + 1) (0 : Int)).map V.int))) p4 (.lst [V.ref p3])) p4 = some (.lst [V.ref p3]) := upd_same
    generalize (upd (upd (upd (upd (upd H p0 (.lst [V.int 1])) p1 (.lst [V.int 0])) p2 (.lst ((List.replicate (2 * n + 1) (0 : Int)).map V.int))) p3 (.lst ([V.int 1] ++ (List.replicate (2 * n + 1) (0 : Int)).map V.int))) p4 (.lst [V.ref p3])) = H5 at m5 g3 g4 ⊢
    rw [show (2 * (n : Int) + 1 - 1).toNat = 2 * n by omega]
    have e0 : ([V.int 1] ++ (List.replicate (2 * n + 1) (0 : Int)).map V.int) = (wayN n 0).map V.int := by rw [wayN_zero]; rfl
    rw [e0] at g3
    refine forK_range (fun i σ H' => ∃ (bs : List (Addr × List Int)) (y2 y3 y4 : Option V), σ = [some (V.int n), some (V.ref p4), y2, y3, y4] ∧ Same H H' ∧ H' p4 = some (.lst (bs.map fun b => V.ref b.1)) ∧ LLs H' bs ∧ (∀ b ∈ bs, b.1 ≠ p4) ∧ bs.map Prod.snd = (List.range (i + 1)).map (wayN n))
      ⟨[(p3, wayN n 0)], _, _, _, rfl, m5, g4, fun b hb => by
        have e : b = (p3, wayN n 0) := by simpa using hb
        subst e; exact g3, fun b hb => by
        have e : b = (p3, wayN n 0) := by simpa using hb
        subst e; exact n34, rfl⟩ (fun i σ H' hi h => ?_) (fun σ H' h => ?_)
    · obtain ⟨bs, y2, y3, y4, rfl, s1, hR, ll, nb, e⟩ := h
      obtain ⟨rs, b, rfl, eb⟩ := last_snd e
      have bl : (rs ++ [b]).length = i + 1 := by have := congrArg List.length e; simpa using this
      walk_at "rd"
      refine ⟨lineLe (by simp), fun r nr => ⟨.inl ⟨by decide, by decide⟩, by omega, by omega, ?_⟩⟩
      have hR1 := same_new (o := .lst []) nr _ _ hR
      have ll1 := ll.same (same_new (o := .lst []) nr)
      have s2 := s1.trans (same_new (o := .lst []) nr)
      have nr0 : H r = none := s1.free nr
      have hr1 : (upd H' r (.lst [])) r = some (.lst []) := upd_same
      have nrR : p4 ≠ r := ne_of_none hR nr
      have nbr := ll.ne nr
      generalize upd H' r (.lst []) = H6 at hR1 ll1 s2 hr1 ⊢
      rw [show (2 * (n : Int) + 1).toNat = 2 * n + 1 by omega]
      refine forK_range (fun j σ H' => ∃ (y4 : Option V), σ = [some (V.int n), some (V.ref p4), some (V.int (1 + (i : Int))), some (V.ref r), y4] ∧ Same H H' ∧ H' p4 = some (.lst ((rs ++ [b]).map fun b => V.ref b.1)) ∧ LLs H' (rs ++ [b]) ∧
          H' r = some (.lst (((List.range j).map fun h : Nat => (wayN n i).getD (h + 1) 0 + if 0 < h then (wayN n i).getD (h - 1) 0 else 0).map V.int)))
        ⟨_, rfl, s2, hR1, ll1, hr1⟩ (fun j σ H' hj h => ?_) (fun σ H' h => ?_)
      · obtain ⟨y4, rfl, s3, hR2, ll2, hr2⟩ := h
        have hb2 := ll2 b (by simp)
        rw [eb] at hb2
        have wl := wayN_len n i
        have hlast : atI ((rs ++ [b]).map fun b => V.ref b.1) (-1) = some (V.ref b.1) := by rw [List.map_append]; exact atI_last _ _
        walk_at "rd"
        have hpush : ∀ z : Int, z = (if 0 < j then (wayN n i).getD (j - 1) 0 else 0) → ∀ (R : Prop), (Same H (upd H' r (.lst ((((List.range j).map fun h : Nat => (wayN n i).getD (h + 1) 0 + if 0 < h then (wayN n i).getD (h - 1) 0 else 0).map V.int) ++ [V.int ((wayN n i).getD (j + 1) 0 + z)]))) → (upd H' r (.lst ((((List.range j).map fun h : Nat => (wayN n i).getD (h + 1) 0 + if 0 < h then (wayN n i).getD (h - 1) 0 else 0).map V.int) ++ [V.int ((wayN n i).getD (j + 1) 0 + z)]))) p4 = some (.lst ((rs ++ [b]).map fun b => V.ref b.1)) → LLs (upd H' r (.lst ((((List.range j).map fun h : Nat => (wayN n i).getD (h + 1) 0 + if 0 < h then (wayN n i).getD (h - 1) 0 else 0).map V.int) ++ [V.int ((wayN n i).getD (j + 1) 0 + z)]))) (rs ++ [b]) →
            (upd H' r (.lst ((((List.range j).map fun h : Nat => (wayN n i).getD (h + 1) 0 + if 0 < h then (wayN n i).getD (h - 1) 0 else 0).map V.int) ++ [V.int ((wayN n i).getD (j + 1) 0 + z)]))) r = some (.lst (((List.range (j + 1)).map fun h : Nat => (wayN n i).getD (h + 1) 0 + if 0 < h then (wayN n i).getD (h - 1) 0 else 0).map V.int)) → R) → R := fun z hz R k => by
          refine k (same_mut s3 nr0) (by rw [upd_ne nrR]; exact hR2) (ll2.mut nbr) ?_
          rw [upd_same, hz, List.range_succ, List.map_append, List.map_append]; rfl
        refine ⟨tyL hr2, _, SqL.of hR2, _, hlast, _, rfl, _, SqL.of hb2, _, atI_ints (by omega) (by omega), ite2 (fun c => ?_) (fun c => ?_)⟩
        · refine ⟨_, SqL.of hR2, _, hlast, _, rfl, _, SqL.of hb2, _, atI_ints (by omega) (by omega), _, rfl, _, rfl, _, hr2, lineLt (by simp; omega), ?_⟩
          rw [show ((j : Int) + 1).toNat = j + 1 by omega, show ((j : Int) - 1).toNat = j - 1 by omega]
          exact hpush _ (by rw [if_pos (by omega)]) _ fun k1 k2 k3 k4 => ⟨k1, k2, k3, k4⟩
        · refine ⟨_, rfl, _, hr2, lineLt (by simp; omega), ?_⟩
          rw [show ((j : Int) + 1).toNat = j + 1 by omega]
          exact hpush 0 (by rw [if_neg (by omega)]) _ fun k1 k2 k3 k4 => ⟨k1, k2, k3, k4⟩
      · obtain ⟨y4, rfl, s3, hR2, ll2, hr2⟩ := h
        walk_at "rd"
        refine ⟨tyL hR2, lineLe (by simp), fun p5 n5 => ⟨_, same_new n5 _ _ hr2, _, upd_same, lineLe (by simp; omega), fun p6 n6 => ?_⟩⟩
        have k6 := (same_new (o := .lst [V.int 0]) n5).trans (same_new (o := .lst (((List.range (2 * n + 1)).map fun h : Nat => (wayN n i).getD (h + 1) 0 + if 0 < h then (wayN n i).getD (h - 1) 0 else 0).map V.int ++ [V.int 0])) n6)
        have n60 := (same_new (o := .lst [V.int 0]) n5).free n6
        have h6 : (upd (upd H' p5 (.lst [V.int 0])) p6 (.lst (((List.range (2 * n + 1)).map fun h : Nat => (wayN n i).getD (h + 1) 0 + if 0 < h then (wayN n i).getD (h - 1) 0 else 0).map V.int ++ [V.int 0]))) p6 = some (.lst ((wayN n (i + 1)).map V.int)) := by
          rw [upd_same, wayN_succ hi]; simp
        have n6R : p6 ≠ p4 := (ne_of_none hR2 n60).symm
        refine ⟨_, k6 _ _ hR2, lineLt (by simp at bl ⊢; omega), same_mut (s3.trans k6) nR, rs ++ [b] ++ [(p6, wayN n (i + 1))], ?_, ?_, ?_, ?_⟩
        · rw [upd_same]; simp
        · exact ((ll2.same k6).snoc h6).mut fun c hc => by
            rcases List.mem_append.mp hc with z | z
            · exact nb c z
            · have e2 : c = (p6, wayN n (i + 1)) := by simpa using z
              subst e2; exact n6R
        · intro c hc
          rcases List.mem_append.mp hc with z | z
          · exact nb c z
          · have e2 : c = (p6, wayN n (i + 1)) := by simpa using z
            subst e2; exact n6R
        · rw [List.map_append, e, List.range_succ (n := i + 1), List.map_append]; rfl
    · obtain ⟨bs, y2, y3, y4, rfl, s1, hR, ll, nb, e⟩ := h
      walk_at "rd"
      exact q bs H' p4 s1 nR hR ll e

end
end Sh

namespace Sh
section
variable {P : Program} {w : World} {K : PySem.W.Frag} {mg : Str → Option Value} {base : Heap}
def sp_many_without (T : Tx K mg) : Sp := fun vs H Q E => ∃ (n : Int), vs = [.int n] ∧ (1 ≤ n ∧ n ≤ 20 → ∀ H', Same H H' → Q (.int (Wy (2 * n.toNat) 0 : Nat)) H') ∧ (¬ (1 ≤ n ∧ n ≤ 20) → E (.ref T.C_NoSize) none H)
theorem ok_many_without (T : Tx K mg) : FnOk P w K mg base (L2.CX P w) 2 T.f_many_without T.fd_many_without ["size"] (sp_many_without T) := by
  refine T.F_many_without.okX sc_many_without (fun vs H Q E h => ?_) (fun cdv A outer s H vs Q E hr h => ?_)
  · obtain ⟨n, rfl, _⟩ := h
    rfl
  · obtain ⟨n, rfl, q1, q2⟩ := h
    refine ⟨_, (pss_cons (by exact (ps_expr (by exact (pe_call (ok_ask_size T) (hr.mono (by decide)) (by rfl) T.g_ask_size T.F_ask_size.kp T.b_ask_size .nil (passes_call (takes_of rfl rfl rfl rfl) (fun _ _ _ _ h => h)) (pa_cons (pv 0) pa_nil)))))
        (pss_one (by exact (ps_ret (pe_ix ix_list (pe_ix ix_list (by exact (pe_call (ok_ways T) (hr.mono (by decide)) (by rfl) T.g_ways T.F_ways.kp T.b_ways .nil pass0 (pa_cons (pv 0) pa_nil))) (pe_op op_mul pe_int (pv 0)) (fun _ _ => rfl)) pe_int (fun _ _ => rfl)))))), ?_⟩
    rw [show (start ["size"] [V.int n] : L2.St) = [some (V.int n)] from rfl]
    walk_at "rd"
    refine ⟨n, rfl, fun ok => ?_, q2⟩
    obtain ⟨m, rfl⟩ : ∃ m : Nat, n = (m : Int) := ⟨n.toNat, by omega⟩
    walk_at "rd"
    refine ⟨m, rfl, by omega, fun bs H1 p s1 np hp ll e => ?_⟩
    obtain ⟨b, hb, hbm, eb⟩ := snd_at e (show 2 * m < 2 * m + 1 by omega)
    have hbl := ll b hbm
    rw [eb] at hbl
    have wl := wayN_len m (2 * m)
    refine ⟨.inl ⟨by decide, by decide⟩, p, rfl, _, SqL.of hp, V.ref b.1, ?_, ?_⟩
    · rw [show (2 * (m : Int)) = ((2 * m : Nat) : Int) by omega]
      exact atI_nat (by rw [List.getElem?_map, hb]; rfl)
    · refine ⟨_, rfl, _, SqL.of hbl, _, atI_ints (by omega) (by omega), ?_⟩
      rw [show Int.toNat 0 = 0 from rfl, wayN_get (by omega)]
      exact q1 ok H1 s1

end
end Sh

namespace Sh
section
variable {P : Program} {w : World} {K : PySem.W.Frag} {mg : Str → Option Value} {base : Heap}
def sp_piled (T : Tx K mg) : Sp := fun vs H Q E => ∃ (n m : Nat), vs = [.int n, .int m] ∧ n ≤ 30 ∧ m < Wy (2 * n) 0 ∧ ∀ H' p, Same H H' → H p = none → H' p = some (.lst ((pileL n m).map V.int)) → Q (.ref p) H'
theorem ok_piled (T : Tx K mg) : FnOk P w K mg base CX0 2 T.f_piled T.fd_piled ["size", "number"] (sp_piled T) := by
  refine T.F_piled.ok sc_piled (fun vs H Q E h => ?_) (fun cdv A outer s H vs Q E hr h => ?_)
  · obtain ⟨n, m, rfl, _⟩ := h
    rfl
  · obtain ⟨n, m0, rfl, hn, hm, q⟩ := h
    refine ⟨_, (pss_cons (by exact (ps_set (i := 2) sc_piled.nd rfl (Or.inl rfl) (by exact (pe_call (ok_ways T) (hr.mono (by decide)) (by rfl) T.g_ways T.F_ways.kp T.b_ways .nil pass0 (pa_cons (pv 0) pa_nil)))))
        (pss_cons (by exact (ps_set (i := 3) sc_piled.nd rfl (Or.inl rfl) (pe_lst pa_nil)))
        (pss_cons (by exact (ps_set (i := 4) sc_piled.nd rfl (Or.inl rfl) (pe_lst pa_nil)))
        (pss_cons (by exact (ps_set (i := 5) sc_piled.nd rfl (Or.inl rfl) pe_int))
        (pss_cons (by exact (ps_for PassesOwn.never rfl (pi_revR rfl T.m_reversed (prg_1 (by rfl) T.m_range (pe_op op_mul pe_int (pv 0)))) (pg_name (i := 6) sc_piled.nd rfl (Or.inl rfl))
        (pss_cons (by exact (ps_set (i := 7) sc_piled.nd rfl (Or.inl rfl) (pe_ix ix_list (pe_ix ix_list (pv 2) (pv 6) (fun _ _ => rfl)) (pe_op op_add (by exact (pe_callB call_lenS (by rfl) T.m_len PySem.boot_len (pa_cons (pv 3) pa_nil))) pe_int) (fun _ _ => rfl))))
        (pss_one (by exact (ps_if (pt_cmpR (op_lt) (pv 1) (pv 7) (nomark _)) (pss_cons (by exact (ps_expr (by exact (pe_bm PySem.F.plainAttrs_list PySem.F.slot_list_append PySem.F.type_list_append mt_append (pv 3) (pa_cons (pv 5) pa_nil)))))
        (pss_one (by exact (ps_set (i := 5) sc_piled.nd rfl (Or.inl rfl) (pe_op op_add (pv 5) pe_int))))) (pss_cons (by exact (ps_set (i := 1) sc_piled.nd rfl (Or.inl rfl) (pe_op op_sub (pv 1) (pv 7))))
        (pss_one (by exact (ps_expr (by exact (pe_bm PySem.F.plainAttrs_list PySem.F.slot_list_append PySem.F.type_list_append mt_append (pv 4) (pa_cons (by exact (pe_bm0 PySem.F.plainAttrs_list PySem.F.slot_list_pop PySem.F.type_list_pop mt_pop (pv 3))) pa_nil)))))))))))))
        (pss_one (by exact (ps_ret (pv 4))))))))), ?_⟩
    rw [show (start ["size", "number", "rows", "pile", "found", "taken", "left", "ahead"] [V.int n, V.int m0] : L2.St) = [some (V.int n), some (V.int m0), none, none, none, none, none, none] from rfl]
    walk_at "rd"
    refine ⟨n, rfl, hn, fun bs H1 ra s1 nra hra ll e => ?_⟩
    walk_at "rd"
    refine ⟨lineLe (by simp), fun pp npp => ⟨lineLe (by simp), fun f nf => ⟨.inl ⟨by decide, by decide⟩, by omega, by omega, by omega, by omega, ?_⟩⟩⟩
    have m2 := (same_new (o := .lst []) npp).trans (same_new (o := .lst []) nf)
    have hp2 : (upd (upd H1 pp (.lst [])) f (.lst [])) pp = some (.lst []) := same_new nf _ _ upd_same
    have hf2 : (upd (upd H1 pp (.lst [])) f (.lst [])) f = some (.lst []) := upd_same
    have npp0 : H pp = none := s1.free npp
    have nf0 : H f = none := (s1.trans (same_new npp)).free nf
    have npf : pp ≠ f := ne_of_none upd_same nf
    have hra2 := m2 _ _ hra
    have npr : ra ≠ pp := ne_of_none hra npp
    have nfr : ra ≠ f := ne_of_none (same_new npp _ _ hra) nf
    have ll2 := ll.same m2
    have nbp : ∀ b ∈ bs, b.1 ≠ pp := ll.ne npp
    have nbf : ∀ b ∈ bs, b.1 ≠ f := (ll.same (same_new npp)).ne nf
    replace s1 := s1.trans m2
    generalize (upd (upd H1 pp (.lst [])) f (.lst [])) = H2 at hp2 hf2 hra2 ll2 s1 ⊢
    rw [show (2 * (n : Int) - 0).toNat = 2 * n by omega]
    refine forK_revR rfl (fun i σ H' => ∃ (P : List Nat) (t m : Nat) (fo : List Nat) (y6 y7 : Option V), σ = [some (V.int n), some (V.int m), some (V.ref ra), some (V.ref pp), some (V.ref f), some (V.int t), y6, y7] ∧ Same H H' ∧ H' ra = some (.lst (bs.map fun b => V.ref b.1)) ∧ LLs H' bs ∧
        H' pp = some (.lst (P.reverse.map nV)) ∧ H' f = some (.lst (fo.map nV)) ∧ fo ++ pl (2 * n - i) P t m = pl (2 * n) [] 0 m0 ∧ m < Wy (2 * n - i) P.length ∧ P.length ≤ i ∧ fo.length ≤ i)
      ⟨[], 0, m0, [], _, _, rfl, s1, hra2, ll2, hp2, hf2, rfl, hm, by simp, by simp⟩ (fun i σ H' hi h => ?_) (fun σ H' h => ?_)
    · obtain ⟨P, t, m, fo, y6, y7, rfl, s3, hra3, ll3, hp3, hf3, ep, hmP, lP, lf⟩ := h
      obtain ⟨l, hl⟩ : ∃ l, 2 * n - i = l + 1 := ⟨2 * n - 1 - i, by omega⟩
      rw [hl] at ep hmP
      have el : 2 * n - 1 - i = l := by omega
      have el2 : 2 * n - (i + 1) = l := by omega
      rw [el, el2]
      obtain ⟨b, hb, hbm, eb⟩ := snd_at e (show l < 2 * n + 1 by omega)
      have hbl := ll3 b hbm
      rw [eb] at hbl
      have wl := wayN_len n l
      walk_at "rd"
      refine ⟨_, SqL.of hra3, V.ref b.1, atI_nat (by rw [List.getElem?_map, hb]; rfl), _, .inl (SqL.of hp3), ?_⟩
      refine ⟨_, rfl, _, SqL.of hbl, _, by rw [List.length_map, List.length_reverse]; exact atI_ints (by omega) (by omega), _, rfl, ?_⟩
      rw [show ((P.length : Int) + 1).toNat = P.length + 1 by omega, wayN_get (by omega)]
      refine ite2 (fun c => ?_) (fun c => ?_)
      · have c' : m < Wy l (P.length + 1) := by omega
        rw [pl_push c'] at ep
        refine ⟨tyL hp3, _, hp3, lineLt (by simp; omega), t :: P, t + 1, m, rfl, by omega, same_mut s3 npp0, by rw [upd_ne npr]; exact hra3, ll3.mut nbp, ?_, fo, by rw [upd_ne npf.symm]; exact hf3, ep, c', by simp; omega, by omega⟩
        rw [upd_same]; simp
      · have c' : ¬ m < Wy l (P.length + 1) := by omega
        cases P with
        | nil =>
          exfalso
          rw [Wy, if_neg (by simp)] at hmP
          simp at c' hmP
          omega
        | cons x P' =>
          rw [pl_pop c'] at ep
          have hm2 : m - Wy l ((x :: P').length + 1) < Wy l P'.length := by
            rw [Wy, if_pos (by simp)] at hmP
            simp only [List.length_cons, Nat.add_sub_cancel] at hmP c' ⊢
            omega
          have hlast : ((x :: P').reverse.map nV)[((x :: P').reverse.map nV).length - 1]? = some (nV x) := by simp
          have hdl : ((x :: P').reverse.map nV).dropLast = P'.reverse.map nV := by simp
          refine ⟨_, rfl, tyL hf3, tyL hp3, _, hp3, _, hlast, ?_⟩
          rw [hdl]
          refine ⟨_, (upd_ne npf.symm).trans hf3, lineLt (by simp; omega), P', t, m - Wy l ((x :: P').length + 1), by omega, rfl, same_mut (same_mut s3 npp0) nf0, by rw [upd_ne nfr, upd_ne npr]; exact hra3, (ll3.mut nbp).mut nbf, by rw [upd_ne npf, upd_same], fo ++ [x], ?_, by rw [← ep]; simp, hm2, by simp at lP; omega, by simp; omega⟩
          rw [upd_same]; simp
    · obtain ⟨P, t, m, fo, y6, y7, rfl, s3, hra3, ll3, hp3, hf3, ep, hmP, lP, lf⟩ := h
      walk_at "rd"
      rw [Nat.sub_self, pl, List.append_nil] at ep
      refine q H' f s3 nf0 ?_
      rw [hf3, pileL, ← ep, nI, List.map_map]
      rfl

end
end Sh

namespace Sh
section
variable {P : Program} {w : World} {K : PySem.W.Frag} {mg : Str → Option Value} {base : Heap}
def sp_lows (T : Tx K mg) : Sp := fun vs H Q E => ∃ (a : Addr) (s : List Int), vs = [.ref a] ∧ SqL K H a (s.map V.int) ∧ s.length ≤ 4000 ∧ ∀ H' p, Same H H' → H p = none → H' p = some (.lst ((lowsN s).map nV)) → Q (.ref p) H'
theorem ok_lows (T : Tx K mg) : FnOk P w K mg base CX0 1 T.f_lows T.fd_lows ["shape"] (sp_lows T) := by
  refine T.F_lows.ok sc_lows (fun vs H Q E h => ?_) (fun cdv A outer s H vs Q E hr h => ?_)
  · obtain ⟨a, s, rfl, _⟩ := h
    rfl
  · obtain ⟨a, s0, rfl, hA, hl, q⟩ := h
    refine ⟨_, (pss_one (by exact (ps_ret (by exact (pe_lc (own := [("k", 1)]) (g := gName 1) (tt := (tTest (tOp rEq (tOp (rIxL K) (tVar 0) (tVar 1)) (tCB (rMin K) (tCons (tSl (rSlL K) (tVar 0) tNoPart (tPart (tOp (rI0 fun i j => .int (i + j)) (tVar 1) (tC (.int 1))))) tNil))))) (te := (tVar 1)) rfl sc_lows.nd (pi_range1 rfl T.m_range (pa_cons (by exact (pe_callB call_lenS (by rfl) T.m_len PySem.boot_len (pa_cons (pv 0) pa_nil))) pa_nil)) (blkOk_by (N := ["shape", "k"]) (sc := defScope s_lows) (by decide +kernel)) (fun _ _ _ _ _ => by exact (pg_name (i := 1) sc_lows.nd rfl (by first | exact Or.inl rfl | exact Or.inr rfl))) (fun _ _ _ _ _ => by exact (pts_one (pt_cmpR (op_eq) (pe_ix ix_list (pv 0) (pv 1) (fun _ _ => rfl)) (by exact (pe_callB (cr_min rfl) (by rfl) T.m_min (by decide +kernel) (pa_cons (pe_slice sl_list (pv 0) po_none (po_some (pe_op op_add (pv 1) pe_int))) pa_nil))) (nomark _)))) (fun _ _ _ _ _ => by exact (pv 1))))))), ?_⟩
    rw [show (start ["shape", "k"] [V.ref a] : L2.St) = [some (V.ref a), none] from rfl]
    walk_at "rd"
    refine ⟨_, .inl hA, ?_⟩
    walk_at "rd"
    refine ⟨by omega, by omega, fun D nD => ?_⟩
    refine lcK_filtR (isLow s0) (fun k => V.int k) nD (by omega) (fun i acc H2 Qt Qf hi hs hD ht hf => ?_) (fun H2 hs hD => ?_)
    · walk_at "rd"
      have hA2 := hs.seq hA
      refine ⟨_, hA2, _, atI_ints (by omega) (by omega), _, hA2, fun p np => ?_⟩
      rw [Int.toNat_natCast]
      have ec : cutV (s0.map V.int) none (some ((i : Int) + 1)) = (s0.take (i + 1)).map V.int := by
        rw [show ((i : Int) + 1) = ((i + 1 : Nat) : Int) by omega, cut_to, List.map_take]
      rw [ec]
      refine ⟨s0.take (i + 1), sql_self, by rw [List.length_take]; omega, fun m hm hle => ⟨rfl, ?_⟩⟩
      have s2 := hs.trans (same_new (o := .lst ((s0.take (i + 1)).map V.int)) np)
      have hD2 := same_new (o := .lst ((s0.take (i + 1)).map V.int)) np _ _ hD
      refine ite2 (fun c => ht (isLow_iff.mpr fun y hy => ?_) _ s2 hD2) (fun c => hf ?_ _ s2 hD2)
      · have c' : s0.getD i 0 = m := by simpa using c
        have := hle y hy
        omega
      · have c' : ¬ s0.getD i 0 = m := by simpa using c
        rw [Bool.eq_false_iff]
        intro z
        have h1 := isLow_iff.mp z m hm
        have h2 := hle _ ((take_succ_mem hi).mpr (.inr rfl))
        omega
    · exact q H2 D hs nD hD

end
end Sh

namespace Sh
section
variable {P : Program} {w : World} {K : PySem.W.Frag} {mg : Str → Option Value} {base : Heap}
def sp_filled (T : Tx K mg) : Sp := fun vs H Q E => ∃ (a : Addr) (fl : Bool) (s : List Int), vs = [.ref a, .bl fl] ∧ SqL K H a (s.map V.int) ∧ s.length ≤ 1000 ∧ ∀ H' p, Same H H' → H p = none → H' p = some (.lst ((if fl = true then fillT s else fillU s).map V.int)) → Q (.ref p) H'
theorem ok_filled (T : Tx K mg) : FnOk P w K mg base CX0 2 T.f_filled T.fd_filled ["shape", "falling"] (sp_filled T) := by
  refine T.F_filled.ok sc_filled (fun vs H Q E h => ?_) (fun cdv A outer s H vs Q E hr h => ?_)
  · obtain ⟨a, fl, s, rfl, _⟩ := h
    rfl
  · obtain ⟨a, fl, s0, rfl, hA, hl, q⟩ := h
    refine ⟨_, (pss_cons (by exact (ps_set (i := 2) sc_filled.nd rfl (Or.inr rfl) (by exact (pe_call (ok_lows T) (hr.mono (by decide)) (by rfl) T.g_lows T.F_lows.kp T.b_lows .nil pass0 (pa_cons (pv 0) pa_nil)))))
        (pss_cons (by exact (ps_set (i := 3) sc_filled.nd rfl (Or.inl rfl) (by exact (pe_callB cr_sortedI (by rfl) T.m_sorted (by decide +kernel) (pa_cons (by exact (pe_lc (own := [("k", 6)]) (g := gName 6) (tt := (tTest (tOp (rIn K true) (tVar 6) (tVar 2)))) (te := (tOp (rIxL K) (tVar 0) (tVar 6))) rfl sc_filled.nd (pi_range1 rfl T.m_range (pa_cons (by exact (pe_callB call_lenS (by rfl) T.m_len PySem.boot_len (pa_cons (pv 0) pa_nil))) pa_nil)) (blkOk_by (N := ["shape", "falling", "keep", "left", "found", "low", "k", "pick", "number"]) (sc := defScope s_filled) (by decide +kernel)) (fun _ _ _ _ _ => by exact (pg_name (i := 6) sc_filled.nd rfl (by first | exact Or.inl rfl | exact Or.inr rfl))) (fun _ _ _ _ _ => by exact (pts_one (pt_cmpR (op_notIn_seq) (pv 6) (pv 2) rfl))) (fun _ _ _ _ _ => by exact (pe_ix ix_list (pv 0) (pv 6) (fun _ _ => rfl))))) pa_nil)))))
        (pss_cons (by exact (ps_set (i := 4) sc_filled.nd rfl (Or.inl rfl) (pe_lst pa_nil)))
        (pss_cons (by exact (ps_set (i := 5) sc_filled.nd rfl (Or.inr rfl) pe_int))
        (pss_cons (by exact (ps_for PassesOwn.never rfl (pi_range1 rfl T.m_range (pa_cons (by exact (pe_callB call_lenS (by rfl) T.m_len PySem.boot_len (pa_cons (pv 0) pa_nil))) pa_nil)) (pg_name (i := 6) sc_filled.nd rfl (Or.inl rfl))
        (pss_one (by exact (ps_if (pt_cmpR (op_in_seq) (pv 6) (pv 2) rfl) (pss_cons (by exact (ps_set (i := 5) sc_filled.nd rfl (Or.inr rfl) (pe_ix ix_list (pv 0) (pv 6) (fun _ _ => rfl))))
        (pss_one (by exact (ps_expr (by exact (pe_bm PySem.F.plainAttrs_list PySem.F.slot_list_append PySem.F.type_list_append mt_append (pv 4) (pa_cons (pv 5) pa_nil))))))) (pss_one (by exact (ps_if (pt_val (pv 1)) (pss_one (by exact (ps_expr (by exact (pe_bm PySem.F.plainAttrs_list PySem.F.slot_list_append PySem.F.type_list_append mt_append (pv 4) (pa_cons (by exact (pe_bm0 PySem.F.plainAttrs_list PySem.F.slot_list_pop PySem.F.type_list_pop mt_pop (pv 3))) pa_nil)))))) (pss_cons (by exact (ps_set (i := 7) sc_filled.nd rfl (Or.inl rfl) (pe_ix ix_list (by exact (pe_lc (own := [("number", 8)]) (g := gName 8) (tt := (tTest (tOp (rI0 fun i j => .bl (decide (j < i))) (tVar 8) (tVar 5)))) (te := (tVar 8)) rfl sc_filled.nd (pi_list (pv 3)) (blkOk_by (N := ["shape", "falling", "keep", "left", "found", "low", "k", "pick", "number"]) (sc := defScope s_filled) (by decide +kernel)) (fun _ _ _ _ _ => by exact (pg_name (i := 8) sc_filled.nd rfl (by first | exact Or.inl rfl | exact Or.inr rfl))) (fun _ _ _ _ _ => by exact (pts_one (pt_cmpR (op_gt) (pv 8) (pv 5) (nomark _)))) (fun _ _ _ _ _ => by exact (pv 8)))) pe_int (fun _ _ => rfl))))
        (pss_cons (by exact (ps_expr (by exact (pe_bm PySem.F.plainAttrs_list PySem.F.slot_list_remove PySem.F.type_list_remove mt_remove (pv 3) (pa_cons (pv 7) pa_nil)))))
        (pss_one (by exact (ps_expr (by exact (pe_bm PySem.F.plainAttrs_list PySem.F.slot_list_append PySem.F.type_list_append mt_append (pv 4) (pa_cons (pv 7) pa_nil))))))))))))))))
        (pss_one (by exact (ps_ret (pv 4))))))))), ?_⟩
    rw [show (start ["shape", "falling", "keep", "left", "found", "low", "k", "pick", "number"] [V.ref a, V.bl fl] : L2.St) = [some (V.ref a), some (V.bl fl), none, none, none, none, none, none, none] from rfl]
    walk_at "rd"
    refine ⟨a, s0, rfl, hA, by omega, fun H1 ka s1 nka hka => ?_⟩
    walk_at "rd"
    refine ⟨_, .inl (s1.seq hA), ?_⟩
    rw [List.length_map]
    refine ⟨by omega, by omega, fun D nD => ?_⟩
    refine lcK_filtR (fun k => !isLow s0 k) (fun k => V.int (s0.getD k 0)) nD (by omega) (fun i acc H2 Qt Qf hi hs hD ht hf => ?_) (fun H2 s2 hD => ?_)
    · walk_at "rd"
      refine ⟨_, .inl (SqL.of (hs _ _ hka)), rfl, flat_nV _, ?_⟩
      rw [inV_low hi]
      refine ite2 (fun c => ?_) (fun c => hf (by simpa using c) _ hs hD)
      refine ⟨_, hs.seq (s1.seq hA), _, atI_ints (by omega) (by omega), ?_⟩
      rw [Int.toNat_natCast]
      exact ht (by simpa using c) _ hs hD
    have s12 := s1.trans s2
    have hD' : H2 D = some (.lst ((nonl s0).map V.int)) := by rw [hD, nonl, List.map_map]; rfl
    have hka2 := s2 _ _ hka
    refine ⟨nonl s0, SqL.of hD', fun L la pm ri nla => ⟨lineLe (by simp), fun f nf => ?_⟩⟩
    have eL := srt_of pm ri
    subst eL
    have hla : (upd (upd H2 la (.lst ((srt (nonl s0)).map V.int))) f (.lst [])) la = some (.lst ((srt (nonl s0)).map V.int)) := same_new nf _ _ upd_same
    have hf3 : (upd (upd H2 la (.lst ((srt (nonl s0)).map V.int))) f (.lst [])) f = some (.lst []) := upd_same
    have m3 := (same_new (o := .lst ((srt (nonl s0)).map V.int)) nla).trans (same_new (o := .lst []) nf)
    have nla0 : H la = none := s12.free nla
    have nf0 : H f = none := (s12.trans (same_new nla)).free nf
    have laf : la ≠ f := ne_of_none upd_same nf
    have kal : ka ≠ la := ne_of_none hka2 nla
    have kaf : ka ≠ f := ne_of_none (same_new nla _ _ hka2) nf
    have hka3 := m3 _ _ hka2
    have s13 := s12.trans m3
    generalize (upd (upd H2 la (.lst ((srt (nonl s0)).map V.int))) f (.lst [])) = H3 at hla hf3 hka3 s13 ⊢
    refine ⟨_, .inl (s13.seq hA), ?_⟩
    rw [List.length_map]
    refine ⟨by omega, by omega, ?_⟩
    have nl := nonl_len s0
    have cl : cN s0 s0.length ≤ s0.length := by
      have := List.length_filter_le (fun k => !isLow s0 k) (List.range s0.length)
      rw [List.length_range] at this
      exact this
    have sl := (srt_perm (nonl s0)).length_eq
    refine forK_range (fun i σ H' => ∃ (y6 y7 : Option V), σ = [some (V.ref a), some (V.bl fl), some (V.ref ka), some (V.ref la), some (V.ref f), some (V.int (lowAt s0 i)), y6, y7, none] ∧ Same H H' ∧ H' ka = some (.lst ((lowsN s0).map nV)) ∧
        H' la = some (.lst ((if fl = true then (srt (nonl s0)).take ((srt (nonl s0)).length - cN s0 i) else lft s0 i).map V.int)) ∧ H' f = some (.lst ((if fl = true then (fillT s0).take i else (fillU s0).take i).map V.int)))
      ⟨_, _, rfl, s13, hka3, by rw [hla]; congr 2; cases fl <;> simp [lft, cN], by rw [hf3]; cases fl <;> simp⟩ (fun i σ H' hi h => ?_) (fun σ H' h => ?_)
    · obtain ⟨y6, y7, rfl, s4, hk4, hl4, hf4⟩ := h
      have hcn : cN s0 (i + 1) ≤ cN s0 s0.length := cN_mono s0 (by omega)
      have cs := cN_succ s0 i
      walk_at "rd"
      refine ⟨_, .inl (SqL.of hk4), rfl, flat_nV _, ?_⟩
      rw [inV_low hi]
      have fTi : (fillT s0)[i]? = some (if isLow s0 i = true then s0.getD i 0 else (srt (nonl s0)).getD ((srt (nonl s0)).length - 1 - cN s0 i) 0) := by
        rw [fillT, List.getElem?_map, List.getElem?_range hi]; rfl
      have fUi : (fillU s0)[i]? = some (if isLow s0 i = true then s0.getD i 0 else pick s0 i) := by
        rw [fillU, List.getElem?_map, List.getElem?_range hi]; rfl
      refine ite2 (fun c => ?_) (fun c => ?_)
      · rw [if_pos c] at fTi fUi cs
        refine ⟨_, s4.seq hA, _, atI_ints (by omega) (by omega), ?_⟩
        rw [Int.toNat_natCast]
        have lt : (lowAt s0 (i + 1)) = s0.getD i 0 := by rw [lowAt, if_pos c]
        have ll : lft s0 (i + 1) = lft s0 i := by rw [lft, if_pos c]
        refine ⟨tyL hf4, _, hf4, lineLt (by rw [List.length_map]; cases fl <;> simp [fillT_len, fillU_len] <;> omega), by rw [lt], same_mut s4 nf0, by rw [upd_ne kaf]; exact hk4, ?_, ?_⟩
        · rw [upd_ne laf, hl4, ll, cs, Nat.add_zero]
        · rw [upd_same]
          cases fl
          · rw [if_neg (by simp), if_neg (by simp), take_more fUi]; simp
          · rw [if_pos rfl, if_pos rfl, take_more fTi]; simp
      · rw [if_neg c] at fTi fUi cs
        have lt : (lowAt s0 (i + 1)) = lowAt s0 i := by rw [lowAt, if_neg c]
        refine ite2 (fun c2 => ?_) (fun c2 => ?_)
        · subst c2
          rw [if_pos rfl] at hl4 hf4
          have hle : cN s0 i < (srt (nonl s0)).length := by omega
          have ltk : ((srt (nonl s0)).take ((srt (nonl s0)).length - cN s0 i)).length = (srt (nonl s0)).length - cN s0 i := by rw [List.length_take]; omega
          have hdl : (((srt (nonl s0)).take ((srt (nonl s0)).length - cN s0 i)).map V.int).dropLast = ((srt (nonl s0)).take ((srt (nonl s0)).length - cN s0 (i + 1))).map V.int := by
            rw [List.dropLast_eq_take, List.length_map, ltk, ← List.map_take, List.take_take, cs, Nat.min_eq_left (by omega)]
            congr 2
          refine ⟨tyL hf4, tyL hl4, _, hl4, V.int ((srt (nonl s0)).getD ((srt (nonl s0)).length - 1 - cN s0 i) 0), ?_, ?_⟩
          · rw [List.length_map, ltk, List.getElem?_map, List.getElem?_take_of_lt (by omega), show (srt (nonl s0)).length - cN s0 i - 1 = (srt (nonl s0)).length - 1 - cN s0 i by omega, getD_at (by omega)]; rfl
          rw [hdl]
          have hf5 : (upd H' la (.lst (((srt (nonl s0)).take ((srt (nonl s0)).length - cN s0 (i + 1))).map V.int))) f = _ := (upd_ne laf.symm).trans hf4
          refine ⟨_, hf5, lineLt (by simp [fillT_len]; omega), lt.symm, same_mut (same_mut s4 nla0) nf0, by rw [upd_ne kaf, upd_ne kal]; exact hk4, ?_, ?_⟩
          · rw [upd_ne laf, upd_same, if_pos rfl]
          · rw [upd_same, if_pos rfl, take_more fTi]; simp
        · have c2' : fl = false := by simpa using c2
          subst c2'
          rw [if_neg (by simp)] at hl4 hf4
          have lll := lft_len s0 i (by omega)
          refine ⟨⟨_, SqL.of hl4⟩, fun D5 nD5 => ?_⟩
          refine lcK_filt (lft s0 i) V.int (fun y => decide (lowAt s0 i < y)) V.int nD5 (SqL.of hl4) (by omega) (fun j x acc H5 Qt Qf hx hs hD5 ht hf' => ?_) (fun H5 s5 hD5 => ?_)
          · walk_at "rd"
            exact ite2 (fun d => ht (decide_eq_true d) _ hs hD5) (fun d => hf' (decide_eq_false d) _ hs hD5)
          have pk := pick_ok hi c
          have h0 : ((lft s0 i).filter fun y => decide (lowAt s0 i < y))[0]? = some (pick s0 i) := by
            unfold pick
            cases e : (lft s0 i).filter (fun y => decide (lowAt s0 i < y)) with
            | nil => rw [e] at pk; simp at pk
            | cons y r => simp
          obtain ⟨j, hj1, hj2, hj3⟩ := pick_first hi c
          have hl5 := s5 _ _ hl4
          have hf5 := s5 _ _ hf4
          have hk5 := s5 _ _ hk4
          refine ⟨_, SqL.of hD5, V.int (pick s0 i), by refine atI_nat (j := 0) ?_; rw [List.getElem?_map, h0]; rfl, ?_⟩
          refine ⟨tyL hl5, lft s0 i, pick s0 i, rfl, hl5, j, hj1, hj2, ?_⟩
          rw [hj3]
          have hf6 : (upd H5 la (.lst ((lft s0 (i + 1)).map V.int))) f = _ := (upd_ne laf.symm).trans hf5
          refine ⟨tyL hf6, _, hf6, lineLt (by simp [fillU_len]; omega), lt.symm, same_mut (same_mut (s4.trans s5) nla0) nf0, by rw [upd_ne kaf, upd_ne kal]; exact hk5, ?_, ?_⟩
          · rw [upd_ne laf, upd_same, if_neg (by simp)]
          · rw [upd_same, if_neg (by simp), take_more fUi]; simp
    · obtain ⟨y6, y7, rfl, s4, hk4, hl4, hf4⟩ := h
      walk_at "rd"
      refine q H' f s4 nf0 ?_
      rw [hf4]
      cases fl
      · rw [if_neg (by simp), if_neg (by simp), List.take_of_length_le (by rw [fillU_len]; exact Nat.le_refl _)]
      · rw [if_pos rfl, if_pos rfl, List.take_of_length_le (by rw [fillT_len]; exact Nat.le_refl _)]

end
end Sh

namespace Sh
section
variable {P : Program} {w : World} {K : PySem.W.Frag} {mg : Str → Option Value} {base : Heap}
def sp_turned (T : Tx K mg) : Sp := fun vs H Q E => ∃ (a b : Addr) (s o : List Int), vs = [.ref a, .ref b] ∧ SqL K H a (s.map V.int) ∧ SqL K H b (o.map V.int) ∧ s.length ≤ 4000 ∧ ∀ H' p, Same H H' → H p = none → H' p = some (.lst ((turnL s o).map V.int)) → Q (.ref p) H'
theorem ok_turned (T : Tx K mg) : FnOk P w K mg base CX0 1 T.f_turned T.fd_turned ["shape", "order"] (sp_turned T) := by
  refine T.F_turned.ok sc_turned (fun vs H Q E h => ?_) (fun cdv A outer s H vs Q E hr h => ?_)
  · obtain ⟨a, b, s, o, rfl, _⟩ := h
    rfl
  · obtain ⟨a, b, s0, o, rfl, hA, hB, hl, q⟩ := h
    refine ⟨_, (pss_cons (by exact (ps_set (i := 2) sc_turned.nd rfl (Or.inr rfl) (by exact (pe_callTy call_listS (by rfl) T.m_list (by decide +kernel) (pa_cons (pv 0) pa_nil)))))
        (pss_cons (by exact (ps_if (pt_cmpR (op_inDT (room65 hr)) (pv 1) (pe_tup (pa_cons (pe_lst (pa_cons pe_int (pa_cons pe_int (pa_cons pe_int pa_nil)))) (pa_cons (pe_lst (pa_cons pe_int (pa_cons pe_int (pa_cons pe_int pa_nil)))) pa_nil))) rfl) (pss_one (by exact (ps_expr (by exact (pe_bm0 PySem.F.plainAttrs_list PySem.F.slot_list_reverse PySem.F.type_list_reverse mt_reverse (pv 2)))))) pss_nil))
        (pss_cons (by exact (ps_if (pt_cmpR (op_inDT (room65 hr)) (pv 1) (pe_tup (pa_cons (pe_lst (pa_cons pe_int (pa_cons pe_int (pa_cons pe_int pa_nil)))) (pa_cons (pe_lst (pa_cons pe_int (pa_cons pe_int (pa_cons pe_int pa_nil)))) pa_nil))) rfl) (pss_one (by exact (ps_set (i := 2) sc_turned.nd rfl (Or.inr rfl) (by exact (pe_lc (own := [("number", 3)]) (g := gName 3) (tt := tYes) (te := (tOp (rI0 fun i j => .int (i - j)) (tOp (rI0 fun i j => .int (i - j)) (tCB (rLen K) (tCons (tVar 2) tNil)) (tC (.int 1))) (tVar 3))) rfl sc_turned.nd (pi_list (pv 2)) (blkOk_by (N := ["shape", "order", "found", "number"]) (sc := defScope s_turned) (by decide +kernel)) (fun _ _ _ _ _ => by exact (pg_name (i := 3) sc_turned.nd rfl (by first | exact Or.inl rfl | exact Or.inr rfl))) (fun _ _ _ _ _ => pts_nil) (fun _ _ _ _ _ => by exact (pe_op op_sub (pe_op op_sub (by exact (pe_callB call_lenS (by rfl) T.m_len PySem.boot_len (pa_cons (pv 2) pa_nil))) pe_int) (pv 3)))))))) pss_nil))
        (pss_one (by exact (ps_ret (pv 2))))))), ?_⟩
    rw [show (start ["shape", "order", "found", "number"] [V.ref a, V.ref b] : L2.St) = [some (V.ref a), some (V.ref b), none, none] from rfl]
    refine seq_intro ?_
    walk_at "r1"
    refine ⟨_, .inl hA, fun l nl => ?_⟩
    have hl1 : (upd H l (.lst (s0.map V.int))) l = some (.lst (s0.map V.int)) := upd_same
    have s1 := same_new (o := .lst (s0.map V.int)) nl
    generalize upd H l (.lst (s0.map V.int)) = H1 at hl1 s1 ⊢
    -- order in ([..], [..])
    have two : ∀ {H' : Hp} {p q t : Addr} {x y : List Int} {R : VK}, Same H H' → H' p = some (.lst (x.map V.int)) → H' q = some (.lst (y.map V.int)) → H' t = some (.tup [V.ref p, V.ref q]) → R (.bl (decide (o = x ∨ o = y))) H' → rInDT K false (.ref b) (.ref t) H' R := fun {H' p q t x y R} s hp hq ht h => by
      refine ⟨dInts o, [dInts x, dInts y], dp_ints (s.seq hB), .tup (SqT.of ht) (.cons (dp_ints (SqL.of hp)) (.cons (dp_ints (SqL.of hq)) .nil)), shaped_of isD_ints (by decide) o, shaped_of isD_LL (by decide) [x, y], ?_⟩
      have e : ([dInts x, dInts y].any fun z => PyData.eqv z (dInts o)) = decide (o = x ∨ o = y) := by
        simp only [List.any_cons, List.any_nil, isD_ints.eqv, Bool.or_false]
        rw [show decide (x = o) = decide (o = x) from decide_eq_decide.mpr eq_comm, show decide (y = o) = decide (o = y) from decide_eq_decide.mpr eq_comm]
        by_cases c1 : o = x <;> by_cases c2 : o = y <;> simp [c1, c2]
      simp only [Bool.false_eq_true, if_false]
      rw [e]; exact h
    refine seq_of (fun σ H' => ∃ p, σ = [some (V.ref a), some (V.ref b), some (V.ref p), none] ∧ Same H H' ∧ H p = none ∧ H' p = some (.lst ((if o = [1, 0, 2] ∨ o = [1, 2, 0] then s0.reverse else s0).map V.int))) (fun σ H' h => ?_) (fun U hU => ?_)
    rotate_left
    · walk_at "r1"
      refine ⟨lineLe (by simp), fun p1 n1 => ⟨lineLe (by simp), fun p2 n2 => ⟨lineLe (by simp), fun p3 n3 => ?_⟩⟩⟩
      have m3 := ((same_new (o := .lst [V.int 1, V.int 0, V.int 2]) n1).trans (same_new (o := .lst [V.int 1, V.int 2, V.int 0]) n2)).trans (same_new (o := .tup [V.ref p1, V.ref p2]) n3)
      have s4 := s1.trans m3
      refine two s4 (x := [1, 0, 2]) (y := [1, 2, 0]) (same_new n3 _ _ (same_new n2 _ _ upd_same)) (same_new n3 _ _ upd_same) upd_same ?_
      refine ⟨_, rfl, ?_⟩
      have hl4 := m3 _ _ hl1
      refine ite2 (fun c => ?_) (fun c => ?_)
      · have c' := of_decide_eq_true c
        refine ⟨tyL hl4, _, hl4, hU _ _ ⟨l, rfl, same_mut s4 nl, nl, ?_⟩⟩
        rw [upd_same, if_pos c', List.map_reverse]
      · have c' : ¬ (o = [1, 0, 2] ∨ o = [1, 2, 0]) := fun z => c (decide_eq_true z)
        refine hU _ _ ⟨l, rfl, s4, nl, ?_⟩
        rw [if_neg c']; exact hl4
    obtain ⟨p, rfl, s2, np, hp⟩ := h
    have fl : (if o = [1, 0, 2] ∨ o = [1, 2, 0] then s0.reverse else s0).length = s0.length := by split <;> simp
    refine seq_of (fun σ H' => ∃ p, σ = [some (V.ref a), some (V.ref b), some (V.ref p), none] ∧ Same H H' ∧ H p = none ∧ H' p = some (.lst ((turnL s0 o).map V.int))) (fun σ H' h => ?_) (fun U hU => ?_)
    rotate_left
    · walk_at "r1"
      refine ⟨lineLe (by simp), fun p1 n1 => ⟨lineLe (by simp), fun p2 n2 => ⟨lineLe (by simp), fun p3 n3 => ?_⟩⟩⟩
      have m3 := ((same_new (o := .lst [V.int 0, V.int 2, V.int 1]) n1).trans (same_new (o := .lst [V.int 1, V.int 2, V.int 0]) n2)).trans (same_new (o := .tup [V.ref p1, V.ref p2]) n3)
      have s4 := s2.trans m3
      refine two s4 (x := [0, 2, 1]) (y := [1, 2, 0]) (same_new n3 _ _ (same_new n2 _ _ upd_same)) (same_new n3 _ _ upd_same) upd_same ?_
      refine ⟨_, rfl, ?_⟩
      have hp4 := m3 _ _ hp
      refine ite2 (fun c => ?_) (fun c => ?_)
      · have c' := of_decide_eq_true c
        refine ⟨⟨_, SqL.of hp4⟩, fun D nD => ?_⟩
        generalize hfv : (if o = [1, 0, 2] ∨ o = [1, 2, 0] then s0.reverse else s0) = fv at hp4 fl
        refine lcK_map fv V.int (fun x => V.int ((fv.length : Int) - 1 - x)) nD (SqL.of hp4) (by omega) (fun i x acc H5 QT hx hs hD hq => ?_) (fun H5 s5 hD => ?_)
        · walk_at "r1"
          refine ⟨_, .inl (SqL.of (hs _ _ hp4)), ?_⟩
          rw [List.length_map]
          exact hq _ hs hD
        · refine hU _ _ ⟨D, rfl, s4.trans s5, s4.free nD, ?_⟩
          rw [hD, turnL]
          rw [if_pos c', hfv, contraryL, List.map_map]
          rfl
      · have c' : ¬ (o = [0, 2, 1] ∨ o = [1, 2, 0]) := fun z => c (decide_eq_true z)
        refine hU _ _ ⟨p, rfl, s4, np, ?_⟩
        rw [turnL]
        rw [if_neg c']; exact hp4
    obtain ⟨p, rfl, s2, np, hp⟩ := h
    walk_at "r1"
    exact q H' p s2 np hp

end
end Sh

namespace Sh
section
variable {P : Program} {w : World} {K : PySem.W.Frag} {mg : Str → Option Value} {base : Heap}
def sp_made (T : Tx K mg) : Sp := fun vs H Q E => ∃ (b : Addr) (n m : Nat) (o : List Int), vs = [.int n, .ref b, .int m] ∧ SqL K H b (o.map V.int) ∧ n ≤ 30 ∧ m < Wy (2 * n) 0 ∧ ∀ H' p, Same H H' → H p = none → H' p = some (.lst ((madeL n o m).map V.int)) → Q (.ref p) H'
theorem ok_made (T : Tx K mg) : FnOk P w K mg base CX0 3 T.f_made T.fd_made ["size", "order", "number"] (sp_made T) := by
  refine T.F_made.ok sc_made (fun vs H Q E h => ?_) (fun cdv A outer s H vs Q E hr h => ?_)
  · obtain ⟨b, n, m, o, rfl, _⟩ := h
    rfl
  · obtain ⟨b, n, m, o, rfl, hB, hn, hm, q⟩ := h
    refine ⟨_, (pss_cons (by exact (ps_set (i := 3) sc_made.nd rfl (Or.inl rfl) (by exact (pe_call (ok_piled T) (hr.mono (by decide)) (by rfl) T.g_piled T.F_piled.kp T.b_piled .nil pass0 (pa_cons (pv 0) (pa_cons (pv 2) pa_nil))))))
        (pss_cons (by exact (ps_if (PW.pt (pw_and (pt_cmpR (op_neD hr.units) (pv 1) (pe_glob (v := .ref T.a_RISE) rfl T.g_RISE rfl) (nomark _)) (pw_and1 (pt_cmpR (op_neD hr.units) (pv 1) (pe_glob (v := .ref T.a_FALL) rfl T.g_FALL rfl) (nomark _))))) (pss_one (by exact (ps_ret (by exact (pe_call (ok_turned T) (hr.mono (by decide)) (by rfl) T.g_turned T.F_turned.kp T.b_turned .nil pass0 (pa_cons (pv 3) (pa_cons (pv 1) pa_nil))))))) pss_nil))
        (pss_cons (by exact (ps_set (i := 3) sc_made.nd rfl (Or.inl rfl) (by exact (pe_call (ok_filled T) (hr.mono (by decide)) (by rfl) T.g_filled T.F_filled.kp T.b_filled .nil pass0 (pa_cons (by exact (pe_call (ok_turned T) (hr.mono (by decide)) (by rfl) T.g_turned T.F_turned.kp T.b_turned .nil pass0 (pa_cons (pv 3) (pa_cons (pe_lst (pa_cons pe_int (pa_cons pe_int (pa_cons pe_int pa_nil)))) pa_nil)))) (pa_cons pe_bl pa_nil))))))
        (pss_cons (by exact (ps_if (pt_cmpR (op_eqD hr.units) (pv 1) (pe_glob (v := .ref T.a_FALL) rfl T.g_FALL rfl) (nomark _)) (pss_one (by exact (ps_setLc (i := 3) (own := [("one", 4)]) (g := gName 4) (tt := tYes) (te := (tOp (rI0 fun i j => .int (i - j)) (tOp (rI0 fun i j => .int (i - j)) (tVar 0) (tC (.int 1))) (tVar 4))) rfl sc_made.nd rfl rfl (sw_true rfl rfl rfl (by decide +kernel)) (pi_list (pv 3)) (blkOk_by (N := ["size", "order", "number", "shape", "one"]) (sc := defScope s_made) (by decide +kernel)) (fun _ _ _ _ _ => by exact (pg_name (i := 4) sc_made.nd rfl (by first | exact Or.inl rfl | exact Or.inr rfl))) (fun _ _ _ _ _ => pts_nil) (fun _ _ _ _ _ => by exact (pe_op op_sub (pe_op op_sub (pv 0) pe_int) (pv 4)))))) pss_nil))
        (pss_one (by exact (ps_ret (pv 3)))))))), ?_⟩
    rw [show (start ["size", "order", "number", "shape", "one"] [V.int n, V.ref b, V.int m] : L2.St) = [some (V.int n), some (V.ref b), some (V.int m), none, none] from rfl]
    have hR : ∀ H', SqL K H' T.a_RISE (RISE.map V.int) := T.l_RISE
    have hF : ∀ H', SqL K H' T.a_FALL (FALL.map V.int) := T.l_FALL
    refine seq_intro ?_
    walk_at "r1"
    refine ⟨n, m, rfl, hn, hm, fun H1 pa s1 npa hpa => ?_⟩
    have pll : (pileL n m).length ≤ 60 := by
      have := pl_len (2 * n) [] 0 m
      simp only [pileL, nI, List.length_map]; omega
    have hB1 := s1.seq hB
    walk_at "r1"
    -- with the pile's shape turned and filled
    have rest : ¬ (o ≠ RISE ∧ o ≠ FALL) → tSeq (tAsg (tCall (sp_filled T) [] E0 (tCons (tCall (sp_turned T) [] E0 (tCons (tVar 3) (tCons (tLst (tCons (tC (V.int 0)) (tCons (tC (V.int 2)) (tCons (tC (V.int 1)) tNil)))) tNil))) (tCons (tC (V.bl true)) tNil))) (gName 3))
        (tSeq (tIfS (tTest (tOp (rEqD K) (tVar 1) (tC (V.ref T.a_FALL)))) (tAsg (tLc (iList K (tVar 3)) (gName 4) tYes (tOp (rI0 fun i j => V.int (i - j)) (tOp (rI0 fun i j => V.int (i - j)) (tVar 0) (tC (V.int 1))) (tVar 4)) [4]) (gName 3)) tNext) (tRet (tVar 3)))
        { nx := fun x H' => Q V.non H', rt := Q } [some (V.int n), some (V.ref b), some (V.int m), some (V.ref pa), none] H1 := fun nb => by
      refine seq_intro ?_
      walk_at "r1"
      refine ⟨lineLe (by simp), fun t nt => ⟨pa, t, pileL n m, [0, 2, 1], rfl, SqL.of (same_new nt _ _ hpa), SqL.of upd_same, by omega, fun H2 u s2 nu hu => ?_⟩⟩
      have tl := turnL_len (pileL n m) [0, 2, 1]
      have s12 := (s1.trans (same_new nt)).trans s2
      walk_at "r1"
      refine ⟨u, true, turnL (pileL n m) [0, 2, 1], rfl, SqL.of hu, by omega, fun H3 f s3 nf hf => ?_⟩
      have s13 := s12.trans s3
      have nf0 : H f = none := s12.free nf
      rw [if_pos rfl] at hf
      have fl := fillT_len (turnL (pileL n m) [0, 2, 1])
      walk_at "r1"
      refine seq_intro ?_
      walk_at "r1"
      refine rEq_ints (s13.seq hB) (hF _) ?_
      refine ⟨_, rfl, ite2 (fun c => ?_) (fun c => ?_)⟩
      · have c' := of_decide_eq_true c
        refine ⟨⟨_, SqL.of hf⟩, fun D nD => ?_⟩
        refine lcK_map (fillT (turnL (pileL n m) [0, 2, 1])) V.int (fun x => V.int ((n : Int) - 1 - x)) nD (SqL.of hf) (by omega) (fun i x acc H5 QT hx hs hD hq => ?_) (fun H5 s5 hD => ?_)
        · walk_at "r1"
          exact hq _ hs hD
        · refine q H5 D (s13.trans s5) (s13.free nD) ?_
          rw [hD, madeL, if_neg nb, if_pos c', List.map_map]
          rfl
      · have c' : ¬ o = FALL := fun z => c (decide_eq_true z)
        refine q H3 f s13 nf0 ?_
        rw [hf, madeL, if_neg nb, if_neg c']
    refine seq_intro ?_
    walk_at "r1"
    refine rNe_ints hB1 (hR _) ⟨_, rfl, ite2 (fun c => ?_) (fun c => ?_)⟩
    · have c1 : o ≠ RISE := by simpa using c
      refine rNe_ints hB1 (hF _) ⟨_, rfl, ite2 (fun d => ?_) (fun d => ?_)⟩
      · have c2 : o ≠ FALL := by simpa using d
        refine ⟨pa, b, pileL n m, o, rfl, SqL.of hpa, hB1, by omega, fun H2 p s2 np hp => ?_⟩
        refine q H2 p (s1.trans s2) (s1.free np) ?_
        rw [hp, madeL, if_pos ⟨c1, c2⟩]
      · exact rest fun z => d (by simpa using z.2)
    · exact rest fun z => c (by simpa using z.1)

end
end Sh

namespace Sh
section
variable {P : Program} {w : World} {K : PySem.W.Frag} {mg : Str → Option Value} {base : Heap}
def sp_without_at (T : Tx K mg) : Sp := fun vs H Q E => ∃ (b : Addr) (n m : Int) (o : List Int), vs = [.int n, .ref b, .int m] ∧ SqL K H b (o.map V.int) ∧ o.length ≤ 4000 ∧
  (shapeOk o → o.length = 3 → 1 ≤ n ∧ n ≤ 20 → 0 ≤ m ∧ m < (Wy (2 * n.toNat) 0 : Nat) → ∀ H' p, Same H H' → H p = none → H' p = some (.lst ((madeL n.toNat o m.toNat).map V.int)) → Q (.ref p) H') ∧
  (¬ shapeOk o → ∀ H', Same H H' → E (.ref T.C_NoShape) none H') ∧ (shapeOk o → ¬ o.length = 3 → ∀ H', Same H H' → E (.ref T.C_NoOrder) none H') ∧ (shapeOk o → o.length = 3 → ¬ (1 ≤ n ∧ n ≤ 20) → ∀ H', Same H H' → E (.ref T.C_NoSize) none H') ∧
  (shapeOk o → o.length = 3 → 1 ≤ n ∧ n ≤ 20 → ¬ (0 ≤ m ∧ m < (Wy (2 * n.toNat) 0 : Nat)) → ∀ H', Same H H' → E (.ref T.C_NoNumber) none H')
theorem ok_without_at (T : Tx K mg) : FnOk P w K mg base (L2.CX P w) 5 T.f_without_at T.fd_without_at ["size", "order", "number"] (sp_without_at T) := by
  refine T.F_without_at.okX sc_without_at (fun vs H Q E h => ?_) (fun cdv A outer s H vs Q E hr h => ?_)
  · obtain ⟨b, n, m, o, rfl, _⟩ := h
    rfl
  · obtain ⟨b, n, m, o, rfl, hB, lo, q1, q2, q3, q4, q5⟩ := h
    refine ⟨_, (pss_cons (by exact (ps_expr (by exact (pe_call (ok_ask_three T) (hr.mono (by decide)) (by rfl) T.g_ask_three T.F_ask_three.kp T.b_ask_three .nil (passes_call (takes_of rfl rfl rfl rfl) (fun _ _ _ _ h => h)) (pa_cons (pv 1) pa_nil)))))
        (pss_cons (by exact (ps_set (i := 3) sc_without_at.nd rfl (Or.inl rfl) (by exact (pe_call (ok_many_without T) (hr.mono (by decide)) (by rfl) T.g_many_without T.F_many_without.kp T.b_many_without .nil (passes_call (takes_of rfl rfl rfl rfl) (fun _ _ _ _ h => h)) (pa_cons (pv 0) pa_nil)))))
        (pss_cons (by exact (ps_if (pt_not (pt_chain (op_le) (op_lt) pe_int (pv 2) (pv 3))) (pss_one (by exact (ps_raise rfl (takes_of rfl rfl rfl rfl) (pmk_own PySem.F.excBase_ValueError T.x_NoNumber T.gC_NoNumber T.kC_NoNumber (raises_own T.bC_NoNumber T.tC_NoNumber) (by exact rfl))))) pss_nil))
        (pss_one (by exact (ps_ret (by exact (pe_call (ok_made T) (hr.mono (by decide)) (by rfl) T.g_made T.F_made.kp T.b_made .nil pass0 (pa_cons (pv 0) (pa_cons (pv 1) (pa_cons (pv 2) pa_nil))))))))))), ?_⟩
    rw [show (start ["size", "order", "number", "whole"] [V.int n, V.ref b, V.int m] : L2.St) = [some (V.int n), some (V.ref b), some (V.int m), none] from rfl]
    refine seq_intro ?_
    walk_at "r1"
    refine ⟨b, o, rfl, hB, lo, fun k1 k2 H1 s1 => ?_, q2, q3⟩
    refine seq_intro ?_
    walk_at "r1"
    refine ⟨n, rfl, fun k3 H2 s2 => ?_, fun z => q4 k1 k2 z _ s1⟩
    have s12 := s1.trans s2
    refine seq_intro ?_
    walk_at "r1"
    refine ite2 (fun c => ite2 (fun d => q5 k1 k2 k3 (fun z => d z.2) _ s12) (fun d => ?_)) (fun c => q5 k1 k2 k3 (fun z => c z.1) _ s12)
    have d' : m < (Wy (2 * n.toNat) 0 : Nat) := Classical.byContradiction d
    obtain ⟨n', rfl⟩ : ∃ n' : Nat, n = (n' : Int) := ⟨n.toNat, by omega⟩
    obtain ⟨m', rfl⟩ : ∃ m' : Nat, m = (m' : Int) := ⟨m.toNat, by omega⟩
    rw [Int.toNat_natCast] at q1 d'
    refine ⟨b, n', m', o, rfl, s12.seq hB, by omega, by omega, fun H3 p s3 np hp => ?_⟩
    have := q1 k1 k2 k3 ⟨by omega, d'⟩ H3 p (s12.trans s3) (s12.free np)
    rw [Int.toNat_natCast] at this
    exact this hp

end
end Sh

namespace Sh
section
variable {P : Program} {w : World} {K : PySem.W.Frag} {mg : Str → Option Value} {base : Heap}
def sp_ask_without (T : Tx K mg) : Sp := fun vs H Q E => ∃ (a c : Addr) (row order : List Int), vs = [.ref a, .ref c] ∧ SqL K H a (row.map V.int) ∧ SqL K H c (order.map V.int) ∧ row.length ≤ 4000 ∧ order.length ≤ 4 ∧
  (1 ≤ row.length ∧ row.length ≤ 20 → placesL row order = [] → ∀ H', Same H H' → Q .non H') ∧ (1 ≤ row.length ∧ row.length ≤ 20 → placesL row order ≠ [] → ∀ H', Same H H' → E (.ref T.C_HasOrder) none H') ∧ (¬ (1 ≤ row.length ∧ row.length ≤ 20) → ∀ H', Same H H' → E (.ref T.C_NoSize) none H')
theorem ok_ask_without (T : Tx K mg) : FnOk P w K mg base (L2.CX P w) 11 T.f_ask_without T.fd_ask_without ["shape", "order"] (sp_ask_without T) := by
  refine T.F_ask_without.okX sc_ask_without (fun vs H Q E h => ?_) (fun cdv A outer s H vs Q E hr h => ?_)
  · obtain ⟨a, c, row, order, rfl, _⟩ := h
    rfl
  · obtain ⟨a, c, row, order, rfl, hA, hC, lA, lC, q1, q2, q3⟩ := h
    refine ⟨_, (pss_cons (by exact (ps_expr (by exact (pe_call (ok_ask_size T) (hr.mono (by decide)) (by rfl) T.g_ask_size T.F_ask_size.kp T.b_ask_size .nil (passes_call (takes_of rfl rfl rfl rfl) (fun _ _ _ _ h => h)) (pa_cons (by exact (pe_callB call_lenS (by rfl) T.m_len PySem.boot_len (pa_cons (pv 0) pa_nil))) pa_nil)))))
        (pss_one (by exact (ps_if (pt_cmpR (op_notN) (by exact (pe_call (ok_found_from T 6) (hr.mono (by decide)) (by rfl) T.g_found_from T.F_found_from.kp T.b_found_from .nil pass0 (pa_cons (pv 0) (pa_cons (pv 1) (pa_cons (pe_lst pa_nil) pa_nil))))) pe_non (nomark _)) (pss_one (by exact (ps_raise rfl (takes_of rfl rfl rfl rfl) (pmk_own PySem.F.excBase_ValueError T.x_HasOrder T.gC_HasOrder T.kC_HasOrder (raises_own T.bC_HasOrder T.tC_HasOrder) (by exact rfl))))) pss_nil)))), ?_⟩
    rw [show (start ["shape", "order"] [V.ref a, V.ref c] : L2.St) = [some (V.ref a), some (V.ref c)] from rfl]
    walk_at "rd"
    refine ⟨_, .inl hA, ?_⟩
    rw [List.length_map]
    refine ⟨_, rfl, fun k1 => ?_, fun z => q3 (fun w => z (by omega)) _ (Same.refl _)⟩
    have k1' : 1 ≤ row.length ∧ row.length ≤ 20 := by omega
    walk_at "rd"
    refine ⟨lineLe (by simp), fun e ne => ⟨a, e, c, row, order, [], rfl, sql_new ne hA, upd_same, sql_new ne hC, lA, by simp; omega, by simp, by omega, by simp, fun z H2 s2 => ?_, fun r z H2 p s2 np hp => ?_⟩⟩
    · rw [dfs_first (Nat.lt_of_le_of_lt lC (by decide))] at z
      refine iteF' (fun w : ¬ V.non = V.non => w rfl) ?_
      exact q1 k1' (List.head?_eq_none_iff.mp z) _ ((same_new ne).trans s2)
    · rw [dfs_first (Nat.lt_of_le_of_lt lC (by decide))] at z
      refine iteT' (show ¬ V.ref p = V.non from fun w => by cases w) ?_
      exact q2 k1' (fun w => by rw [w] at z; cases z) _ ((same_new ne).trans s2)

end
end Sh

namespace Sh
section
variable {P : Program} {w : World} {K : PySem.W.Frag} {mg : Str → Option Value} {base : Heap}
def sp_pile_number (T : Tx K mg) : Sp := fun vs H Q E => ∃ (a : Addr) (s : List Int), vs = [.ref a] ∧ SqL K H a (s.map V.int) ∧ shapeOk s ∧ ∀ H', Same H H' → Q (.int (pnum s : Nat)) H'
theorem ok_pile_number (T : Tx K mg) : FnOk P w K mg base CX0 2 T.f_pile_number T.fd_pile_number ["shape"] (sp_pile_number T) := by
  refine T.F_pile_number.ok sc_pile_number (fun vs H Q E h => ?_) (fun cdv A outer s H vs Q E hr h => ?_)
  · obtain ⟨a, s, rfl, _⟩ := h
    rfl
  · obtain ⟨a, s0, rfl, hA, sok, q⟩ := h
    refine ⟨_, (pss_cons (by exact (ps_set (i := 1) sc_pile_number.nd rfl (Or.inl rfl) (by exact (pe_call (ok_ways T) (hr.mono (by decide)) (by rfl) T.g_ways T.F_ways.kp T.b_ways .nil pass0 (pa_cons (by exact (pe_callB call_lenS (by rfl) T.m_len PySem.boot_len (pa_cons (pv 0) pa_nil))) pa_nil)))))
        (pss_cons (by exact (ps_set (i := 2) sc_pile_number.nd rfl (Or.inl rfl) (pe_op op_mul pe_int (by exact (pe_callB call_lenS (by rfl) T.m_len PySem.boot_len (pa_cons (pv 0) pa_nil))))))
        (pss_cons (by exact (ps_set (i := 3) sc_pile_number.nd rfl (Or.inl rfl) pe_int))
        (pss_cons (by exact (ps_set (i := 4) sc_pile_number.nd rfl (Or.inl rfl) pe_int))
        (pss_cons (by exact (ps_set (i := 5) sc_pile_number.nd rfl (Or.inl rfl) pe_int))
        (pss_cons (by exact (ps_for PassesOwn.never rfl (pi_list (pv 0)) (pg_name (i := 6) sc_pile_number.nd rfl (Or.inl rfl))
        (pss_cons (by exact (ps_while PassesOwn.never (pt_cmpR (op_le) (pv 4) (pv 6) (nomark _))
        (pss_cons (by exact (ps_set (i := 4) sc_pile_number.nd rfl (Or.inl rfl) (pe_op op_add (pv 4) pe_int)))
        (pss_cons (by exact (ps_set (i := 3) sc_pile_number.nd rfl (Or.inl rfl) (pe_op op_add (pv 3) pe_int)))
        (pss_one (by exact (ps_set (i := 2) sc_pile_number.nd rfl (Or.inl rfl) (pe_op op_sub (pv 2) pe_int))))))))
        (pss_cons (by exact (ps_set (i := 2) sc_pile_number.nd rfl (Or.inl rfl) (pe_op op_sub (pv 2) pe_int)))
        (pss_cons (by exact (ps_set (i := 5) sc_pile_number.nd rfl (Or.inl rfl) (pe_op op_add (pv 5) (pe_ix ix_list (pe_ix ix_list (pv 1) (pv 2) (fun _ _ => rfl)) (pe_op op_add (pv 3) pe_int) (fun _ _ => rfl)))))
        (pss_one (by exact (ps_set (i := 3) sc_pile_number.nd rfl (Or.inl rfl) (pe_op op_sub (pv 3) pe_int)))))))))
        (pss_one (by exact (ps_ret (pv 5)))))))))), ?_⟩
    rw [show (start ["shape", "rows", "left", "height", "taken", "number", "wanted"] [V.ref a] : L2.St) = [some (V.ref a), none, none, none, none, none, none] from rfl]
    have hl := sok.1
    walk_at "rd"
    refine ⟨_, .inl hA, ?_⟩
    rw [List.length_map]
    refine ⟨s0.length, rfl, hl, fun bs H1 ra s1 nra hra ll e => ⟨_, .inl (s1.seq hA), ?_⟩⟩
    rw [List.length_map]
    walk_at "rd"
    refine ⟨.inl ⟨by decide, by decide⟩, ⟨_, s1.seq hA⟩, ?_⟩
    refine forK_map s0 V.int (fun i σ H' => ∃ (l h t k : Nat) (y6 : Option V), σ = [some (V.ref a), some (V.ref ra), some (V.int l), some (V.int h), some (V.int t), some (V.int k), y6] ∧ H' = H1 ∧ l + t + i = 2 * s0.length ∧ h + i = t ∧ t ≤ s0.length ∧ pnum s0 = k + pn l h t ((s0.drop i).map Int.toNat) ∧ ∀ x ∈ s0.take i, x < (t : Int))
      ⟨2 * s0.length, 0, 0, 0, _, by rw [show ((2 * s0.length : Nat) : Int) = 2 * (s0.length : Int) by omega]; rfl, rfl, by omega, by omega, by omega, by simp [pnum], by simp⟩ (fun i σ H' _ h => ?_) (fun i w σ H' hw h => ?_) (fun σ H' h => ?_)
    · obtain ⟨l, h, t, k, y6, rfl, rfl, _⟩ := h
      exact s1.seq hA
    · obtain ⟨l, h, t, k, y6, rfl, rfl, e1, e2, e3, e4, e5⟩ := h
      have hi : i < s0.length := (List.getElem?_eq_some_iff.mp hw).1
      have hwb := (shapeOk_mem sok).mp (List.mem_of_getElem? hw)
      have hd : s0.drop i = w :: s0.drop (i + 1) := by
        rw [List.drop_eq_getElem_cons hi]
        rw [List.getElem?_eq_getElem hi] at hw
        rw [Option.some.inj hw]
      rw [hd, List.map_cons] at e4
      refine seq_of (fun σ H2 => ∃ (l h t : Nat), σ = [some (V.ref a), some (V.ref ra), some (V.int l), some (V.int h), some (V.int t), some (V.int k), some (V.int w)] ∧ H2 = H' ∧ l + t + i = 2 * s0.length ∧ h + i = t ∧ t ≤ s0.length ∧ pnum s0 = k + pn l h t (w.toNat :: (s0.drop (i + 1)).map Int.toNat) ∧ (∀ x ∈ s0.take i, x < (t : Int)) ∧ w < (t : Int)) (fun σ H2 h => ?_) (fun U hU => ?_)
      rotate_left
      · refine ⟨fun m σ H2 => ∃ (l h t : Nat), σ = [some (V.ref a), some (V.ref ra), some (V.int l), some (V.int h), some (V.int t), some (V.int k), some (V.int w)] ∧ H2 = H' ∧ l + t + i = 2 * s0.length ∧ h + i = t ∧ t ≤ s0.length ∧ pnum s0 = k + pn l h t (w.toNat :: (s0.drop (i + 1)).map Int.toNat) ∧ (∀ x ∈ s0.take i, x < (t : Int)) ∧ m = (w + 1 - t).toNat, ⟨_, l, h, t, rfl, rfl, e1, e2, e3, e4, e5, rfl⟩, fun m σ H2 hW => ?_⟩
        obtain ⟨l, h, t, rfl, rfl, e1, e2, e3, e4, e5, rfl⟩ := hW
        walk_at "rd"
        refine ite2 (fun c => ?_) (fun c => hU _ _ ⟨l, h, t, rfl, rfl, e1, e2, e3, e4, e5, by omega⟩)
        obtain ⟨l', rfl⟩ : ∃ l', l = l' + 1 := ⟨l - 1, by omega⟩
        refine ⟨fun σ' H' => σ' = [some (V.ref a), some (V.ref ra), some (V.int ((l' + 1 : Nat) - 1 : Int)), some (V.int ((h : Int) + 1)), some (V.int ((t : Int) + 1)), some (V.int k), some (V.int w)] ∧ H' = H2, fun σ' H' h' => ?_, ⟨rfl, rfl⟩⟩
        obtain ⟨rfl, rfl⟩ := h'
        refine ⟨_, ?_, l', h + 1, t + 1, ?_, rfl, by omega, by omega, by omega, ?_, fun x hx => ?_, rfl⟩
        · omega
        · rw [show ((l' + 1 : Nat) : Int) - 1 = (l' : Int) by omega]; rfl
        · rw [e4, pn, if_pos (by omega)]
        · have := e5 x hx; omega
      · obtain ⟨l, h, t, rfl, rfl, e1, e2, e3, e4, e5, e6⟩ := h
        have cnt : i + 1 ≤ t := by
          have nd : ((s0.take (i + 1)).map Int.toNat).Nodup := by
            refine nodup_map (List.Nodup.sublist (List.take_sublist _ _) (shapeOk_row sok).2) fun x hx y hy z => ?_
            have h1 := (shapeOk_mem sok).mp (List.mem_of_mem_take hx)
            have h2 := (shapeOk_mem sok).mp (List.mem_of_mem_take hy)
            omega
          have := len_le_of_sub nd (m := List.range t) fun x hx => by
            obtain ⟨y, hy, rfl⟩ := List.mem_map.mp hx
            have h1 := (shapeOk_mem sok).mp (List.mem_of_mem_take hy)
            rw [take_more hw] at hy
            rcases List.mem_append.mp hy with z | z
            · have := e5 y z
              exact List.mem_range.mpr (by omega)
            · have : y = w := by simpa using z
              exact List.mem_range.mpr (by omega)
          rw [List.length_map, List.length_take, List.length_range] at this
          omega
        walk_at "rd"
        obtain ⟨l', rfl⟩ : ∃ l', l = l' + 1 := ⟨l - 1, by omega⟩
        obtain ⟨b, hb, hbm, eb⟩ := snd_at e (show l' < 2 * s0.length + 1 by omega)
        have hbl := ll b hbm
        rw [eb] at hbl
        have wl := wayN_len s0.length l'
        have e7 : pnum s0 = k + (Wy l' (h + 1) + pn l' (h - 1) t ((s0.drop (i + 1)).map Int.toNat)) := by rw [e4, pn, if_neg (by omega)]
        refine ⟨_, SqL.of hra, V.ref b.1, by rw [show ((l' + 1 : Nat) : Int) - 1 = (l' : Int) by omega]; exact atI_nat (by rw [List.getElem?_map, hb]; rfl), _, rfl, _, SqL.of hbl, _, atI_ints (by omega) (by omega), _, rfl, l', by omega, h - 1, by omega, t, rfl, k + Wy l' (h + 1), ?_, by omega, by omega, by omega, by omega, fun x hx => ?_⟩
        · rw [show ((h : Int) + 1).toNat = h + 1 by omega, wayN_get (by omega)]; omega
        · rw [take_more hw] at hx
          rcases List.mem_append.mp hx with z | z
          · exact e5 x z
          · have : x = w := by simpa using z
            omega
    · obtain ⟨l, h, t, k, y6, rfl, rfl, e1, e2, e3, e4, e5⟩ := h
      walk_at "rd"
      rw [List.drop_length, List.map_nil] at e4
      have : pnum s0 = k := by rw [e4]; cases l <;> rfl
      rw [← this]
      exact q _ s1

end
end Sh

namespace Sh
section
variable {P : Program} {w : World} {K : PySem.W.Frag} {mg : Str → Option Value} {base : Heap}
def sp_numbered (T : Tx K mg) : Sp := fun vs H Q E => ∃ (a b : Addr) (s o : List Int), vs = [.ref a, .ref b] ∧ SqL K H a (s.map V.int) ∧ SqL K H b (o.map V.int) ∧ numOk s ∧ ∀ H', Same H H' → Q (.int (numL s o : Nat)) H'
theorem ok_numbered (T : Tx K mg) : FnOk P w K mg base CX0 3 T.f_numbered T.fd_numbered ["shape", "order"] (sp_numbered T) := by
  refine T.F_numbered.ok sc_numbered (fun vs H Q E h => ?_) (fun cdv A outer s H vs Q E hr h => ?_)
  · obtain ⟨a, b, s, o, rfl, _⟩ := h
    rfl
  · obtain ⟨a, b, s0, o, rfl, hA, hB, nok, q⟩ := h
    refine ⟨_, (pss_cons (by exact (ps_if (PW.pt (pw_and (pt_cmpR (op_neD hr.units) (pv 1) (pe_glob (v := .ref T.a_RISE) rfl T.g_RISE rfl) (nomark _)) (pw_and1 (pt_cmpR (op_neD hr.units) (pv 1) (pe_glob (v := .ref T.a_FALL) rfl T.g_FALL rfl) (nomark _))))) (pss_one (by exact (ps_ret (by exact (pe_call (ok_pile_number T) (hr.mono (by decide)) (by rfl) T.g_pile_number T.F_pile_number.kp T.b_pile_number .nil pass0 (pa_cons (by exact (pe_call (ok_turned T) (hr.mono (by decide)) (by rfl) T.g_turned T.F_turned.kp T.b_turned .nil pass0 (pa_cons (pv 0) (pa_cons (pv 1) pa_nil)))) pa_nil)))))) pss_nil))
        (pss_cons (by exact (ps_if (pt_cmpR (op_eqD hr.units) (pv 1) (pe_glob (v := .ref T.a_FALL) rfl T.g_FALL rfl) (nomark _)) (pss_one (by exact (ps_set (i := 0) sc_numbered.nd rfl (Or.inr rfl) (by exact (pe_lc (own := [("one", 2)]) (g := gName 2) (tt := tYes) (te := (tOp (rI0 fun i j => .int (i - j)) (tOp (rI0 fun i j => .int (i - j)) (tCB (rLen K) (tCons (tVar 0) tNil)) (tC (.int 1))) (tVar 2))) rfl sc_numbered.nd (pi_list (pv 0)) (blkOk_by (N := ["shape", "order", "one"]) (sc := defScope s_numbered) (by decide +kernel)) (fun _ _ _ _ _ => by exact (pg_name (i := 2) sc_numbered.nd rfl (by first | exact Or.inl rfl | exact Or.inr rfl))) (fun _ _ _ _ _ => pts_nil) (fun _ _ _ _ _ => by exact (pe_op op_sub (pe_op op_sub (by exact (pe_callB call_lenS (by rfl) T.m_len PySem.boot_len (pa_cons (pv 0) pa_nil))) pe_int) (pv 2)))))))) pss_nil))
        (pss_one (by exact (ps_ret (by exact (pe_call (ok_pile_number T) (hr.mono (by decide)) (by rfl) T.g_pile_number T.F_pile_number.kp T.b_pile_number .nil pass0 (pa_cons (by exact (pe_call (ok_turned T) (hr.mono (by decide)) (by rfl) T.g_turned T.F_turned.kp T.b_turned .nil pass0 (pa_cons (by exact (pe_call (ok_filled T) (hr.mono (by decide)) (by rfl) T.g_filled T.F_filled.kp T.b_filled .nil pass0 (pa_cons (pv 0) (pa_cons pe_bl pa_nil)))) (pa_cons (pe_lst (pa_cons pe_int (pa_cons pe_int (pa_cons pe_int pa_nil)))) pa_nil)))) pa_nil)))))))), ?_⟩
    rw [show (start ["shape", "order", "one"] [V.ref a, V.ref b] : L2.St) = [some (V.ref a), some (V.ref b), none] from rfl]
    have hR : ∀ H', SqL K H' T.a_RISE (RISE.map V.int) := T.l_RISE
    have hF : ∀ H', SqL K H' T.a_FALL (FALL.map V.int) := T.l_FALL
    have sok := nok.1
    have sl := sok.1
    refine seq_of (fun σ H' => σ = [some (V.ref a), some (V.ref b), none] ∧ H' = H ∧ ¬ (o ≠ RISE ∧ o ≠ FALL)) (fun σ H' h => ?_) (fun U hU => ?_)
    rotate_left
    · walk_at "r1"
      refine rNe_ints hB (hR _) ⟨_, rfl, ite2 (fun c => ?_) (fun c => ?_)⟩
      · have c1 : o ≠ RISE := by simpa using c
        refine rNe_ints hB (hF _) ⟨_, rfl, ite2 (fun d => ?_) (fun d => ?_)⟩
        · have c2 : o ≠ FALL := by simpa using d
          refine ⟨a, b, s0, o, rfl, hA, hB, by omega, fun H2 p s2 np hp => ⟨p, turnL s0 o, rfl, SqL.of hp, turn_shape sok o, fun H3 s3 => ?_⟩⟩
          have := q H3 (s2.trans s3)
          rw [numL, if_pos ⟨c1, c2⟩] at this
          exact this
        · exact hU _ _ ⟨rfl, rfl, fun z => d (by simpa using z.2)⟩
      · exact hU _ _ ⟨rfl, rfl, fun z => c (by simpa using z.1)⟩
    obtain ⟨rfl, rfl, nb⟩ := h
    refine seq_of (fun σ H2 => ∃ p, σ = [some (V.ref p), some (V.ref b), none] ∧ Same H' H2 ∧ SqL K H2 p ((if o = FALL then contraryL s0 else s0).map V.int)) (fun σ H2 h => ?_) (fun U hU => ?_)
    rotate_left
    · walk_at "r1"
      refine rEq_ints hB (hF _) ⟨_, rfl, ite2 (fun c => ?_) (fun c => ?_)⟩
      · have c' := of_decide_eq_true c
        refine ⟨⟨_, hA⟩, fun D nD => ?_⟩
        refine lcK_map s0 V.int (fun x => V.int ((s0.length : Int) - 1 - x)) nD hA (by omega) (fun i x acc H5 QT hx hs hD hq => ?_) (fun H5 s5 hD => ?_)
        · walk_at "r1"
          refine ⟨_, .inl (hs.seq hA), ?_⟩
          rw [List.length_map]
          exact hq _ hs hD
        · refine hU _ _ ⟨D, rfl, s5, ?_⟩
          rw [if_pos c']
          refine SqL.of ?_
          rw [hD, contraryL, List.map_map]
          rfl
      · have c' : ¬ o = FALL := fun z => c (decide_eq_true z)
        refine hU _ _ ⟨a, rfl, Same.refl _, ?_⟩
        rw [if_neg c']; exact hA
    obtain ⟨p, rfl, s2, hp⟩ := h
    have cl : (if o = FALL then contraryL s0 else s0).length ≤ 30 := by
      split
      · rw [contrary_len]; omega
      · omega
    have sok2 : shapeOk (fillU (if o = FALL then contraryL s0 else s0)) := by
      split
      · exact nok.2.2
      · exact nok.2.1
    walk_at "r1"
    refine ⟨p, false, _, rfl, hp, by omega, fun H3 f s3 nf hf => ?_⟩
    rw [if_neg (by simp)] at hf
    refine ⟨lineLe (by simp), fun t nt => ⟨f, t, _, [0, 2, 1], rfl, SqL.of (same_new nt _ _ hf), SqL.of upd_same, by rw [fillU_len]; omega, fun H4 u s4 nu hu => ?_⟩⟩
    refine ⟨u, _, rfl, SqL.of hu, turn_shape sok2 _, fun H5 s5 => ?_⟩
    have := q H5 ((((s2.trans s3).trans (same_new nt)).trans s4).trans s5)
    rw [numL, if_neg nb] at this
    exact this

end
end Sh

namespace Sh
section
variable {P : Program} {w : World} {K : PySem.W.Frag} {mg : Str → Option Value} {base : Heap}
def sp_number_of (T : Tx K mg) : Sp := fun vs H Q E => ∃ (a b : Addr) (s o : List Int), vs = [.ref a, .ref b] ∧ SqL K H a (s.map V.int) ∧ SqL K H b (o.map V.int) ∧ s.length ≤ 4000 ∧ o.length ≤ 4000 ∧
  (shapeOk s → shapeOk o → o.length = 3 → 1 ≤ s.length ∧ s.length ≤ 20 → placesL s o = [] → numOk s ∧ ∀ H', Same H H' → Q (.int (numL s o : Nat)) H') ∧
  (¬ shapeOk s → ∀ H', Same H H' → E (.ref T.C_NoShape) none H') ∧ (shapeOk s → ¬ shapeOk o → ∀ H', Same H H' → E (.ref T.C_NoShape) none H') ∧ (shapeOk s → shapeOk o → ¬ o.length = 3 → ∀ H', Same H H' → E (.ref T.C_NoOrder) none H') ∧
  (shapeOk s → shapeOk o → o.length = 3 → ¬ (1 ≤ s.length ∧ s.length ≤ 20) → ∀ H', Same H H' → E (.ref T.C_NoSize) none H') ∧ (shapeOk s → shapeOk o → o.length = 3 → 1 ≤ s.length ∧ s.length ≤ 20 → placesL s o ≠ [] → ∀ H', Same H H' → E (.ref T.C_HasOrder) none H')
theorem ok_number_of (T : Tx K mg) : FnOk P w K mg base (L2.CX P w) 12 T.f_number_of T.fd_number_of ["shape", "order"] (sp_number_of T) := by
  refine T.F_number_of.okX sc_number_of (fun vs H Q E h => ?_) (fun cdv A outer s H vs Q E hr h => ?_)
  · obtain ⟨a, b, s, o, rfl, _⟩ := h
    rfl
  · obtain ⟨a, b, s0, o, rfl, hA, hB, lA, lB, q1, q2, q3, q4, q5, q6⟩ := h
    refine ⟨_, (pss_cons (by exact (ps_expr (by exact (pe_call (ok_ask_shape T) (hr.mono (by decide)) (by rfl) T.g_ask_shape T.F_ask_shape.kp T.b_ask_shape .nil (passes_call (takes_of rfl rfl rfl rfl) (fun _ _ _ _ h => h)) (pa_cons (pv 0) pa_nil)))))
        (pss_cons (by exact (ps_expr (by exact (pe_call (ok_ask_three T) (hr.mono (by decide)) (by rfl) T.g_ask_three T.F_ask_three.kp T.b_ask_three .nil (passes_call (takes_of rfl rfl rfl rfl) (fun _ _ _ _ h => h)) (pa_cons (pv 1) pa_nil)))))
        (pss_cons (by exact (ps_expr (by exact (pe_call (ok_ask_without T) (hr.mono (by decide)) (by rfl) T.g_ask_without T.F_ask_without.kp T.b_ask_without .nil (passes_call (takes_of rfl rfl rfl rfl) (fun _ _ _ _ h => h)) (pa_cons (pv 0) (pa_cons (pv 1) pa_nil))))))
        (pss_one (by exact (ps_ret (by exact (pe_call (ok_numbered T) (hr.mono (by decide)) (by rfl) T.g_numbered T.F_numbered.kp T.b_numbered .nil pass0 (pa_cons (pv 0) (pa_cons (pv 1) pa_nil)))))))))), ?_⟩
    rw [show (start ["shape", "order"] [V.ref a, V.ref b] : L2.St) = [some (V.ref a), some (V.ref b)] from rfl]
    walk_at "rd"
    refine ⟨a, s0, rfl, hA, lA, fun k1 H1 s1 => ?_, q2⟩
    walk_at "rd"
    refine ⟨b, o, rfl, s1.seq hB, lB, fun k2 k3 H2 s2 => ?_, fun z H' s => q3 k1 z _ (s1.trans s), fun y z H' s => q4 k1 y z _ (s1.trans s)⟩
    have s12 := s1.trans s2
    walk_at "rd"
    refine ⟨a, b, s0, o, rfl, s12.seq hA, s12.seq hB, lA, by omega, fun k4 k5 H3 s3 => ?_, fun k4 z H' s => q6 k1 k2 k3 k4 z _ (s12.trans s), fun z H' s => q5 k1 k2 k3 z _ (s12.trans s)⟩
    have s13 := s12.trans s3
    obtain ⟨k6, q7⟩ := q1 k1 k2 k3 k4 k5
    walk_at "rd"
    exact ⟨a, b, s0, o, rfl, s13.seq hA, s13.seq hB, k6, fun H4 s4 => q7 H4 (s13.trans s4)⟩

end
end Sh

namespace Sh
section
variable {P : Program} {w : World} {K : PySem.W.Frag} {mg : Str → Option Value} {base : Heap}
def sp_led (T : Tx K mg) : Sp := fun vs H Q E => ∃ (a b c : Addr) (s o o2 : List Int), vs = [.ref a, .ref b, .ref c] ∧ SqL K H a (s.map V.int) ∧ SqL K H b (o.map V.int) ∧ SqL K H c (o2.map V.int) ∧ s.length ≤ 4000 ∧ o.length ≤ 4000 ∧ o2.length ≤ 4000 ∧
  (shapeOk s → shapeOk o → shapeOk o2 → o.length = 3 → o2.length = 3 → 1 ≤ s.length ∧ s.length ≤ 20 → placesL s o = [] → (numOk s ∧ numL s o < Wy (2 * s.length) 0 ∧ ∀ H' p, Same H H' → H p = none → H' p = some (.lst ((madeL s.length o2 (numL s o)).map V.int)) → Q (.ref p) H')) ∧
  (¬ (shapeOk s ∧ shapeOk o ∧ shapeOk o2) → ∀ H', Same H H' → E (.ref T.C_NoShape) none H') ∧ (shapeOk s → shapeOk o → shapeOk o2 → ¬ (o.length = 3 ∧ o2.length = 3) → ∀ H', Same H H' → E (.ref T.C_NoOrder) none H') ∧
  (shapeOk s → shapeOk o → shapeOk o2 → o.length = 3 → o2.length = 3 → ¬ (1 ≤ s.length ∧ s.length ≤ 20) → ∀ H', Same H H' → E (.ref T.C_NoSize) none H') ∧ (shapeOk s → shapeOk o → shapeOk o2 → o.length = 3 → o2.length = 3 → 1 ≤ s.length ∧ s.length ≤ 20 → placesL s o ≠ [] → ∀ H', Same H H' → E (.ref T.C_HasOrder) none H')
theorem ok_led (T : Tx K mg) : FnOk P w K mg base (L2.CX P w) 12 T.f_led T.fd_led ["shape", "order", "other"] (sp_led T) := by
  refine T.F_led.okX sc_led (fun vs H Q E h => ?_) (fun cdv A outer s H vs Q E hr h => ?_)
  · obtain ⟨a, b, c, s, o, o2, rfl, _⟩ := h
    rfl
  · obtain ⟨a, b, c, s0, o, o2, rfl, hA, hB, hC, lA, lB, lC, q1, q2, q3, q4, q5⟩ := h
    refine ⟨_, (pss_cons (by exact (ps_expr (by exact (pe_call (ok_ask_shape T) (hr.mono (by decide)) (by rfl) T.g_ask_shape T.F_ask_shape.kp T.b_ask_shape .nil (passes_call (takes_of rfl rfl rfl rfl) (fun _ _ _ _ h => h)) (pa_cons (pv 0) pa_nil)))))
        (pss_cons (by exact (ps_for (passes_of rfl) rfl (pi_tup (pe_tup (pa_cons (pv 1) (pa_cons (pv 2) pa_nil)))) (pg_name (i := 3) sc_led.nd rfl (Or.inl rfl))
        (pss_one (by exact (ps_expr (by exact (pe_call (ok_ask_shape T) (hr.mono (by decide)) (by rfl) T.g_ask_shape T.F_ask_shape.kp T.b_ask_shape .nil (passes_call (takes_of rfl rfl rfl rfl) (fun _ _ _ _ h => h)) (pa_cons (pv 3) pa_nil))))))))
        (pss_cons (by exact (ps_for (passes_of rfl) rfl (pi_tup (pe_tup (pa_cons (pv 1) (pa_cons (pv 2) pa_nil)))) (pg_name (i := 3) sc_led.nd rfl (Or.inl rfl))
        (pss_one (by exact (ps_expr (by exact (pe_call (ok_ask_three T) (hr.mono (by decide)) (by rfl) T.g_ask_three T.F_ask_three.kp T.b_ask_three .nil (passes_call (takes_of rfl rfl rfl rfl) (fun _ _ _ _ h => h)) (pa_cons (pv 3) pa_nil))))))))
        (pss_cons (by exact (ps_expr (by exact (pe_call (ok_ask_without T) (hr.mono (by decide)) (by rfl) T.g_ask_without T.F_ask_without.kp T.b_ask_without .nil (passes_call (takes_of rfl rfl rfl rfl) (fun _ _ _ _ h => h)) (pa_cons (pv 0) (pa_cons (pv 1) pa_nil))))))
        (pss_one (by exact (ps_ret (by exact (pe_call (ok_made T) (hr.mono (by decide)) (by rfl) T.g_made T.F_made.kp T.b_made .nil pass0 (pa_cons (by exact (pe_callB call_lenS (by rfl) T.m_len PySem.boot_len (pa_cons (pv 0) pa_nil))) (pa_cons (pv 2) (pa_cons (by exact (pe_call (ok_numbered T) (hr.mono (by decide)) (by rfl) T.g_numbered T.F_numbered.kp T.b_numbered .nil pass0 (pa_cons (pv 0) (pa_cons (pv 1) pa_nil)))) pa_nil)))))))))))), ?_⟩
    rw [show (start ["shape", "order", "other", "some"] [V.ref a, V.ref b, V.ref c] : L2.St) = [some (V.ref a), some (V.ref b), some (V.ref c), none] from rfl]
    refine seq_intro ?_
    walk_at "r1"
    refine ⟨a, s0, rfl, hA, lA, fun k1 H1 s1 => ?_, fun z => q2 (fun w => z w.1)⟩
    refine seq_of (fun σ H' => ∃ y3, σ = [some (V.ref a), some (V.ref b), some (V.ref c), y3] ∧ Same H H' ∧ shapeOk o ∧ shapeOk o2) (fun σ H'' h => ?_) (fun U hU => ?_)
    rotate_left
    · walk_at "r1"
      refine ⟨lineLe (by simp), fun p np => ⟨⟨_, SqT.of upd_same⟩, ?_⟩⟩
      have hp : (upd H1 p (.tup [V.ref b, V.ref c])) p = some (.tup [V.ref b, V.ref c]) := upd_same
      have s5 := s1.trans (same_new (o := .tup [V.ref b, V.ref c]) np)
      generalize upd H1 p (.tup [V.ref b, V.ref c]) = H5 at hp s5 ⊢
      refine forK_tup [V.ref b, V.ref c] (fun i σ H' => ∃ y3, σ = [some (V.ref a), some (V.ref b), some (V.ref c), y3] ∧ Same H5 H' ∧ (1 ≤ i → shapeOk o) ∧ (2 ≤ i → shapeOk o2)) ⟨_, rfl, Same.refl _, fun z => by omega, fun z => by omega⟩ (fun i σ H' _ h => ?_) (fun i x σ H' hx h => ?_) (fun σ H' h => ?_)
      · obtain ⟨y3, rfl, s6, _⟩ := h
        exact SqT.of (s6 _ _ hp)
      · obtain ⟨y3, rfl, s6, g1, g2⟩ := h
        have s56 := s5.trans s6
        walk_at "r1"
        match i, hx with
        | 0, hx =>
          have e : V.ref b = x := by simpa using hx
          subst e
          exact ⟨b, o, rfl, s56.seq hB, lB, fun k H7 s7 => ⟨s6.trans s7, fun _ => k, fun z => by omega⟩, fun z H7 s7 => q2 (fun w => z w.2.1) _ (s56.trans s7)⟩
        | 1, hx =>
          have e : V.ref c = x := by simpa using hx
          subst e
          exact ⟨c, o2, rfl, s56.seq hC, lC, fun k H7 s7 => ⟨s6.trans s7, fun _ => g1 (by omega), fun _ => k⟩, fun z H7 s7 => q2 (fun w => z w.2.2) _ (s56.trans s7)⟩
        | i + 2, hx => simp at hx
      · obtain ⟨y3, rfl, s6, g1, g2⟩ := h
        exact hU _ _ ⟨_, rfl, s5.trans s6, g1 (by simp), g2 (by simp)⟩
    obtain ⟨y3, rfl, s2, k2, k3⟩ := h
    refine seq_of (fun σ H' => ∃ y3, σ = [some (V.ref a), some (V.ref b), some (V.ref c), y3] ∧ Same H H' ∧ o.length = 3 ∧ o2.length = 3) (fun σ H' h => ?_) (fun U hU => ?_)
    rotate_left
    · walk_at "r1"
      refine ⟨lineLe (by simp), fun p np => ⟨⟨_, SqT.of upd_same⟩, ?_⟩⟩
      have hp : (upd H'' p (.tup [V.ref b, V.ref c])) p = some (.tup [V.ref b, V.ref c]) := upd_same
      have s5 := s2.trans (same_new (o := .tup [V.ref b, V.ref c]) np)
      generalize upd H'' p (.tup [V.ref b, V.ref c]) = H5 at hp s5 ⊢
      refine forK_tup [V.ref b, V.ref c] (fun i σ H' => ∃ y3, σ = [some (V.ref a), some (V.ref b), some (V.ref c), y3] ∧ Same H5 H' ∧ (1 ≤ i → o.length = 3) ∧ (2 ≤ i → o2.length = 3)) ⟨_, rfl, Same.refl _, fun z => by omega, fun z => by omega⟩ (fun i σ H' _ h => ?_) (fun i x σ H' hx h => ?_) (fun σ H' h => ?_)
      · obtain ⟨y3, rfl, s6, _⟩ := h
        exact SqT.of (s6 _ _ hp)
      · obtain ⟨y3, rfl, s6, g1, g2⟩ := h
        have s56 := s5.trans s6
        walk_at "r1"
        match i, hx with
        | 0, hx =>
          have e : V.ref b = x := by simpa using hx
          subst e
          exact ⟨b, o, rfl, s56.seq hB, lB, fun _ k H7 s7 => ⟨s6.trans s7, fun _ => k, fun z => by omega⟩, fun z => absurd k2 z, fun _ z H7 s7 => q3 k1 k2 k3 (fun w => z w.1) _ (s56.trans s7)⟩
        | 1, hx =>
          have e : V.ref c = x := by simpa using hx
          subst e
          exact ⟨c, o2, rfl, s56.seq hC, lC, fun _ k H7 s7 => ⟨s6.trans s7, fun _ => g1 (by omega), fun _ => k⟩, fun z => absurd k3 z, fun _ z H7 s7 => q3 k1 k2 k3 (fun w => z w.2) _ (s56.trans s7)⟩
        | i + 2, hx => simp at hx
      · obtain ⟨y3, rfl, s6, g1, g2⟩ := h
        exact hU _ _ ⟨_, rfl, s5.trans s6, g1 (by simp), g2 (by simp)⟩
    obtain ⟨y3, rfl, s3, k4, k5⟩ := h
    refine seq_intro ?_
    walk_at "r1"
    refine ⟨a, b, s0, o, rfl, s3.seq hA, s3.seq hB, lA, by omega, fun k6 k7 H4 s4 => ?_, fun k6 z H' s => q5 k1 k2 k3 k4 k5 k6 z _ (s3.trans s), fun z H' s => q4 k1 k2 k3 k4 k5 z _ (s3.trans s)⟩
    have s34 := s3.trans s4
    obtain ⟨k8, k9, q6⟩ := q1 k1 k2 k3 k4 k5 k6 k7
    walk_at "r1"
    refine ⟨_, .inl (s34.seq hA), ?_⟩
    rw [List.length_map]
    refine ⟨a, b, s0, o, rfl, s34.seq hA, s34.seq hB, k8, fun H5 s5 => ?_⟩
    have s35 := s34.trans s5
    exact ⟨c, s0.length, numL s0 o, o2, rfl, s35.seq hC, by omega, k9, fun H6 p s6 np hp => q6 H6 p (s35.trans s6) (s35.free np) hp⟩

end
end Sh

namespace Sh
section
variable {P : Program} {w : World} {K : PySem.W.Frag} {mg : Str → Option Value} {base : Heap}
def sp__law_no_shape (T : Tx K mg) : Sp := fun vs H Q E => ∃ (c far : Int), vs = [.int c, .int far] ∧ 2 ≤ far ∧ ∀ H', Same H H' → E (.ref T.C_NoShape) none H'
theorem ok__law_no_shape (T : Tx K mg) : FnOk P w K mg base (L2.CX P w) 13 T.f__law_no_shape T.fd__law_no_shape ["cell", "far"] (sp__law_no_shape T) := by
  refine T.F__law_no_shape.okX sc__law_no_shape (fun vs H Q E h => ?_) (fun cdv A outer s H vs Q E hr h => ?_)
  · obtain ⟨c, far, rfl, _⟩ := h
    rfl
  · obtain ⟨c, far, rfl, hf, q⟩ := h
    refine ⟨_, (pss_cons (by exact (ps_set (i := 2) sc__law_no_shape.nd rfl (Or.inl rfl) (pe_ix ix_list (pe_lst (pa_cons (pe_lst (pa_cons pe_int pa_nil)) (pa_cons (pe_lst (pa_cons pe_int (pa_cons pe_int pa_nil))) (pa_cons (pe_lst (pa_cons pe_int (pa_cons pe_int pa_nil))) (pa_cons (pe_lst (pa_cons (pe_op op_sub (pe_un un_neg pe_int) (pv 1)) (pa_cons pe_int pa_nil))) (pa_cons (pe_lst (pa_cons pe_int (pa_cons pe_int (pa_cons (pe_op op_add (pe_op op_add pe_int (pv 1)) pe_int) pa_nil)))) (pa_cons (by exact (pe_listRg rfl (by rfl) T.m_list (prg_1 (by rfl) T.m_range pe_int))) (pa_cons (pe_lst (pa_cons pe_int (pa_cons pe_int (pa_cons pe_int (pa_cons pe_int pa_nil))))) pa_nil)))))))) (pe_op op_mod (pv 0) pe_int) (fun _ _ => rfl))))
        (pss_cons (by exact (ps_set (i := 3) sc__law_no_shape.nd rfl (Or.inl rfl) (pe_op op_mod (pe_op op_fdiv (pv 0) pe_int) pe_int)))
        (pss_one (by exact (ps_if (pt_cmpR (op_lt) (pv 3) pe_int (nomark _)) (pss_one (by exact (ps_expr (by exact (pe_call (ok__law_within T) (hr.mono (by decide)) (by rfl) T.g__law_within T.F__law_within.kp T.b__law_within .nil (passes_call (takes_of rfl rfl rfl rfl) (fun _ _ _ _ h => h)) (pa_cons (pv 3) (pa_cons (by exact (pe_listRg rfl (by rfl) T.m_list (prg_1 (by rfl) T.m_range pe_int))) (pa_cons (pv 2) pa_nil)))))))) (pss_one (by exact (ps_if (pt_cmpR (op_lt) (pv 3) pe_int (nomark _)) (pss_one (by exact (ps_expr (by exact (pe_call (ok__law_of_one T) (hr.mono (by decide)) (by rfl) T.g__law_of_one T.F__law_of_one.kp T.b__law_of_one .nil (passes_call (takes_of rfl rfl rfl rfl) (fun _ _ _ _ h => h)) (pa_cons (pe_op op_sub (pv 3) pe_int) (pa_cons (pv 2) pa_nil))))))) (pss_one (by exact (ps_if (pt_cmpR (op_eq) (pv 3) pe_int (nomark _)) (pss_one (by exact (ps_expr (by exact (pe_call (ok_without_at T) (hr.mono (by decide)) (by rfl) T.g_without_at T.F_without_at.kp T.b_without_at .nil (passes_call (takes_of rfl rfl rfl rfl) (fun _ _ _ _ h => h)) (pa_cons pe_int (pa_cons (pv 2) (pa_cons (pe_un un_neg pe_int) pa_nil)))))))) (pss_one (by exact (ps_if (pt_cmpR (op_eq) (pv 3) pe_int (nomark _)) (pss_one (by exact (ps_expr (by exact (pe_call (ok_number_of T) (hr.mono (by decide)) (by rfl) T.g_number_of T.F_number_of.kp T.b_number_of .nil (passes_call (takes_of rfl rfl rfl rfl) (fun _ _ _ _ h => h)) (pa_cons (pv 2) (pa_cons (pe_lst (pa_cons pe_int (pa_cons pe_int pa_nil))) pa_nil))))))) (pss_one (by exact (ps_if (pt_cmpR (op_eq) (pv 3) pe_int (nomark _)) (pss_one (by exact (ps_expr (by exact (pe_call (ok_number_of T) (hr.mono (by decide)) (by rfl) T.g_number_of T.F_number_of.kp T.b_number_of .nil (passes_call (takes_of rfl rfl rfl rfl) (fun _ _ _ _ h => h)) (pa_cons (pe_lst (pa_cons pe_int (pa_cons pe_int (pa_cons pe_int pa_nil)))) (pa_cons (pv 2) pa_nil))))))) (pss_one (by exact (ps_if (pt_cmpR (op_eq) (pv 3) pe_int (nomark _)) (pss_one (by exact (ps_expr (by exact (pe_call (ok_led T) (hr.mono (by decide)) (by rfl) T.g_led T.F_led.kp T.b_led .nil (passes_call (takes_of rfl rfl rfl rfl) (fun _ _ _ _ h => h)) (pa_cons (pv 2) (pa_cons (pe_lst (pa_cons pe_int pa_nil)) (pa_cons (pe_lst (pa_cons pe_int (pa_cons pe_int pa_nil))) pa_nil)))))))) (pss_one (by exact (ps_if (pt_cmpR (op_eq) (pv 3) pe_int (nomark _)) (pss_one (by exact (ps_expr (by exact (pe_call (ok_led T) (hr.mono (by decide)) (by rfl) T.g_led T.F_led.kp T.b_led .nil (passes_call (takes_of rfl rfl rfl rfl) (fun _ _ _ _ h => h)) (pa_cons (pe_lst pa_nil) (pa_cons (pv 2) (pa_cons (pe_lst (pa_cons pe_int (pa_cons pe_int pa_nil))) pa_nil)))))))) (pss_one (by exact (ps_expr (by exact (pe_call (ok_led T) (hr.mono (by decide)) (by rfl) T.g_led T.F_led.kp T.b_led .nil (passes_call (takes_of rfl rfl rfl rfl) (fun _ _ _ _ h => h)) (pa_cons (pe_lst (pa_cons pe_int (pa_cons pe_int (pa_cons pe_int pa_nil)))) (pa_cons (pe_lst (pa_cons pe_int (pa_cons pe_int pa_nil))) (pa_cons (pv 2) pa_nil))))))))))))))))))))))))))))))), ?_⟩
    rw [show (start ["cell", "far", "bad", "way"] [V.int c, V.int far] : L2.St) = [some (V.int c), some (V.int far), none, none] from rfl]
    walk_at "r1"
    refine seq_of (fun σ H' => ∃ (a : Addr) (ns : List Int), σ = [some (V.int c), some (V.int far), some (V.ref a), none] ∧ Same H H' ∧ H' a = some (.lst (ns.map V.int)) ∧ ¬ shapeOk ns ∧ ns.length ≤ 4000) (fun σ H' h => ?_) (fun U hU => ?_)
    rotate_left
    · walk_at "r1"
      refine ⟨lineLe (by simp), fun p0 n0 => ⟨lineLe (by simp), fun p1 n1 => ⟨lineLe (by simp), fun p2 n2 => ⟨lineLe (by simp), fun p3 n3 => ⟨lineLe (by simp), fun p4 n4 => ⟨⟨by decide, by decide, by decide, by decide, by decide⟩, fun p5 n5 => ⟨lineLe (by simp), fun p6 n6 => ⟨lineLe (by simp), fun p7 n7 => ?_⟩⟩⟩⟩⟩⟩⟩⟩
      have t := ((((((((Tr.start H).add n0 [1]).add n1 [0, 0]).add n2 [0, 2]).add n3 [-1 - far, 0]).add n4 [0, 1, 2 + far + 1]).add n5 (rangeI 31) (rgV_range 31)).add n6 [2, 1, 0, 2]).more (o := .lst [V.ref p0, V.ref p1, V.ref p2, V.ref p3, V.ref p4, V.ref p5, V.ref p6]) n7
      obtain ⟨b, hb, hP, hat⟩ := pick_of (m := c % 7) (ps := [(p0, [1]), (p1, [0, 0]), (p2, [0, 2]), (p3, [-1 - far, 0]), (p4, [0, 1, 2 + far + 1]), (p5, rangeI 31), (p6, [2, 1, 0, 2])]) 7 (fun xs => ¬ shapeOk xs ∧ xs.length ≤ 4000) (by omega) (by omega) rfl (fun xs hx => by
        simp only [List.map_cons, List.map_nil, List.mem_cons, List.not_mem_nil, or_false] at hx
        rcases hx with rfl | rfl | rfl | rfl | rfl | rfl | rfl
        · exact ⟨by decide, by decide⟩
        · exact ⟨by decide, by decide⟩
        · exact ⟨by decide, by decide⟩
        · exact ⟨notShape (x := -1 - far) (by simp) (by simp; omega), by simp⟩
        · exact ⟨notShape (x := 2 + far + 1) (by simp) (by simp; omega), by simp⟩
        · exact ⟨shape_long (by rw [rangeI_len]; decide), by rw [rangeI_len]; decide⟩
        · exact ⟨by decide, by decide⟩)
      exact ⟨_, SqL.of upd_same, _, hat, hU _ _ ⟨b.1, b.2, rfl, t.sm, t.at_ b hb, hP⟩⟩
    obtain ⟨a, ns, rfl, s0, ha, no, hl⟩ := h
    refine seq_intro ?_
    walk_at "r1"
    obtain ⟨w, hw⟩ : ∃ w : Int, c / 7 % 17 = w := ⟨_, rfl⟩
    rw [hw]
    refine ite2 (fun cc => ?_) (fun cc => ?_)
    · refine ⟨⟨by decide, by decide, by decide, by decide, by decide⟩, fun r nr => ?_⟩
      have sr := same_new (o := .lst (rgV 0 13)) nr
      exact ⟨w, r, a, T.C_NoShape, rangeI 13, ns, rfl, by rw [show rgV 0 13 = (rangeI 13).map V.int from rgV_range 13]; exact SqL.of upd_same, SqL.of (sr _ _ ha), by rw [rangeI_len]; decide, hl, .inr (.inl ⟨rangeI_row (by decide), no, rfl⟩), fun _ s1 => q _ (s0.trans (sr.trans s1))⟩
    refine ite2 (fun cc => ?_) (fun cc => ?_)
    · exact ⟨w - 3, a, ns, rfl, SqL.of ha, hl, no, fun _ s1 => q _ (s0.trans s1)⟩
    refine ⟨rfl, ite2 (fun ce => ?_) (fun ce => ⟨rfl, ite2 (fun cf => ?_) (fun cf => ⟨rfl, ite2 (fun cg => ?_) (fun cg => ⟨rfl, ite2 (fun ch => ?_) (fun ch => ⟨rfl, ite2 (fun ci => ?_) (fun ci => ?_)⟩)⟩)⟩)⟩)⟩
    · exact ⟨a, 99, -1, ns, rfl, SqL.of ha, hl, fun z => absurd z no, fun _ _ s1 => q _ (s0.trans s1), fun z => absurd z no, fun z => absurd z no, fun z => absurd z no⟩
    · refine ⟨lineLe (by simp), fun p0 n0 => ?_⟩
      have t := (Tr.start H').add n0 [0, 0]
      exact ⟨a, p0, ns, [0, 0], rfl, SqL.of (t.sm _ _ ha), SqL.of upd_same, hl, by simp, fun z => absurd z no, fun _ _ s1 => q _ (s0.trans (t.sm.trans s1)), fun z => absurd z no, fun z => absurd z no, fun z => absurd z no, fun z => absurd z no⟩
    · refine ⟨lineLe (by simp), fun p0 n0 => ?_⟩
      have t := (Tr.start H').add n0 [0, 1, 2]
      have o012 : shapeOk [0, 1, 2] := by decide
      exact ⟨p0, a, [0, 1, 2], ns, rfl, SqL.of upd_same, SqL.of (t.sm _ _ ha), by simp, hl, fun _ z => absurd z no, fun z => absurd o012 z, fun _ _ _ s1 => q _ (s0.trans (t.sm.trans s1)), fun _ z => absurd z no, fun _ z => absurd z no, fun _ z => absurd z no⟩
    · refine ⟨lineLe (by simp), fun p0 n0 => ⟨lineLe (by simp), fun p1 n1 => ?_⟩⟩
      have t := ((Tr.start H').add n0 [0]).add n1 [1, 0]
      exact ⟨a, p0, p1, ns, [0], [1, 0], rfl, SqL.of (t.sm _ _ ha), SqL.of (t.at_ (p0, [0]) (by simp)), SqL.of upd_same, hl, by simp, by simp, fun z => absurd z no, fun _ _ s1 => q _ (s0.trans (t.sm.trans s1)), fun z => absurd z no, fun z => absurd z no, fun z => absurd z no⟩
    · refine ⟨lineLe (by simp), fun p0 n0 => ⟨lineLe (by simp), fun p1 n1 => ?_⟩⟩
      have t := ((Tr.start H').add n0 []).add n1 [0, 1]
      exact ⟨p0, a, p1, [], ns, [0, 1], rfl, SqL.of (t.at_ (p0, []) (by simp)), SqL.of (t.sm _ _ ha), SqL.of upd_same, by simp, hl, by simp, fun _ z => absurd z no, fun _ _ s1 => q _ (s0.trans (t.sm.trans s1)), fun _ z => absurd z no, fun _ z => absurd z no, fun _ z => absurd z no⟩
    · refine ⟨lineLe (by simp), fun p0 n0 => ⟨lineLe (by simp), fun p1 n1 => ?_⟩⟩
      have t := ((Tr.start H').add n0 [0, 1, 2]).add n1 [0, 1]
      exact ⟨p0, p1, a, [0, 1, 2], [0, 1], ns, rfl, SqL.of (t.at_ (p0, [0, 1, 2]) (by simp)), SqL.of upd_same, SqL.of (t.sm _ _ ha), by simp, by simp, hl, fun _ _ z => absurd z no, fun _ _ s1 => q _ (s0.trans (t.sm.trans s1)), fun _ _ z => absurd z no, fun _ _ z => absurd z no, fun _ _ z => absurd z no⟩

end
end Sh

namespace Sh
section
variable {P : Program} {w : World} {K : PySem.W.Frag} {mg : Str → Option Value} {base : Heap}
def sp__law_no_order (T : Tx K mg) : Sp := fun vs H Q E => ∃ (c far : Int), vs = [.int c, .int far] ∧ 2 ≤ far ∧ ∀ H', Same H H' → E (.ref T.C_NoOrder) none H'
theorem ok__law_no_order (T : Tx K mg) : FnOk P w K mg base (L2.CX P w) 13 T.f__law_no_order T.fd__law_no_order ["cell", "far"] (sp__law_no_order T) := by
  refine T.F__law_no_order.okX sc__law_no_order (fun vs H Q E h => ?_) (fun cdv A outer s H vs Q E hr h => ?_)
  · obtain ⟨c, far, rfl, _⟩ := h
    rfl
  · obtain ⟨c, far, rfl, hf, q⟩ := h
    refine ⟨_, (pss_cons (by exact (ps_set (i := 2) sc__law_no_order.nd rfl (Or.inl rfl) (pe_ix ix_list (pe_lst (pa_cons (pe_lst pa_nil) (pa_cons (pe_lst (pa_cons pe_int (pa_cons pe_int (pa_cons pe_int (pa_cons pe_int (pa_cons pe_int pa_nil)))))) (pa_cons (pe_lst (pa_cons pe_int (pa_cons pe_int (pa_cons pe_int (pa_cons pe_int (pa_cons pe_int (pa_cons pe_int pa_nil))))))) pa_nil)))) (pe_op op_mod (pv 0) pe_int) (fun _ _ => rfl))))
        (pss_cons (by exact (ps_set (i := 3) sc__law_no_order.nd rfl (Or.inl rfl) (pe_ix ix_list (pe_lst (pa_cons (pe_lst (pa_cons pe_int pa_nil)) (pa_cons (pe_lst (pa_cons pe_int (pa_cons pe_int pa_nil))) (pa_cons (pe_lst (pa_cons pe_int (pa_cons pe_int (pa_cons pe_int (pa_cons pe_int pa_nil))))) (pa_cons (pe_lst (pa_cons pe_int (pa_cons pe_int pa_nil))) (pa_cons (pe_lst (pa_cons pe_int (pa_cons pe_int (pa_cons pe_int (pa_cons pe_int pa_nil))))) (pa_cons (pe_lst pa_nil) pa_nil))))))) (pe_op op_mod (pe_op op_fdiv (pv 0) pe_int) pe_int) (fun _ _ => rfl))))
        (pss_cons (by exact (ps_set (i := 4) sc__law_no_order.nd rfl (Or.inl rfl) (pe_op op_mod (pe_op op_fdiv (pv 0) pe_int) pe_int)))
        (pss_one (by exact (ps_if (pt_cmpR (op_lt) (pv 4) pe_int (nomark _)) (pss_one (by exact (ps_expr (by exact (pe_call (ok__law_within T) (hr.mono (by decide)) (by rfl) T.g__law_within T.F__law_within.kp T.b__law_within .nil (passes_call (takes_of rfl rfl rfl rfl) (fun _ _ _ _ h => h)) (pa_cons (pv 4) (pa_cons (by exact (pe_listRg rfl (by rfl) T.m_list (prg_1 (by rfl) T.m_range pe_int))) (pa_cons (pv 2) pa_nil)))))))) (pss_one (by exact (ps_if (pt_cmpR (op_eq) (pv 4) pe_int (nomark _)) (pss_one (by exact (ps_expr (by exact (pe_call (ok_without_at T) (hr.mono (by decide)) (by rfl) T.g_without_at T.F_without_at.kp T.b_without_at .nil (passes_call (takes_of rfl rfl rfl rfl) (fun _ _ _ _ h => h)) (pa_cons pe_int (pa_cons (pv 3) (pa_cons (pe_un un_neg pe_int) pa_nil)))))))) (pss_one (by exact (ps_if (pt_cmpR (op_eq) (pv 4) pe_int (nomark _)) (pss_one (by exact (ps_expr (by exact (pe_call (ok_number_of T) (hr.mono (by decide)) (by rfl) T.g_number_of T.F_number_of.kp T.b_number_of .nil (passes_call (takes_of rfl rfl rfl rfl) (fun _ _ _ _ h => h)) (pa_cons (pe_lst pa_nil) (pa_cons (pv 3) pa_nil))))))) (pss_one (by exact (ps_if (pt_cmpR (op_eq) (pv 4) pe_int (nomark _)) (pss_one (by exact (ps_expr (by exact (pe_call (ok_led T) (hr.mono (by decide)) (by rfl) T.g_led T.F_led.kp T.b_led .nil (passes_call (takes_of rfl rfl rfl rfl) (fun _ _ _ _ h => h)) (pa_cons (pe_lst (pa_cons pe_int (pa_cons pe_int (pa_cons pe_int pa_nil)))) (pa_cons (pv 3) (pa_cons (pe_lst (pa_cons pe_int (pa_cons pe_int (pa_cons pe_int pa_nil)))) pa_nil)))))))) (pss_one (by exact (ps_expr (by exact (pe_call (ok_led T) (hr.mono (by decide)) (by rfl) T.g_led T.F_led.kp T.b_led .nil (passes_call (takes_of rfl rfl rfl rfl) (fun _ _ _ _ h => h)) (pa_cons (pe_lst pa_nil) (pa_cons (pe_lst (pa_cons pe_int (pa_cons pe_int (pa_cons pe_int pa_nil)))) (pa_cons (pv 3) pa_nil))))))))))))))))))))))), ?_⟩
    rw [show (start ["cell", "far", "bad", "three", "way"] [V.int c, V.int far] : L2.St) = [some (V.int c), some (V.int far), none, none, none] from rfl]
    walk_at "r1"
    refine seq_of (fun σ H' => ∃ (a : Addr) (ns : List Int), σ = [some (V.int c), some (V.int far), some (V.ref a), none, none] ∧ Same H H' ∧ H' a = some (.lst (ns.map V.int)) ∧ shapeOk ns ∧ ¬ (1 ≤ ns.length ∧ ns.length ≤ 4) ∧ ns.length ≤ 4000) (fun σ H' h => ?_) (fun U hU => ?_)
    rotate_left
    · walk_at "r1"
      refine ⟨lineLe (by simp), fun p0 n0 => ⟨lineLe (by simp), fun p1 n1 => ⟨lineLe (by simp), fun p2 n2 => ⟨lineLe (by simp), fun p3 n3 => ?_⟩⟩⟩⟩
      have t := ((((Tr.start H).add n0 []).add n1 [0, 1, 2, 3, 4]).add n2 [4, 3, 2, 1, 0, 5]).more (o := .lst [V.ref p0, V.ref p1, V.ref p2]) n3
      obtain ⟨b, hb, hP, hat⟩ := pick_of (m := c % 3) (ps := [(p0, []), (p1, [0, 1, 2, 3, 4]), (p2, [4, 3, 2, 1, 0, 5])]) 3 (fun xs => shapeOk xs ∧ ¬ (1 ≤ xs.length ∧ xs.length ≤ 4) ∧ xs.length ≤ 4000) (by omega) (by omega) rfl (fun xs hx => by
        simp only [List.map_cons, List.map_nil, List.mem_cons, List.not_mem_nil, or_false] at hx
        rcases hx with rfl | rfl | rfl <;> exact ⟨by decide, by decide, by decide⟩)
      exact ⟨_, SqL.of upd_same, _, hat, hU _ _ ⟨b.1, b.2, rfl, t.sm, t.at_ b hb, hP⟩⟩
    obtain ⟨a, ns, rfl, s0, ha, so, no, hl⟩ := h
    refine seq_of (fun σ H' => ∃ (d : Addr) (os : List Int), σ = [some (V.int c), some (V.int far), some (V.ref a), some (V.ref d), none] ∧ Same H H' ∧ H' a = some (.lst (ns.map V.int)) ∧ H' d = some (.lst (os.map V.int)) ∧ shapeOk os ∧ ¬ os.length = 3 ∧ os.length ≤ 4000) (fun σ H1 h => ?_) (fun U hU => ?_)
    rotate_left
    · walk_at "r1"
      refine ⟨lineLe (by simp), fun p0 n0 => ⟨lineLe (by simp), fun p1 n1 => ⟨lineLe (by simp), fun p2 n2 => ⟨lineLe (by simp), fun p3 n3 => ⟨lineLe (by simp), fun p4 n4 => ⟨lineLe (by simp), fun p5 n5 => ⟨lineLe (by simp), fun p6 n6 => ?_⟩⟩⟩⟩⟩⟩⟩
      have t := (((((((Tr.start H').add n0 [0]).add n1 [0, 1]).add n2 [0, 1, 2, 3]).add n3 [1, 0]).add n4 [2, 0, 3, 1]).add n5 []).more (o := .lst [V.ref p0, V.ref p1, V.ref p2, V.ref p3, V.ref p4, V.ref p5]) n6
      obtain ⟨b, hb, hP, hat⟩ := pick_of (m := c / 3 % 6) (ps := [(p0, [0]), (p1, [0, 1]), (p2, [0, 1, 2, 3]), (p3, [1, 0]), (p4, [2, 0, 3, 1]), (p5, [])]) 6 (fun xs => shapeOk xs ∧ ¬ xs.length = 3 ∧ xs.length ≤ 4000) (by omega) (by omega) rfl (fun xs hx => by
        simp only [List.map_cons, List.map_nil, List.mem_cons, List.not_mem_nil, or_false] at hx
        rcases hx with rfl | rfl | rfl | rfl | rfl | rfl <;> exact ⟨by decide, by decide, by decide⟩)
      exact ⟨_, SqL.of upd_same, _, hat, hU _ _ ⟨b.1, b.2, rfl, s0.trans t.sm, t.sm _ _ ha, t.at_ b hb, hP⟩⟩
    obtain ⟨d, os, rfl, s1, ha1, hd1, so3, no3, hl3⟩ := h
    refine seq_intro ?_
    walk_at "r1"
    obtain ⟨w, hw⟩ : ∃ w : Int, c / 18 % 7 = w := ⟨_, rfl⟩
    rw [hw]
    have o012 : shapeOk [0, 1, 2] := by decide
    refine ite2 (fun cc => ?_) (fun cc => ?_)
    · refine ⟨⟨by decide, by decide, by decide, by decide, by decide⟩, fun r nr => ?_⟩
      have sr := same_new (o := .lst (rgV 0 13)) nr
      exact ⟨w, r, a, T.C_NoOrder, rangeI 13, ns, rfl, by rw [show rgV 0 13 = (rangeI 13).map V.int from rgV_range 13]; exact SqL.of upd_same, SqL.of (sr _ _ ha1), by rw [rangeI_len]; decide, hl, .inr (.inr (.inl ⟨rangeI_row (by decide), so, no, rfl⟩)), fun _ s2 => q _ (s1.trans (sr.trans s2))⟩
    refine ⟨rfl, ite2 (fun ce => ?_) (fun ce => ⟨rfl, ite2 (fun cf => ?_) (fun cf => ⟨rfl, ite2 (fun cg => ?_) (fun cg => ?_)⟩)⟩)⟩
    · exact ⟨d, 0, -1, os, rfl, SqL.of hd1, hl3, fun _ z => absurd z no3, fun z => absurd so3 z, fun _ _ _ s2 => q _ (s1.trans s2), fun _ z => absurd z no3, fun _ z => absurd z no3⟩
    · refine ⟨lineLe (by simp), fun p0 n0 => ?_⟩
      have t := (Tr.start H1).add n0 []
      have o0 : shapeOk [] := by decide
      exact ⟨p0, d, [], os, rfl, SqL.of upd_same, SqL.of (t.sm _ _ hd1), by simp, hl3, fun _ _ z => absurd z no3, fun z => absurd o0 z, fun _ z => absurd so3 z, fun _ _ _ _ s2 => q _ (s1.trans (t.sm.trans s2)), fun _ _ z => absurd z no3, fun _ _ z => absurd z no3⟩
    · refine ⟨lineLe (by simp), fun p0 n0 => ⟨lineLe (by simp), fun p1 n1 => ?_⟩⟩
      have t := ((Tr.start H1).add n0 [0, 1, 2]).add n1 [0, 1, 2]
      exact ⟨p0, d, p1, [0, 1, 2], os, [0, 1, 2], rfl, SqL.of (t.at_ (p0, [0, 1, 2]) (by simp)), SqL.of (t.sm _ _ hd1), SqL.of upd_same, by simp, hl3, by simp, fun _ _ _ z => absurd z no3, fun z => absurd ⟨o012, so3, o012⟩ z, fun _ _ _ _ _ s2 => q _ (s1.trans (t.sm.trans s2)), fun _ _ _ z => absurd z no3, fun _ _ _ z => absurd z no3⟩
    · refine ⟨lineLe (by simp), fun p0 n0 => ⟨lineLe (by simp), fun p1 n1 => ?_⟩⟩
      have t := ((Tr.start H1).add n0 []).add n1 [0, 1, 2]
      have o0 : shapeOk [] := by decide
      exact ⟨p0, p1, d, [], [0, 1, 2], os, rfl, SqL.of (t.at_ (p0, []) (by simp)), SqL.of upd_same, SqL.of (t.sm _ _ hd1), by simp, by simp, hl3, fun _ _ _ _ z => absurd z no3, fun z => absurd ⟨o0, o012, so3⟩ z, fun _ _ _ _ _ s2 => q _ (s1.trans (t.sm.trans s2)), fun _ _ _ _ z => absurd z no3, fun _ _ _ _ z => absurd z no3⟩

end
end Sh

namespace Sh
section
variable {P : Program} {w : World} {K : PySem.W.Frag} {mg : Str → Option Value} {base : Heap}
def sp_many_falls (T : Tx K mg) : Sp := fun vs H Q E => ∃ (n w : Int), vs = [.int n, .int w] ∧ (1 ≤ n ∧ n ≤ 20 → 0 ≤ w → ∀ H', Same H H' → Q (.int ((frow (n.toNat - 1)).getD w.toNat 0)) H') ∧ (¬ (1 ≤ n ∧ n ≤ 20) → E (.ref T.C_NoSize) none H) ∧ (1 ≤ n ∧ n ≤ 20 → w < 0 → E (.ref T.C_NoNumber) none H)
theorem ok_many_falls (T : Tx K mg) : FnOk P w K mg base (L2.CX P w) 2 T.f_many_falls T.fd_many_falls ["size", "wanted"] (sp_many_falls T) := by
  refine T.F_many_falls.okX sc_many_falls (fun vs H Q E h => ?_) (fun cdv A outer s H vs Q E hr h => ?_)
  · obtain ⟨n, w, rfl, _⟩ := h
    rfl
  · obtain ⟨n, w, rfl, q1, q2, q3⟩ := h
    refine ⟨_, (pss_cons (by exact (ps_expr (by exact (pe_call (ok_ask_size T) (hr.mono (by decide)) (by rfl) T.g_ask_size T.F_ask_size.kp T.b_ask_size .nil (passes_call (takes_of rfl rfl rfl rfl) (fun _ _ _ _ h => h)) (pa_cons (pv 0) pa_nil)))))
        (pss_cons (by exact (ps_if (pt_cmpR (op_lt) (pv 1) pe_int (nomark _)) (pss_one (by exact (ps_raise rfl (takes_of rfl rfl rfl rfl) (pmk_own PySem.F.excBase_ValueError T.x_NoNumber T.gC_NoNumber T.kC_NoNumber (raises_own T.bC_NoNumber T.tC_NoNumber) (by exact rfl))))) pss_nil))
        (pss_cons (by exact (ps_set (i := 2) sc_many_falls.nd rfl (Or.inr rfl) (pe_lst (pa_cons pe_int pa_nil))))
        (pss_cons (by exact (ps_for (passes_of rfl) rfl (pi_range2 rfl T.m_range (pa_cons pe_int (pa_cons (pe_op op_add (pv 0) pe_int) pa_nil))) (pg_name (i := 3) sc_many_falls.nd rfl (Or.inr rfl))
        (pss_cons (by exact (ps_set (i := 2) sc_many_falls.nd rfl (Or.inr rfl) (pe_op op_cat (pv 2) (pe_lst (pa_cons pe_int pa_nil)))))
        (pss_one (by exact (ps_set (i := 2) sc_many_falls.nd rfl (Or.inr rfl) (by exact (pe_lc (own := [("j", 4)]) (g := gName 4) (tt := tYes) (te := (tOp (rI0 fun i j => .int (i + j)) (tOp (rI CMul fun i j => .int (i * j)) (tOp (rI0 fun i j => .int (i + j)) (tVar 4) (tC (.int 1))) (tOp (rIxL K) (tVar 2) (tVar 4))) (tOp (rI CMul fun i j => .int (i * j)) (tOp (rI0 fun i j => .int (i - j)) (tVar 3) (tVar 4)) (tIf (tTest (tOp (rI0 fun i j => .bl (decide (j < i))) (tVar 4) (tC (.int 0)))) (tOp (rIxL K) (tVar 2) (tOp (rI0 fun i j => .int (i - j)) (tVar 4) (tC (.int 1)))) (tC (.int 0)))))) rfl sc_many_falls.nd (pi_range1 rfl T.m_range (pa_cons (by exact (pe_callB call_lenS (by rfl) T.m_len PySem.boot_len (pa_cons (pv 2) pa_nil))) pa_nil)) (blkOk_by (N := ["size", "wanted", "row", "k", "j"]) (sc := defScope s_many_falls) (by decide +kernel)) (fun _ _ _ _ _ => by exact (pg_name (i := 4) sc_many_falls.nd rfl (by first | exact Or.inl rfl | exact Or.inr rfl))) (fun _ _ _ _ _ => pts_nil) (fun _ _ _ _ _ => by exact (pe_op op_add (pe_op op_mul (pe_op op_add (pv 4) pe_int) (pe_ix ix_list (pv 2) (pv 4) (fun _ _ => rfl))) (pe_op op_mul (pe_op op_sub (pv 3) (pv 4)) (by exact (pe_ifExp (pt_cmpR (op_gt) (pv 4) pe_int (nomark _)) (pe_ix ix_list (pv 2) (pe_op op_sub (pv 4) pe_int) (fun _ _ => rfl)) pe_int)))))))))))))
        (pss_one (by exact (ps_ret (by exact (pe_ifExp (pt_cmpR (op_lt) (pv 1) (by exact (pe_callB call_lenS (by rfl) T.m_len PySem.boot_len (pa_cons (pv 2) pa_nil))) (nomark _)) (pe_ix ix_list (pv 2) (pv 1) (fun _ _ => rfl)) pe_int))))))))), ?_⟩
    rw [show (start ["size", "wanted", "row", "k", "j"] [V.int n, V.int w] : L2.St) = [some (V.int n), some (V.int w), none, none, none] from rfl]
    walk_at "rd"
    refine ⟨n, rfl, fun ok => ?_, q2⟩
    walk_at "rd"
    refine ite2 (fun c => q3 ok c) (fun c => ?_)
    obtain ⟨m, rfl⟩ : ∃ m : Nat, n = ((m + 1 : Nat) : Int) := ⟨n.toNat - 1, by omega⟩
    obtain ⟨v, rfl⟩ : ∃ v : Nat, w = (v : Int) := ⟨w.toNat, by omega⟩
    have em : ((m + 1 : Nat) : Int).toNat - 1 = m := by omega
    rw [em, Int.toNat_natCast] at q1
    have en : (((m + 1 : Nat) : Int) + 1 - 2).toNat = m := by omega
    rw [en]
    refine ⟨lineLe (by simp), fun r0 nr0 => ⟨by omega, by omega, by omega, by omega, ?_⟩⟩
    refine forK_range (fun i σ H' => ∃ (r : Addr) (y3 : Option V), σ = [some (V.int ((m + 1 : Nat) : Int)), some (V.int v), some (V.ref r), y3, none] ∧ Same H H' ∧ H r = none ∧ H' r = some (.lst ((frow i).map V.int)))
      ⟨r0, none, rfl, same_new nr0, nr0, upd_same⟩ (fun i σ H' hi h => ?_) (fun σ H' h => ?_)
    · obtain ⟨r, y3, rfl, s1, nr, hr⟩ := h
      have fl := frow_len i
      walk_at "rd"
      refine ⟨lineLe (by simp), fun p1 np1 => ⟨_, same_new np1 _ _ hr, _, upd_same, lineLe (by simp; omega), fun r1 nr1 => ?_⟩⟩
      have hr1 : (upd (upd H' p1 (.lst [V.int 0])) r1 (.lst ((frow i).map V.int ++ [V.int 0]))) r1 = some (.lst ((frow i ++ [0]).map V.int)) := by rw [upd_same]; simp
      have s2 := (s1.trans (same_new (o := .lst [V.int 0]) np1)).trans (same_new (o := .lst ((frow i).map V.int ++ [V.int 0])) nr1)
      have nr1' : H r1 = none := (s1.trans (same_new np1)).free nr1
      generalize (upd (upd H' p1 (.lst [V.int 0])) r1 (.lst ((frow i).map V.int ++ [V.int 0]))) = H2 at hr1 s2 ⊢
      refine ⟨_, .inl (SqL.of hr1), ?_⟩
      walk_at "rd"
      refine ⟨by simp; omega, by simp; omega, fun D nD => ?_⟩
      refine lcK_mapR (fun j => V.int (fcell (i + 2) (frow i) j)) nD (by simp; omega) (fun j acc H3 QT hj hs hD hq => ?_) (fun H3 hs hD => ?_)
      · rw [List.length_append, List.length_singleton] at hj
        have hA : SqL K H3 r1 ((frow i ++ [0]).map V.int) := hs.seq (SqL.of hr1)
        walk_at "rd"
        refine ⟨_, hA, _, atI_ints (by omega) (by simp; omega), _, rfl, .inl ⟨by omega, by omega⟩, ?_⟩
        rw [Int.toNat_natCast]
        have e1 : (i + 2 : Nat) = (i + 2 : Nat) := rfl
        have goal : ∀ z : Int, z = (if 0 < j then (frow i ++ [0]).getD (j - 1) 0 else 0) → QT (V.int (((j : Int) + 1) * (frow i ++ [0]).getD j 0 + (2 + (i : Int) - (j : Int)) * z)) H3 := fun z hz => by
          have := hq H3 hs hD
          unfold fcell at this
          rw [← hz] at this
          have e : (((i + 2 : Nat) : Int) - (j : Int)) = 2 + (i : Int) - (j : Int) := by omega
          rw [e] at this
          exact this
        refine ite2 (fun c => ?_) (fun c => ?_)
        · refine ⟨_, hA, _, atI_ints (by omega) (by simp; omega), _, rfl, .inl ⟨by omega, by omega⟩, ?_⟩
          refine goal _ ?_
          rw [if_pos (by omega)]
          congr 1
          omega
        · exact ⟨.inl ⟨by omega, by omega⟩, goal _ (by rw [if_neg (by omega)])⟩
      · refine ⟨s2.trans hs, s2.free nD, ?_⟩
        rw [hD, frow, fstep, List.map_map, List.length_append]
        rfl
    · obtain ⟨r, y3, rfl, s1, nr, hr⟩ := h
      walk_at "rd"
      refine ⟨_, .inl (SqL.of hr), ?_⟩
      walk_at "rd"
      refine ite2 (fun c => ⟨_, SqL.of hr, _, atI_ints (by omega) (by omega), ?_⟩) (fun c => ?_)
      · exact q1 ok (by omega) _ s1
      · have := q1 ok (by omega) _ s1
        rw [List.getD_eq_getElem?_getD, List.getElem?_eq_none (by omega)] at this
        exact this

end
end Sh

namespace Sh
section
variable {P : Program} {w : World} {K : PySem.W.Frag} {mg : Str → Option Value} {base : Heap}
def sp_many_wrong (T : Tx K mg) : Sp := fun vs H Q E => ∃ (n w : Int), vs = [.int n, .int w] ∧ (1 ≤ n ∧ n ≤ 20 → 0 ≤ w → ∀ H', Same H H' → Q (.int ((wrow (n.toNat - 1)).getD w.toNat 0)) H') ∧ (¬ (1 ≤ n ∧ n ≤ 20) → E (.ref T.C_NoSize) none H) ∧ (1 ≤ n ∧ n ≤ 20 → w < 0 → E (.ref T.C_NoNumber) none H)
theorem ok_many_wrong (T : Tx K mg) : FnOk P w K mg base (L2.CX P w) 2 T.f_many_wrong T.fd_many_wrong ["size", "wanted"] (sp_many_wrong T) := by
  refine T.F_many_wrong.okX sc_many_wrong (fun vs H Q E h => ?_) (fun cdv A outer s H vs Q E hr h => ?_)
  · obtain ⟨n, w, rfl, _⟩ := h
    rfl
  · obtain ⟨n, w, rfl, q1, q2, q3⟩ := h
    refine ⟨_, (pss_cons (by exact (ps_expr (by exact (pe_call (ok_ask_size T) (hr.mono (by decide)) (by rfl) T.g_ask_size T.F_ask_size.kp T.b_ask_size .nil (passes_call (takes_of rfl rfl rfl rfl) (fun _ _ _ _ h => h)) (pa_cons (pv 0) pa_nil)))))
        (pss_cons (by exact (ps_if (pt_cmpR (op_lt) (pv 1) pe_int (nomark _)) (pss_one (by exact (ps_raise rfl (takes_of rfl rfl rfl rfl) (pmk_own PySem.F.excBase_ValueError T.x_NoNumber T.gC_NoNumber T.kC_NoNumber (raises_own T.bC_NoNumber T.tC_NoNumber) (by exact rfl))))) pss_nil))
        (pss_cons (by exact (ps_set (i := 2) sc_many_wrong.nd rfl (Or.inl rfl) (pe_lst (pa_cons pe_int pa_nil))))
        (pss_cons (by exact (ps_for (passes_of rfl) rfl (pi_range2 rfl T.m_range (pa_cons pe_int (pa_cons (pe_op op_add (pv 0) pe_int) pa_nil))) (pg_name (i := 3) sc_many_wrong.nd rfl (Or.inl rfl))
        (pss_cons (by exact (ps_set (i := 4) sc_many_wrong.nd rfl (Or.inl rfl) (pe_op op_rep (pe_lst (pa_cons pe_int pa_nil)) (pe_op op_sub (pe_op op_add (by exact (pe_callB call_lenS (by rfl) T.m_len PySem.boot_len (pa_cons (pv 2) pa_nil))) (pv 3)) pe_int))))
        (pss_cons (by exact (ps_for (passes_of rfl) rfl (pi_range1 rfl T.m_range (pa_cons (by exact (pe_callB call_lenS (by rfl) T.m_len PySem.boot_len (pa_cons (pv 2) pa_nil))) pa_nil)) (pg_name (i := 5) sc_many_wrong.nd rfl (Or.inl rfl))
        (pss_one (by exact (ps_for (passes_of rfl) rfl (pi_range1 rfl T.m_range (pa_cons (pv 3) pa_nil)) (pg_name (i := 6) sc_many_wrong.nd rfl (Or.inl rfl))
        (pss_one (by exact (ps_asg (pe_op op_add (pe_ix ix_list (pv 4) (pe_op op_add (pv 5) (pv 6)) (fun _ _ => rfl)) (pe_ix ix_list (pv 2) (pv 5) (fun _ _ => rfl))) (pg_sub (pv 4) (pe_op op_add (pv 5) (pv 6)) set_list)))))))))
        (pss_one (by exact (ps_set (i := 2) sc_many_wrong.nd rfl (Or.inl rfl) (pv 4))))))))
        (pss_one (by exact (ps_ret (by exact (pe_ifExp (pt_cmpR (op_lt) (pv 1) (by exact (pe_callB call_lenS (by rfl) T.m_len PySem.boot_len (pa_cons (pv 2) pa_nil))) (nomark _)) (pe_ix ix_list (pv 2) (pv 1) (fun _ _ => rfl)) pe_int))))))))), ?_⟩
    rw [show (start ["size", "wanted", "row", "k", "longer", "j", "step"] [V.int n, V.int w] : L2.St) = [some (V.int n), some (V.int w), none, none, none, none, none] from rfl]
    walk_at "rd"
    refine ⟨n, rfl, fun ok => ?_, q2⟩
    walk_at "rd"
    refine ite2 (fun c => q3 ok c) (fun c => ?_)
    obtain ⟨m, rfl⟩ : ∃ m : Nat, n = ((m + 1 : Nat) : Int) := ⟨n.toNat - 1, by omega⟩
    obtain ⟨v, rfl⟩ : ∃ v : Nat, w = (v : Int) := ⟨w.toNat, by omega⟩
    have em : ((m + 1 : Nat) : Int).toNat - 1 = m := by omega
    rw [em, Int.toNat_natCast] at q1
    have en : (((m + 1 : Nat) : Int) + 1 - 2).toNat = m := by omega
    rw [en]
    refine ⟨lineLe (by simp), fun r0 nr0 => ⟨by omega, by omega, by omega, by omega, ?_⟩⟩
    refine forK_range (fun i σ H' => ∃ (r : Addr) (y3 y4 y5 y6 : Option V), σ = [some (V.int ((m + 1 : Nat) : Int)), some (V.int v), some (V.ref r), y3, y4, y5, y6] ∧ Same H H' ∧ H r = none ∧ H' r = some (.lst ((wrow i).map V.int)))
      ⟨r0, _, _, _, _, rfl, same_new nr0, nr0, upd_same⟩ (fun i σ H' hi h => ?_) (fun σ H' h => ?_)
    · obtain ⟨r, y3, y4, y5, y6, rfl, s1, nr, hr⟩ := h
      have fl := wrow_len i
      have ft := tri_le i (by omega)
      walk_at "rd"
      refine ⟨lineLe (by simp), fun p1 np1 => ?_⟩
      refine ⟨_, .inl (SqL.of (same_new np1 _ _ hr)), ?_⟩
      walk_at "rd"
      obtain ⟨L, hL, eL⟩ : ∃ L : Nat, ((wrow i).length : Int) + (2 + (i : Int)) - 1 = (L : Int) ∧ L = (wrow i).length + (i + 2) - 1 := ⟨(wrow i).length + (i + 2) - 1, by omega, rfl⟩
      rw [hL]
      have hrep : (List.replicate L [V.int 0]).flatten = (wrows (wrow i) (i + 2) 0).map V.int := by
        rw [wrows, ← eL, List.map_replicate]
        clear hL eL
        induction L with
        | zero => rfl
        | succ L ih => rw [List.replicate_succ, List.flatten_cons, ih]; rfl
      refine ⟨_, upd_same, by omega, by omega, lineLe (by simp; omega), fun g ng => ?_⟩
      rw [Int.toNat_natCast]
      rw [hrep]
      have s2 := (s1.trans (same_new (o := .lst [V.int 0]) np1))
      have hr2 := same_new (o := .lst ((wrows (wrow i) (i + 2) 0).map V.int)) ng _ _ (same_new (o := .lst [V.int 0]) np1 _ _ hr)
      have hg2 : (upd (upd H' p1 (.lst [V.int 0])) g (.lst ((wrows (wrow i) (i + 2) 0).map V.int))) g = some (.lst ((wrows (wrow i) (i + 2) 0).map V.int)) := upd_same
      have ng' : H g = none := s2.free ng
      have hrg : r ≠ g := ne_of_none (same_new (o := .lst [V.int 0]) np1 _ _ hr) ng
      replace s2 := s2.trans (same_new (o := .lst ((wrows (wrow i) (i + 2) 0).map V.int)) ng)
      generalize (upd (upd H' p1 (.lst [V.int 0])) g (.lst ((wrows (wrow i) (i + 2) 0).map V.int))) = H2 at hr2 hg2 s2 ⊢
      refine ⟨_, .inl (SqL.of hr2), ?_⟩
      walk_at "rd"
      refine ⟨by omega, by omega, ?_⟩
      refine forK_range (fun j σ H' => ∃ (y5 y6 : Option V), σ = [some (V.int ((m + 1 : Nat) : Int)), some (V.int v), some (V.ref r), some (V.int (2 + (i : Int))), some (V.ref g), y5, y6] ∧ Same H H' ∧ H' r = some (.lst ((wrow i).map V.int)) ∧ H' g = some (.lst ((wrows (wrow i) (i + 2) j).map V.int)))
        ⟨_, _, rfl, s2, hr2, hg2⟩ (fun j σ H' hj h => ?_) (fun σ H' h => ?_)
      · obtain ⟨y5, y6, rfl, s3, hr3, hg3⟩ := h
        walk_at "rd"
        refine ⟨by omega, by omega, ?_⟩
        have e2 : (2 + (i : Int)).toNat = i + 2 := by omega
        rw [e2]
        refine forK_range (fun t σ H' => ∃ (y6 : Option V), σ = [some (V.int ((m + 1 : Nat) : Int)), some (V.int v), some (V.ref r), some (V.int (2 + (i : Int))), some (V.ref g), some (V.int j), y6] ∧ Same H H' ∧ H' r = some (.lst ((wrow i).map V.int)) ∧ H' g = some (.lst ((wadd (wrow i) j t (wrows (wrow i) (i + 2) j)).map V.int)))
          ⟨_, rfl, s3, hr3, hg3⟩ (fun t σ H' ht h => ?_) (fun σ H' h => ?_)
        · obtain ⟨y6, rfl, s4, hr4, hg4⟩ := h
          have wl : (wadd (wrow i) j t (wrows (wrow i) (i + 2) j)).length = (wrow i).length + (i + 2) - 1 := by rw [wadd_len, wrows_len]
          walk_at "rd"
          have ej : ((j : Int) + (t : Int)).toNat = j + t := by omega
          refine ⟨_, SqL.of hg4, _, atI_ints (by omega) (by omega), _, SqL.of hr4, _, atI_ints (by omega) (by omega), ?_⟩
          rw [ej]
          refine ⟨_, rfl, _, rfl, _, hg4, j + t, ?_, ?_⟩
          · unfold ixN
            rw [List.length_map, if_pos (by omega), if_pos (by omega), ej]
          · refine ⟨same_mut s4 ng', by rw [upd_ne hrg]; exact hr4, ?_⟩
            rw [upd_same, wadd, List.map_set]
            rfl
        · obtain ⟨y6, rfl, s4, hr4, hg4⟩ := h
          exact ⟨⟨_, _, rfl⟩, s4, hr4, hg4⟩
      · obtain ⟨y5, y6, rfl, s3, hr3, hg3⟩ := h
        walk_at "rd"
        exact ⟨s3, ng', hg3⟩
    · obtain ⟨r, y3, y4, y5, y6, rfl, s1, nr, hr⟩ := h
      walk_at "rd"
      refine ⟨_, .inl (SqL.of hr), ?_⟩
      walk_at "rd"
      refine ite2 (fun c => ⟨_, SqL.of hr, _, atI_ints (by omega) (by omega), ?_⟩) (fun c => ?_)
      · exact q1 ok (by omega) _ s1
      · have := q1 ok (by omega) _ s1
        rw [List.getD_eq_getElem?_getD, List.getElem?_eq_none (by omega)] at this
        exact this

end
end Sh

namespace Sh
section
variable {P : Program} {w : World} {K : PySem.W.Frag} {mg : Str → Option Value} {base : Heap}
def sp__law_no_size (T : Tx K mg) : Sp := fun vs H Q E => ∃ (c far : Int), vs = [.int c, .int far] ∧ 2 ≤ far ∧ ∀ H', Same H H' → E (.ref T.C_NoSize) none H'
theorem ok__law_no_size (T : Tx K mg) : FnOk P w K mg base (L2.CX P w) 13 T.f__law_no_size T.fd__law_no_size ["cell", "far"] (sp__law_no_size T) := by
  refine T.F__law_no_size.okX sc__law_no_size (fun vs H Q E h => ?_) (fun cdv A outer s H vs Q E hr h => ?_)
  · obtain ⟨c, far, rfl, _⟩ := h
    rfl
  · obtain ⟨c, far, rfl, hf, q⟩ := h
    refine ⟨_, (pss_cons (by exact (ps_set (i := 2) sc__law_no_size.nd rfl (Or.inl rfl) (pe_ix ix_list (pe_lst (pa_cons pe_int (pa_cons pe_int (pa_cons (pe_op op_sub (pe_un un_neg pe_int) (pv 1)) (pa_cons (pe_op op_add pe_int (pv 1)) pa_nil))))) (pe_op op_mod (pv 0) pe_int) (fun _ _ => rfl))))
        (pss_cons (by exact (ps_set (i := 3) sc__law_no_size.nd rfl (Or.inl rfl) (pe_ix ix_list (pe_lst (pa_cons (pe_lst pa_nil) (pa_cons (by exact (pe_listRg rfl (by rfl) T.m_list (prg_1 (by rfl) T.m_range pe_int))) (pa_cons (by exact (pe_listRg rfl (by rfl) T.m_list (prg_1 (by rfl) T.m_range pe_int))) pa_nil)))) (pe_op op_mod (pe_op op_fdiv (pv 0) pe_int) pe_int) (fun _ _ => rfl))))
        (pss_cons (by exact (ps_set (i := 4) sc__law_no_size.nd rfl (Or.inl rfl) (pe_op op_mod (pe_op op_fdiv (pv 0) pe_int) pe_int)))
        (pss_one (by exact (ps_if (pt_cmpR (op_eq) (pv 4) pe_int (nomark _)) (pss_one (by exact (ps_expr (by exact (pe_call (ok_many_without T) (hr.mono (by decide)) (by rfl) T.g_many_without T.F_many_without.kp T.b_many_without .nil (passes_call (takes_of rfl rfl rfl rfl) (fun _ _ _ _ h => h)) (pa_cons (pv 2) pa_nil)))))) (pss_one (by exact (ps_if (pt_cmpR (op_eq) (pv 4) pe_int (nomark _)) (pss_one (by exact (ps_expr (by exact (pe_call (ok_without_at T) (hr.mono (by decide)) (by rfl) T.g_without_at T.F_without_at.kp T.b_without_at .nil (passes_call (takes_of rfl rfl rfl rfl) (fun _ _ _ _ h => h)) (pa_cons (pv 2) (pa_cons (pe_lst (pa_cons pe_int (pa_cons pe_int (pa_cons pe_int pa_nil)))) (pa_cons (pe_un un_neg pe_int) pa_nil)))))))) (pss_one (by exact (ps_if (pt_cmpR (op_eq) (pv 4) pe_int (nomark _)) (pss_one (by exact (ps_expr (by exact (pe_call (ok_number_of T) (hr.mono (by decide)) (by rfl) T.g_number_of T.F_number_of.kp T.b_number_of .nil (passes_call (takes_of rfl rfl rfl rfl) (fun _ _ _ _ h => h)) (pa_cons (pv 3) (pa_cons (pe_lst (pa_cons pe_int (pa_cons pe_int (pa_cons pe_int pa_nil)))) pa_nil))))))) (pss_one (by exact (ps_if (pt_cmpR (op_eq) (pv 4) pe_int (nomark _)) (pss_one (by exact (ps_expr (by exact (pe_call (ok_led T) (hr.mono (by decide)) (by rfl) T.g_led T.F_led.kp T.b_led .nil (passes_call (takes_of rfl rfl rfl rfl) (fun _ _ _ _ h => h)) (pa_cons (pv 3) (pa_cons (pe_lst (pa_cons pe_int (pa_cons pe_int (pa_cons pe_int pa_nil)))) (pa_cons (pe_lst (pa_cons pe_int (pa_cons pe_int (pa_cons pe_int pa_nil)))) pa_nil)))))))) (pss_one (by exact (ps_if (pt_cmpR (op_eq) (pv 4) pe_int (nomark _)) (pss_one (by exact (ps_expr (by exact (pe_call (ok_many_falls T) (hr.mono (by decide)) (by rfl) T.g_many_falls T.F_many_falls.kp T.b_many_falls .nil (passes_call (takes_of rfl rfl rfl rfl) (fun _ _ _ _ h => h)) (pa_cons (pv 2) (pa_cons (pe_un un_neg pe_int) pa_nil))))))) (pss_one (by exact (ps_expr (by exact (pe_call (ok_many_wrong T) (hr.mono (by decide)) (by rfl) T.g_many_wrong T.F_many_wrong.kp T.b_many_wrong .nil (passes_call (takes_of rfl rfl rfl rfl) (fun _ _ _ _ h => h)) (pa_cons (pv 2) (pa_cons (pe_un un_neg pe_int) pa_nil))))))))))))))))))))))))), ?_⟩
    rw [show (start ["cell", "far", "size", "shape", "way"] [V.int c, V.int far] : L2.St) = [some (V.int c), some (V.int far), none, none, none] from rfl]
    walk_at "r1"
    refine seq_of (fun σ H' => ∃ (n : Int), σ = [some (V.int c), some (V.int far), some (V.int n), none, none] ∧ Same H H' ∧ ¬ (1 ≤ n ∧ n ≤ 20)) (fun σ H' h => ?_) (fun U hU => ?_)
    rotate_left
    · walk_at "r1"
      refine ⟨lineLe (by simp), fun p0 n0 => ?_⟩
      have hm : c % 4 < 4 := by omega
      have hm0 : 0 ≤ c % 4 := by omega
      refine ⟨_, SqL.of upd_same, _, atI_ints (ns := [0, 21, -1 - far, 21 + far]) hm0 hm, hU _ _ ⟨_, rfl, same_new n0, ?_⟩⟩
      have hj : c % 4 = 0 ∨ c % 4 = 1 ∨ c % 4 = 2 ∨ c % 4 = 3 := by omega
      rcases hj with e | e | e | e <;> rw [e] <;> simp <;> omega
    obtain ⟨n, rfl, s0, no⟩ := h
    refine seq_of (fun σ H' => ∃ (d : Addr) (os : List Int), σ = [some (V.int c), some (V.int far), some (V.int n), some (V.ref d), none] ∧ Same H H' ∧ H' d = some (.lst (os.map V.int)) ∧ shapeOk os ∧ ¬ (1 ≤ os.length ∧ os.length ≤ 20) ∧ os.length ≤ 4000) (fun σ H1 h => ?_) (fun U hU => ?_)
    rotate_left
    · walk_at "r1"
      refine ⟨lineLe (by simp), fun p0 n0 => ⟨⟨by decide, by decide, by decide, by decide, by decide⟩, fun p1 n1 => ⟨⟨by decide, by decide, by decide, by decide, by decide⟩, fun p2 n2 => ⟨lineLe (by simp), fun p3 n3 => ?_⟩⟩⟩⟩
      have t := ((((Tr.start H').add n0 []).add n1 (rangeI 21) (rgV_range 21)).add n2 (rangeI 30) (rgV_range 30)).more (o := .lst [V.ref p0, V.ref p1, V.ref p2]) n3
      obtain ⟨b, hb, hP, hat⟩ := pick_of (m := c / 4 % 3) (ps := [(p0, []), (p1, rangeI 21), (p2, rangeI 30)]) 3 (fun xs => shapeOk xs ∧ ¬ (1 ≤ xs.length ∧ xs.length ≤ 20) ∧ xs.length ≤ 4000) (by omega) (by omega) rfl (fun xs hx => by
        simp only [List.map_cons, List.map_nil, List.mem_cons, List.not_mem_nil, or_false] at hx
        rcases hx with rfl | rfl | rfl
        · exact ⟨by decide, by decide, by decide⟩
        · exact ⟨rangeI_shape (by decide), by rw [rangeI_len]; decide, by rw [rangeI_len]; decide⟩
        · exact ⟨rangeI_shape (by decide), by rw [rangeI_len]; decide, by rw [rangeI_len]; decide⟩)
      exact ⟨_, SqL.of upd_same, _, hat, hU _ _ ⟨b.1, b.2, rfl, s0.trans t.sm, t.at_ b hb, hP⟩⟩
    obtain ⟨d, os, rfl, s1, hd1, so, no2, hl⟩ := h
    refine seq_intro ?_
    walk_at "r1"
    obtain ⟨w, hw⟩ : ∃ w : Int, c / 12 % 6 = w := ⟨_, rfl⟩
    rw [hw]
    have o012 : shapeOk [0, 1, 2] := by decide
    have o210 : shapeOk [2, 1, 0] := by decide
    refine ⟨rfl, ite2 (fun ce => ?_) (fun ce => ⟨rfl, ite2 (fun cf => ?_) (fun cf => ⟨rfl, ite2 (fun cg => ?_) (fun cg => ⟨rfl, ite2 (fun ch => ?_) (fun ch => ⟨rfl, ite2 (fun ci => ?_) (fun ci => ?_)⟩)⟩)⟩)⟩)⟩
    · exact ⟨n, rfl, fun z => absurd z no, fun _ => q _ s1⟩
    · refine ⟨lineLe (by simp), fun p0 n0 => ?_⟩
      have t := (Tr.start H1).add n0 [0, 1, 2]
      exact ⟨p0, n, -1, [0, 1, 2], rfl, SqL.of upd_same, by simp, fun _ _ z => absurd z no, fun z => absurd o012 z, fun _ z => absurd rfl z, fun _ _ _ _ s2 => q _ (s1.trans (t.sm.trans s2)), fun _ _ z => absurd z no⟩
    · refine ⟨lineLe (by simp), fun p0 n0 => ?_⟩
      have t := (Tr.start H1).add n0 [0, 1, 2]
      exact ⟨d, p0, os, [0, 1, 2], rfl, SqL.of (t.sm _ _ hd1), SqL.of upd_same, hl, by simp, fun _ _ _ z => absurd z no2, fun z => absurd so z, fun _ z => absurd o012 z, fun _ _ z => absurd rfl z, fun _ _ _ _ _ s2 => q _ (s1.trans (t.sm.trans s2)), fun _ _ _ z => absurd z no2⟩
    · refine ⟨lineLe (by simp), fun p0 n0 => ⟨lineLe (by simp), fun p1 n1 => ?_⟩⟩
      have t := ((Tr.start H1).add n0 [0, 1, 2]).add n1 [2, 1, 0]
      exact ⟨d, p0, p1, os, [0, 1, 2], [2, 1, 0], rfl, SqL.of (t.sm _ _ hd1), SqL.of (t.at_ (p0, [0, 1, 2]) (by simp)), SqL.of upd_same, hl, by simp, by simp, fun _ _ _ _ _ z => absurd z no2, fun z => absurd ⟨so, o012, o210⟩ z, fun _ _ _ z => absurd ⟨rfl, rfl⟩ z, fun _ _ _ _ _ _ _ s2 => q _ (s1.trans (t.sm.trans s2)), fun _ _ _ _ _ z => absurd z no2⟩
    · exact ⟨n, -1, rfl, fun z => absurd z no, fun _ => q _ s1, fun z => absurd z no⟩
    · exact ⟨n, -1, rfl, fun z => absurd z no, fun _ => q _ s1, fun z => absurd z no⟩

end
end Sh

namespace Sh
section
variable {P : Program} {w : World} {K : PySem.W.Frag} {mg : Str → Option Value} {base : Heap}
def sp__law_no_number (T : Tx K mg) : Sp := fun vs H Q E => ∃ (c far : Int), vs = [.int c, .int far] ∧ 2 ≤ far ∧ ∀ H', Same H H' → E (.ref T.C_NoNumber) none H'
theorem ok__law_no_number (T : Tx K mg) : FnOk P w K mg base (L2.CX P w) 6 T.f__law_no_number T.fd__law_no_number ["cell", "far"] (sp__law_no_number T) := by
  refine T.F__law_no_number.okX sc__law_no_number (fun vs H Q E h => ?_) (fun cdv A outer s H vs Q E hr h => ?_)
  · obtain ⟨c, far, rfl, _⟩ := h
    rfl
  · obtain ⟨c, far, rfl, hf, q⟩ := h
    refine ⟨_, (pss_cons (by exact (ps_set (i := 2) sc__law_no_number.nd rfl (Or.inl rfl) (pe_op op_mod (pv 0) pe_int)))
        (pss_one (by exact (ps_if (pt_cmpR (op_eq) (pv 2) pe_int (nomark _)) (pss_one (by exact (ps_expr (by exact (pe_call (ok_without_at T) (hr.mono (by decide)) (by rfl) T.g_without_at T.F_without_at.kp T.b_without_at .nil (passes_call (takes_of rfl rfl rfl rfl) (fun _ _ _ _ h => h)) (pa_cons pe_int (pa_cons (pe_ix ix_list (pe_lst (pa_cons (pe_lst (pa_cons pe_int (pa_cons pe_int (pa_cons pe_int pa_nil)))) (pa_cons (pe_lst (pa_cons pe_int (pa_cons pe_int (pa_cons pe_int pa_nil)))) pa_nil))) (pe_op op_mod (pe_op op_fdiv (pv 0) pe_int) pe_int) (fun _ _ => rfl)) (pa_cons (pe_ix ix_list (pe_lst (pa_cons (pe_un un_neg pe_int) (pa_cons pe_int (pa_cons (pe_op op_sub (pe_un un_neg pe_int) (pv 1)) (pa_cons (pe_op op_add pe_int (pv 1)) pa_nil))))) (pe_op op_mod (pe_op op_fdiv (pv 0) pe_int) pe_int) (fun _ _ => rfl)) pa_nil)))))))) (pss_one (by exact (ps_if (pt_cmpR (op_eq) (pv 2) pe_int (nomark _)) (pss_one (by exact (ps_expr (by exact (pe_call (ok_many_falls T) (hr.mono (by decide)) (by rfl) T.g_many_falls T.F_many_falls.kp T.b_many_falls .nil (passes_call (takes_of rfl rfl rfl rfl) (fun _ _ _ _ h => h)) (pa_cons pe_int (pa_cons (pe_op op_sub (pe_un un_neg pe_int) (pe_op op_mul (pv 1) (pe_op op_mod (pe_op op_fdiv (pv 0) pe_int) pe_int))) pa_nil))))))) (pss_one (by exact (ps_expr (by exact (pe_call (ok_many_wrong T) (hr.mono (by decide)) (by rfl) T.g_many_wrong T.F_many_wrong.kp T.b_many_wrong .nil (passes_call (takes_of rfl rfl rfl rfl) (fun _ _ _ _ h => h)) (pa_cons pe_int (pa_cons (pe_op op_sub (pe_un un_neg pe_int) (pe_op op_mul (pv 1) (pe_op op_mod (pe_op op_fdiv (pv 0) pe_int) pe_int))) pa_nil)))))))))))))), ?_⟩
    rw [show (start ["cell", "far", "way"] [V.int c, V.int far] : L2.St) = [some (V.int c), some (V.int far), none] from rfl]
    walk_at "r1"
    refine seq_intro ?_
    walk_at "r1"
    obtain ⟨w, hw⟩ : ∃ w : Int, c % 3 = w := ⟨_, rfl⟩
    rw [hw]
    have hk : c / 3 % 2 = 0 ∨ c / 3 % 2 = 1 := by omega
    have hk2 : CMul far (c / 3 % 2) := .inr ⟨by omega, by omega⟩
    have hk3 : -1 - far * (c / 3 % 2) < 0 := by rcases hk with e | e <;> rw [e] <;> omega
    refine ⟨rfl, ite2 (fun cc => ?_) (fun cc => ⟨rfl, ite2 (fun cd => ?_) (fun cd => ?_)⟩)⟩
    · refine ⟨lineLe (by simp), fun p0 n0 => ⟨lineLe (by simp), fun p1 n1 => ⟨lineLe (by simp), fun p2 n2 => ?_⟩⟩⟩
      have t := (((Tr.start H).add n0 [0, 1, 2]).add n1 [1, 0, 2]).more (o := .lst [V.ref p0, V.ref p1]) n2
      obtain ⟨b, hb, hP, hat⟩ := pick_of (m := c / 3 % 2) (ps := [(p0, [0, 1, 2]), (p1, [1, 0, 2])]) 2 (fun xs => shapeOk xs ∧ xs.length = 3) (by omega) (by omega) rfl (fun xs hx => by
        simp only [List.map_cons, List.map_nil, List.mem_cons, List.not_mem_nil, or_false] at hx
        rcases hx with rfl | rfl <;> exact ⟨by decide, by decide⟩)
      refine ⟨_, SqL.of upd_same, _, hat, lineLe (by simp), fun p3 n3 => ?_⟩
      have t2 := t.more (o := .lst [V.int (-1), V.int 5, V.int (-1 - far), V.int (5 + far)]) n3
      have hm : c / 6 % 4 < 4 := by omega
      have hm0 : 0 ≤ c / 6 % 4 := by omega
      have hW : Wy (2 * (3 : Int).toNat) 0 = 5 := by decide
      refine ⟨_, SqL.of upd_same, _, atI_ints (ns := [-1, 5, -1 - far, 5 + far]) hm0 hm, ?_⟩
      refine ⟨b.1, 3, _, b.2, rfl, SqL.of (t2.at_ b hb), by omega, fun _ _ _ z => ?_, fun z => absurd hP.1 z, fun _ z => absurd hP.2 z, fun _ _ z => absurd (by omega) z, fun _ _ _ _ H' s1 => q _ (t2.sm.trans s1)⟩
      exfalso
      rw [hW] at z
      have hj : c / 6 % 4 = 0 ∨ c / 6 % 4 = 1 ∨ c / 6 % 4 = 2 ∨ c / 6 % 4 = 3 := by omega
      rcases hj with e | e | e | e <;> rw [e] at z <;> simp at z <;> omega
    · exact ⟨hk2, 4, _, rfl, fun _ z => absurd hk3 (by omega), fun z => absurd (by omega) z, fun _ _ => q _ (Same.refl _)⟩
    · exact ⟨hk2, 4, _, rfl, fun _ z => absurd hk3 (by omega), fun z => absurd (by omega) z, fun _ _ => q _ (Same.refl _)⟩

end
end Sh

namespace Sh
section
variable {P : Program} {w : World} {K : PySem.W.Frag} {mg : Str → Option Value} {base : Heap}
/-- the refusal that is due -/
def dueC (T : Tx K mg) (way : Int) : Addr := if way = 0 then T.C_NoRow else if way = 1 then T.C_NoShape else if way = 2 then T.C_NoOrder else if way = 3 then T.C_NoSize else if way = 4 then T.C_TooLong else if way = 5 then T.C_HasOrder else T.C_NoNumber
def sp__law_done (T : Tx K mg) : Sp := fun vs H Q E => ∃ (way c far : Int), vs = [.int way, .int c, .int far] ∧ 2 ≤ far ∧ ∀ H', Same H H' → E (.ref (dueC T way)) none H'
theorem ok__law_done (T : Tx K mg) : FnOk P w K mg base (L2.CX P w) 14 T.f__law_done T.fd__law_done ["way", "cell", "far"] (sp__law_done T) := by
  refine T.F__law_done.okX sc__law_done (fun vs H Q E h => ?_) (fun cdv A outer s H vs Q E hr h => ?_)
  · obtain ⟨way, c, far, rfl, _⟩ := h
    rfl
  · obtain ⟨way, c, far, rfl, hf, q⟩ := h
    refine ⟨_, (pss_one (by exact (ps_if (pt_cmpR (op_eq) (pv 0) pe_int (nomark _)) (pss_one (by exact (ps_expr (by exact (pe_call (ok__law_no_row T) (hr.mono (by decide)) (by rfl) T.g__law_no_row T.F__law_no_row.kp T.b__law_no_row .nil (passes_call (takes_of rfl rfl rfl rfl) (fun _ _ _ _ h => h)) (pa_cons (pv 1) (pa_cons (pv 2) pa_nil))))))) (pss_one (by exact (ps_if (pt_cmpR (op_eq) (pv 0) pe_int (nomark _)) (pss_one (by exact (ps_expr (by exact (pe_call (ok__law_no_shape T) (hr.mono (by decide)) (by rfl) T.g__law_no_shape T.F__law_no_shape.kp T.b__law_no_shape .nil (passes_call (takes_of rfl rfl rfl rfl) (fun _ _ _ _ h => h)) (pa_cons (pv 1) (pa_cons (pv 2) pa_nil))))))) (pss_one (by exact (ps_if (pt_cmpR (op_eq) (pv 0) pe_int (nomark _)) (pss_one (by exact (ps_expr (by exact (pe_call (ok__law_no_order T) (hr.mono (by decide)) (by rfl) T.g__law_no_order T.F__law_no_order.kp T.b__law_no_order .nil (passes_call (takes_of rfl rfl rfl rfl) (fun _ _ _ _ h => h)) (pa_cons (pv 1) (pa_cons (pv 2) pa_nil))))))) (pss_one (by exact (ps_if (pt_cmpR (op_eq) (pv 0) pe_int (nomark _)) (pss_one (by exact (ps_expr (by exact (pe_call (ok__law_no_size T) (hr.mono (by decide)) (by rfl) T.g__law_no_size T.F__law_no_size.kp T.b__law_no_size .nil (passes_call (takes_of rfl rfl rfl rfl) (fun _ _ _ _ h => h)) (pa_cons (pv 1) (pa_cons (pv 2) pa_nil))))))) (pss_one (by exact (ps_if (pt_cmpR (op_eq) (pv 0) pe_int (nomark _)) (pss_one (by exact (ps_expr (by exact (pe_call (ok__law_within T) (hr.mono (by decide)) (by rfl) T.g__law_within T.F__law_within.kp T.b__law_within .nil (passes_call (takes_of rfl rfl rfl rfl) (fun _ _ _ _ h => h)) (pa_cons (pe_op op_mod (pv 1) pe_int) (pa_cons (by exact (pe_listRg rfl (by rfl) T.m_list (prg_1 (by rfl) T.m_range (pe_op op_add pe_int (pe_op op_mod (pe_op op_fdiv (pv 1) pe_int) pe_int))))) (pa_cons (pe_lst (pa_cons pe_int (pa_cons pe_int pa_nil))) pa_nil)))))))) (pss_one (by exact (ps_if (PW.pt (pw_and (pt_cmpR (op_eq) (pv 0) pe_int (nomark _)) (pw_and1 (pt_cmpR (op_eq) (pe_op op_mod (pv 1) pe_int) pe_int (nomark _))))) (pss_one (by exact (ps_expr (by exact (pe_call (ok_number_of T) (hr.mono (by decide)) (by rfl) T.g_number_of T.F_number_of.kp T.b_number_of .nil (passes_call (takes_of rfl rfl rfl rfl) (fun _ _ _ _ h => h)) (pa_cons (pe_ix ix_list (pe_lst (pa_cons (pe_lst (pa_cons pe_int (pa_cons pe_int (pa_cons pe_int pa_nil)))) (pa_cons (pe_lst (pa_cons pe_int (pa_cons pe_int (pa_cons pe_int (pa_cons pe_int pa_nil))))) (pa_cons (pe_lst (pa_cons pe_int (pa_cons pe_int (pa_cons pe_int (pa_cons pe_int pa_nil))))) pa_nil)))) (pe_op op_mod (pe_op op_fdiv (pv 1) pe_int) pe_int) (fun _ _ => rfl)) (pa_cons (pe_lst (pa_cons pe_int (pa_cons pe_int (pa_cons pe_int pa_nil)))) pa_nil))))))) (pss_one (by exact (ps_if (pt_cmpR (op_eq) (pv 0) pe_int (nomark _)) (pss_one (by exact (ps_expr (by exact (pe_call (ok_led T) (hr.mono (by decide)) (by rfl) T.g_led T.F_led.kp T.b_led .nil (passes_call (takes_of rfl rfl rfl rfl) (fun _ _ _ _ h => h)) (pa_cons (pe_ix ix_list (pe_lst (pa_cons (pe_lst (pa_cons pe_int (pa_cons pe_int (pa_cons pe_int pa_nil)))) (pa_cons (pe_lst (pa_cons pe_int (pa_cons pe_int (pa_cons pe_int (pa_cons pe_int pa_nil))))) (pa_cons (pe_lst (pa_cons pe_int (pa_cons pe_int (pa_cons pe_int (pa_cons pe_int pa_nil))))) pa_nil)))) (pe_op op_mod (pe_op op_fdiv (pv 1) pe_int) pe_int) (fun _ _ => rfl)) (pa_cons (pe_lst (pa_cons pe_int (pa_cons pe_int (pa_cons pe_int pa_nil)))) (pa_cons (pe_lst (pa_cons pe_int (pa_cons pe_int (pa_cons pe_int pa_nil)))) pa_nil)))))))) (pss_one (by exact (ps_expr (by exact (pe_call (ok__law_no_number T) (hr.mono (by decide)) (by rfl) T.g__law_no_number T.F__law_no_number.kp T.b__law_no_number .nil (passes_call (takes_of rfl rfl rfl rfl) (fun _ _ _ _ h => h)) (pa_cons (pv 1) (pa_cons (pv 2) pa_nil)))))))))))))))))))))))))))), ?_⟩
    rw [show (start ["way", "cell", "far"] [V.int way, V.int c, V.int far] : L2.St) = [some (V.int way), some (V.int c), some (V.int far)] from rfl]
    walk_at "r1"
    unfold dueC at q
    refine ⟨rfl, ite2 (fun ca => ?_) (fun ca => ⟨rfl, ite2 (fun cb => ?_) (fun cb => ⟨rfl, ite2 (fun cc => ?_) (fun cc => ⟨rfl, ite2 (fun cd => ?_) (fun cd => ⟨rfl, ite2 (fun ce => ?_) (fun ce => ?_)⟩)⟩)⟩)⟩)⟩
    · rw [if_pos ca] at q
      exact ⟨c, far, rfl, hf, q⟩
    · rw [if_neg ca, if_pos cb] at q
      exact ⟨c, far, rfl, hf, q⟩
    · rw [if_neg ca, if_neg cb, if_pos cc] at q
      exact ⟨c, far, rfl, hf, q⟩
    · rw [if_neg ca, if_neg cb, if_neg cc, if_pos cd] at q
      exact ⟨c, far, rfl, hf, q⟩
    · rw [if_neg ca, if_neg cb, if_neg cc, if_neg cd, if_pos ce] at q
      obtain ⟨n, hn, hn1, hn2⟩ : ∃ n : Nat, 13 + c / 2 % 18 = (n : Int) ∧ 13 ≤ n ∧ n ≤ 30 := ⟨(13 + c / 2 % 18).toNat, by omega, by omega, by omega⟩
      rw [hn]
      refine ⟨⟨by decide, by decide, by omega, by omega, by omega⟩, fun p0 n0 => ⟨lineLe (by simp), fun p1 n1 => ?_⟩⟩
      have t := ((Tr.start H).add n0 (rangeI n) (rgV_range n)).add n1 [1, 0]
      exact ⟨c % 2, p0, p1, T.C_TooLong, rangeI n, [1, 0], rfl, SqL.of (t.at_ (p0, rangeI n) (by simp)), SqL.of upd_same, by rw [rangeI_len]; omega, by simp, .inr (.inr (.inr ⟨rangeI_row hn2, by decide, by decide, by rw [rangeI_len]; omega, by omega, rfl⟩)), fun _ s1 => q _ (t.sm.trans s1)⟩
    · rw [if_neg ca, if_neg cb, if_neg cc, if_neg cd, if_neg ce] at q
      refine ⟨rfl, ite2 (fun cf => ⟨rfl, ite2 (fun cg => ?_) (fun cg => ⟨rfl, ite2 (fun _ => ?_) (fun ch => absurd cf ch)⟩)⟩) (fun cf => ⟨rfl, ite2 (fun ch => absurd ch cf) (fun _ => ?_)⟩)⟩
      · rw [if_pos cf] at q
        refine ⟨lineLe (by simp), fun p0 n0 => ⟨lineLe (by simp), fun p1 n1 => ⟨lineLe (by simp), fun p2 n2 => ⟨lineLe (by simp), fun p3 n3 => ?_⟩⟩⟩⟩
        have t := ((((Tr.start H).add n0 [0, 1, 2]).add n1 [3, 0, 1, 2]).add n2 [1, 2, 0, 3]).more (o := .lst [V.ref p0, V.ref p1, V.ref p2]) n3
        obtain ⟨b, hb, hP, hat⟩ := pick_of (m := c / 2 % 3) (ps := [(p0, [0, 1, 2]), (p1, [3, 0, 1, 2]), (p2, [1, 2, 0, 3])]) 3 (fun xs => shapeOk xs ∧ (1 ≤ xs.length ∧ xs.length ≤ 20) ∧ placesL xs [0, 1, 2] ≠ []) (by omega) (by omega) rfl (fun xs hx => by
          simp only [List.map_cons, List.map_nil, List.mem_cons, List.not_mem_nil, or_false] at hx
          rcases hx with rfl | rfl | rfl <;> exact ⟨by decide, by decide, by decide +kernel⟩)
        refine ⟨_, SqL.of upd_same, _, hat, lineLe (by simp), fun p4 n4 => ?_⟩
        have t2 := t.add n4 [0, 1, 2]
        have o1 : shapeOk [0, 1, 2] := by decide
        have hl := hP.2.1
        exact ⟨b.1, p4, b.2, [0, 1, 2], rfl, SqL.of (t2.at_ b (List.mem_append_left _ hb)), SqL.of upd_same, by omega, by simp, fun _ _ _ _ z => absurd z hP.2.2, fun z => absurd hP.1 z, fun _ z => absurd o1 z, fun _ _ z => absurd rfl z, fun _ _ _ z => absurd hl z, fun _ _ _ _ _ _ s1 => q _ (t2.sm.trans s1)⟩
      · rw [if_pos cf] at q
        refine ⟨lineLe (by simp), fun p0 n0 => ⟨lineLe (by simp), fun p1 n1 => ⟨lineLe (by simp), fun p2 n2 => ⟨lineLe (by simp), fun p3 n3 => ?_⟩⟩⟩⟩
        have t := ((((Tr.start H).add n0 [0, 2, 1]).add n1 [0, 1, 3, 2]).add n2 [2, 0, 3, 1]).more (o := .lst [V.ref p0, V.ref p1, V.ref p2]) n3
        obtain ⟨b, hb, hP, hat⟩ := pick_of (m := c / 2 % 3) (ps := [(p0, [0, 2, 1]), (p1, [0, 1, 3, 2]), (p2, [2, 0, 3, 1])]) 3 (fun xs => shapeOk xs ∧ (1 ≤ xs.length ∧ xs.length ≤ 20) ∧ placesL xs [0, 2, 1] ≠ []) (by omega) (by omega) rfl (fun xs hx => by
          simp only [List.map_cons, List.map_nil, List.mem_cons, List.not_mem_nil, or_false] at hx
          rcases hx with rfl | rfl | rfl <;> exact ⟨by decide, by decide, by decide +kernel⟩)
        refine ⟨_, SqL.of upd_same, _, hat, lineLe (by simp), fun p4 n4 => ⟨lineLe (by simp), fun p5 n5 => ?_⟩⟩
        have t2 := (t.add n4 [0, 2, 1]).add n5 [0, 1, 2]
        have o1 : shapeOk [0, 1, 2] := by decide
        have o2 : shapeOk [0, 2, 1] := by decide
        have hl := hP.2.1
        exact ⟨b.1, p4, p5, b.2, [0, 2, 1], [0, 1, 2], rfl, SqL.of (t2.at_ b (List.mem_append_left _ (List.mem_append_left _ hb))), SqL.of (t2.at_ (p4, [0, 2, 1]) (by simp)), SqL.of upd_same, by omega, by simp, by simp, fun _ _ _ _ _ _ z => absurd z hP.2.2, fun z => absurd ⟨hP.1, o2, o1⟩ z, fun _ _ _ z => absurd ⟨rfl, rfl⟩ z, fun _ _ _ _ _ z => absurd hl z, fun _ _ _ _ _ _ _ _ s1 => q _ (t2.sm.trans s1)⟩
      · rw [if_neg cf] at q
        exact ⟨c, far, rfl, hf, q⟩

end
end Sh

namespace Sh
section
variable {P : Program} {w : World} {K : PySem.W.Frag} {mg : Str → Option Value} {base : Heap}
def spz__law_which (T : Tx K mg) : Addr → Value → Option Addr → Sp := fun a cls d vs H Q _ => vs = [.ref a] ∧ ∃ (C : Addr) (bs : List Bool), cls = .ref C ∧ d = none ∧ ExcC K C ∧
  PySem.W.kitOne K (.ref C) (.ref T.C_NoRow) = some (bs.getD 0 false) ∧ PySem.W.kitOne K (.ref C) (.ref T.C_NoShape) = some (bs.getD 1 false) ∧ PySem.W.kitOne K (.ref C) (.ref T.C_NoOrder) = some (bs.getD 2 false) ∧ PySem.W.kitOne K (.ref C) (.ref T.C_NoSize) = some (bs.getD 3 false) ∧
  PySem.W.kitOne K (.ref C) (.ref T.C_TooLong) = some (bs.getD 4 false) ∧ PySem.W.kitOne K (.ref C) (.ref T.C_HasOrder) = some (bs.getD 5 false) ∧ PySem.W.kitOne K (.ref C) (.ref T.C_NoNumber) = some (bs.getD 6 false) ∧ PySem.W.kitOne K (.ref C) (.type "ValueError") = some (bs.getD 7 false) ∧ bs.length = 8 ∧
  ∀ H' p, Same H H' → H p = none → H' p = some (.lst (bs.map V.bl)) → Q (.ref p) H'
theorem okz__law_which (T : Tx K mg) : FnZ P w K mg base 1 T.f__law_which T.fd__law_which ["e"] (spz__law_which T) := by
  refine T.F__law_which.okZ sc__law_which (fun a c d vs H Q E h => ?_) (fun cdv A outer s H vs Q E p cls d hz hf hr h => ?_)
  · obtain ⟨rfl, _⟩ := h
    rfl
  · obtain ⟨rfl, C, bs, rfl, rfl, hx, h0, h1, h2, h3, h4, h5, h6, h7, hl, q⟩ := h
    have hpn : p ∈ (L2H.cxH CX0 P w K mg base ["e", "told"] "_law_which" (defScope s__law_which) T.f__law_which cdv A outer s H E p).pn := List.mem_cons_self
    refine ⟨_, (pss_cons (by exact (ps_set (i := 1) sc__law_which.nd rfl (Or.inl rfl) (pe_lst (pa_cons (by exact (pe_callB (call_isZ hpn hz hf) (by rfl) T.m_isinstance (by decide +kernel) (pa_cons (pv 0) (pa_cons (pe_glob (v := .ref T.C_NoRow) rfl T.gC_NoRow rfl) pa_nil)))) (pa_cons (by exact (pe_callB (call_isZ hpn hz hf) (by rfl) T.m_isinstance (by decide +kernel) (pa_cons (pv 0) (pa_cons (pe_glob (v := .ref T.C_NoShape) rfl T.gC_NoShape rfl) pa_nil)))) (pa_cons (by exact (pe_callB (call_isZ hpn hz hf) (by rfl) T.m_isinstance (by decide +kernel) (pa_cons (pv 0) (pa_cons (pe_glob (v := .ref T.C_NoOrder) rfl T.gC_NoOrder rfl) pa_nil)))) (pa_cons (by exact (pe_callB (call_isZ hpn hz hf) (by rfl) T.m_isinstance (by decide +kernel) (pa_cons (pv 0) (pa_cons (pe_glob (v := .ref T.C_NoSize) rfl T.gC_NoSize rfl) pa_nil)))) pa_nil)))))))
        (pss_one (by exact (ps_ret (pe_op op_cat (pv 1) (pe_lst (pa_cons (by exact (pe_callB (call_isZ hpn hz hf) (by rfl) T.m_isinstance (by decide +kernel) (pa_cons (pv 0) (pa_cons (pe_glob (v := .ref T.C_TooLong) rfl T.gC_TooLong rfl) pa_nil)))) (pa_cons (by exact (pe_callB (call_isZ hpn hz hf) (by rfl) T.m_isinstance (by decide +kernel) (pa_cons (pv 0) (pa_cons (pe_glob (v := .ref T.C_HasOrder) rfl T.gC_HasOrder rfl) pa_nil)))) (pa_cons (by exact (pe_callB (call_isZ hpn hz hf) (by rfl) T.m_isinstance (by decide +kernel) (pa_cons (pv 0) (pa_cons (pe_glob (v := .ref T.C_NoNumber) rfl T.gC_NoNumber rfl) pa_nil)))) (pa_cons (by exact (pe_callB (call_isZ hpn hz hf) (by rfl) T.m_isinstance (by decide +kernel) (pa_cons (pv 0) (pa_cons (pe_bltn (v := .ty "ValueError") (by rfl) T.m_ValueError (by decide +kernel) rfl) pa_nil)))) pa_nil)))))))))), ?_⟩
    rw [show (start ["e", "told"] [V.ref p.1] : L2.St) = [some (V.ref p.1), none] from rfl]
    walk_at "rd"
    have ask : ∀ {c : V} {cv : Value} {b : Bool} {H1 : Hp} {R : VK}, (∀ u, RelV c u → u = cv) → PySem.W.kitOne K (.ref C) cv = some b → R (.bl b) H1 → rIsX K p.1 (.ref C) none [V.ref p.1, c] H1 R := fun {c cv b H1 R} hc hk hR => ⟨C, rfl, rfl, hx, c, cv, b, rfl, hc, hk, hR⟩
    refine ask (fun u r => r) h0 (ask (fun u r => r) h1 (ask (fun u r => r) h2 (ask (fun u r => r) h3 ⟨lineLe (by simp), fun p0 n0 => ask (fun u r => r) h4 (ask (fun u r => r) h5 (ask (fun u r => r) h6 (ask (fun u r => r) h7 ⟨lineLe (by simp), fun p1 n1 => ?_⟩)))⟩)))
    have e0 := same_new (o := .lst [V.bl (bs.getD 4 false), V.bl (bs.getD 5 false), V.bl (bs.getD 6 false), V.bl (bs.getD 7 false)]) n1 _ _ (upd_same (H := H) (a := p0))
    refine ⟨_, e0, _, upd_same, lineLe (by simp), fun p2 n2 => q _ p2 (((same_new n0).trans (same_new n1)).trans (same_new n2)) (((same_new n0).trans (same_new n1)).free n2) ?_⟩
    rw [upd_same]
    match bs, hl with
    | [b0, b1, b2, b3, b4, b5, b6, b7], _ => rfl

end
end Sh

namespace Sh
section
variable {P : Program} {w : World} {K : PySem.W.Frag} {mg : Str → Option Value} {base : Heap}
def spL (K : PySem.W.Frag) : Sp := fun vs H Q _ => ∃ (a : Addr) (ns : List Int), vs = [.ref a] ∧ SqL K H a (ns.map V.int) ∧ ns.length ≤ 63 ∧ ∀ H', Q (.bl true) H'
def sp_law (T : Tx K mg) : Sp := spL K
/-- which of the eight hold where the refusal n is due -/
def toldL (n : Nat) : List Bool := (List.range 8).map fun (k : Nat) => decide ((k : Int) = (n : Int)) || decide ((k : Int) = 7)
theorem due_facts {K : PySem.W.Frag} {mg : Str → Option Value} (T : Tx K mg) {n : Nat} (h : n < 7) : ExcC K (dueC T n) ∧ PySem.W.exmOne K (.ref (dueC T n)) (.ref T.C_OrderError) = some true ∧
    PySem.W.kitOne K (.ref (dueC T n)) (.ref T.C_NoRow) = some ((toldL n).getD 0 false) ∧ PySem.W.kitOne K (.ref (dueC T n)) (.ref T.C_NoShape) = some ((toldL n).getD 1 false) ∧ PySem.W.kitOne K (.ref (dueC T n)) (.ref T.C_NoOrder) = some ((toldL n).getD 2 false) ∧ PySem.W.kitOne K (.ref (dueC T n)) (.ref T.C_NoSize) = some ((toldL n).getD 3 false) ∧ PySem.W.kitOne K (.ref (dueC T n)) (.ref T.C_TooLong) = some ((toldL n).getD 4 false) ∧ PySem.W.kitOne K (.ref (dueC T n)) (.ref T.C_HasOrder) = some ((toldL n).getD 5 false) ∧ PySem.W.kitOne K (.ref (dueC T n)) (.ref T.C_NoNumber) = some ((toldL n).getD 6 false) ∧
    PySem.W.kitOne K (.ref (dueC T n)) (.type "ValueError") = some ((toldL n).getD 7 false) := by
  match n, h with
  | 0, _ => exact show ExcC K T.C_NoRow ∧ _ from ⟨T.ex_NoRow, PySem.W.exm_ref T.bC_OrderError T.hd_OrderError T.tC_OrderError T.s_NoRow_OrderError, kit_ref T.hd_NoRow T.tC_NoRow T.s_NoRow_NoRow T.s_NoRow_NoRow, kit_ref T.hd_NoShape T.tC_NoShape T.s_NoRow_NoShape T.s_NoRow_NoRow, kit_ref T.hd_NoOrder T.tC_NoOrder T.s_NoRow_NoOrder T.s_NoRow_NoRow, kit_ref T.hd_NoSize T.tC_NoSize T.s_NoRow_NoSize T.s_NoRow_NoRow, kit_ref T.hd_TooLong T.tC_TooLong T.s_NoRow_TooLong T.s_NoRow_NoRow, kit_ref T.hd_HasOrder T.tC_HasOrder T.s_NoRow_HasOrder T.s_NoRow_NoRow, kit_ref T.hd_NoNumber T.tC_NoNumber T.s_NoRow_NoNumber T.s_NoRow_NoRow, kit_val T.sV_NoRow⟩
  | 1, _ => exact show ExcC K T.C_NoShape ∧ _ from ⟨T.ex_NoShape, PySem.W.exm_ref T.bC_OrderError T.hd_OrderError T.tC_OrderError T.s_NoShape_OrderError, kit_ref T.hd_NoRow T.tC_NoRow T.s_NoShape_NoRow T.s_NoShape_NoShape, kit_ref T.hd_NoShape T.tC_NoShape T.s_NoShape_NoShape T.s_NoShape_NoShape, kit_ref T.hd_NoOrder T.tC_NoOrder T.s_NoShape_NoOrder T.s_NoShape_NoShape, kit_ref T.hd_NoSize T.tC_NoSize T.s_NoShape_NoSize T.s_NoShape_NoShape, kit_ref T.hd_TooLong T.tC_TooLong T.s_NoShape_TooLong T.s_NoShape_NoShape, kit_ref T.hd_HasOrder T.tC_HasOrder T.s_NoShape_HasOrder T.s_NoShape_NoShape, kit_ref T.hd_NoNumber T.tC_NoNumber T.s_NoShape_NoNumber T.s_NoShape_NoShape, kit_val T.sV_NoShape⟩
  | 2, _ => exact show ExcC K T.C_NoOrder ∧ _ from ⟨T.ex_NoOrder, PySem.W.exm_ref T.bC_OrderError T.hd_OrderError T.tC_OrderError T.s_NoOrder_OrderError, kit_ref T.hd_NoRow T.tC_NoRow T.s_NoOrder_NoRow T.s_NoOrder_NoOrder, kit_ref T.hd_NoShape T.tC_NoShape T.s_NoOrder_NoShape T.s_NoOrder_NoOrder, kit_ref T.hd_NoOrder T.tC_NoOrder T.s_NoOrder_NoOrder T.s_NoOrder_NoOrder, kit_ref T.hd_NoSize T.tC_NoSize T.s_NoOrder_NoSize T.s_NoOrder_NoOrder, kit_ref T.hd_TooLong T.tC_TooLong T.s_NoOrder_TooLong T.s_NoOrder_NoOrder, kit_ref T.hd_HasOrder T.tC_HasOrder T.s_NoOrder_HasOrder T.s_NoOrder_NoOrder, kit_ref T.hd_NoNumber T.tC_NoNumber T.s_NoOrder_NoNumber T.s_NoOrder_NoOrder, kit_val T.sV_NoOrder⟩
  | 3, _ => exact show ExcC K T.C_NoSize ∧ _ from ⟨T.ex_NoSize, PySem.W.exm_ref T.bC_OrderError T.hd_OrderError T.tC_OrderError T.s_NoSize_OrderError, kit_ref T.hd_NoRow T.tC_NoRow T.s_NoSize_NoRow T.s_NoSize_NoSize, kit_ref T.hd_NoShape T.tC_NoShape T.s_NoSize_NoShape T.s_NoSize_NoSize, kit_ref T.hd_NoOrder T.tC_NoOrder T.s_NoSize_NoOrder T.s_NoSize_NoSize, kit_ref T.hd_NoSize T.tC_NoSize T.s_NoSize_NoSize T.s_NoSize_NoSize, kit_ref T.hd_TooLong T.tC_TooLong T.s_NoSize_TooLong T.s_NoSize_NoSize, kit_ref T.hd_HasOrder T.tC_HasOrder T.s_NoSize_HasOrder T.s_NoSize_NoSize, kit_ref T.hd_NoNumber T.tC_NoNumber T.s_NoSize_NoNumber T.s_NoSize_NoSize, kit_val T.sV_NoSize⟩
  | 4, _ => exact show ExcC K T.C_TooLong ∧ _ from ⟨T.ex_TooLong, PySem.W.exm_ref T.bC_OrderError T.hd_OrderError T.tC_OrderError T.s_TooLong_OrderError, kit_ref T.hd_NoRow T.tC_NoRow T.s_TooLong_NoRow T.s_TooLong_TooLong, kit_ref T.hd_NoShape T.tC_NoShape T.s_TooLong_NoShape T.s_TooLong_TooLong, kit_ref T.hd_NoOrder T.tC_NoOrder T.s_TooLong_NoOrder T.s_TooLong_TooLong, kit_ref T.hd_NoSize T.tC_NoSize T.s_TooLong_NoSize T.s_TooLong_TooLong, kit_ref T.hd_TooLong T.tC_TooLong T.s_TooLong_TooLong T.s_TooLong_TooLong, kit_ref T.hd_HasOrder T.tC_HasOrder T.s_TooLong_HasOrder T.s_TooLong_TooLong, kit_ref T.hd_NoNumber T.tC_NoNumber T.s_TooLong_NoNumber T.s_TooLong_TooLong, kit_val T.sV_TooLong⟩
  | 5, _ => exact show ExcC K T.C_HasOrder ∧ _ from ⟨T.ex_HasOrder, PySem.W.exm_ref T.bC_OrderError T.hd_OrderError T.tC_OrderError T.s_HasOrder_OrderError, kit_ref T.hd_NoRow T.tC_NoRow T.s_HasOrder_NoRow T.s_HasOrder_HasOrder, kit_ref T.hd_NoShape T.tC_NoShape T.s_HasOrder_NoShape T.s_HasOrder_HasOrder, kit_ref T.hd_NoOrder T.tC_NoOrder T.s_HasOrder_NoOrder T.s_HasOrder_HasOrder, kit_ref T.hd_NoSize T.tC_NoSize T.s_HasOrder_NoSize T.s_HasOrder_HasOrder, kit_ref T.hd_TooLong T.tC_TooLong T.s_HasOrder_TooLong T.s_HasOrder_HasOrder, kit_ref T.hd_HasOrder T.tC_HasOrder T.s_HasOrder_HasOrder T.s_HasOrder_HasOrder, kit_ref T.hd_NoNumber T.tC_NoNumber T.s_HasOrder_NoNumber T.s_HasOrder_HasOrder, kit_val T.sV_HasOrder⟩
  | 6, _ => exact show ExcC K T.C_NoNumber ∧ _ from ⟨T.ex_NoNumber, PySem.W.exm_ref T.bC_OrderError T.hd_OrderError T.tC_OrderError T.s_NoNumber_OrderError, kit_ref T.hd_NoRow T.tC_NoRow T.s_NoNumber_NoRow T.s_NoNumber_NoNumber, kit_ref T.hd_NoShape T.tC_NoShape T.s_NoNumber_NoShape T.s_NoNumber_NoNumber, kit_ref T.hd_NoOrder T.tC_NoOrder T.s_NoNumber_NoOrder T.s_NoNumber_NoNumber, kit_ref T.hd_NoSize T.tC_NoSize T.s_NoNumber_NoSize T.s_NoNumber_NoNumber, kit_ref T.hd_TooLong T.tC_TooLong T.s_NoNumber_TooLong T.s_NoNumber_NoNumber, kit_ref T.hd_HasOrder T.tC_HasOrder T.s_NoNumber_HasOrder T.s_NoNumber_NoNumber, kit_ref T.hd_NoNumber T.tC_NoNumber T.s_NoNumber_NoNumber T.s_NoNumber_NoNumber, kit_val T.sV_NoNumber⟩
  | m + 7, h => exact absurd h (by omega)
theorem ok_law (T : Tx K mg) : FnOk P w K mg base CX0 15 T.f_law T.fd_law ["script"] (sp_law T) := by
  refine T.F_law.ok sc_law (fun vs H Q E h => ?_) (fun cdv A outer s H vs Q E hr h => ?_)
  · obtain ⟨a, ns, rfl, _⟩ := h
    rfl
  · obtain ⟨a, ns, rfl, hS, hlen, q⟩ := h
    refine ⟨_, (pss_cons (by exact (ps_set (i := 1) sc_law.nd rfl (Or.inr rfl) (pe_op op_mod (by exact (pe_call (ok__law_cell_at T) (hr.mono (by decide)) (by rfl) T.g__law_cell_at T.F__law_cell_at.kp T.b__law_cell_at .nil pass0 (pa_cons (pv 0) (pa_cons pe_int pa_nil)))) pe_int)))
        (pss_cons (by exact (ps_set (i := 2) sc_law.nd rfl (Or.inl rfl) (pe_op op_add pe_int (pe_op op_mod (by exact (pe_call (ok__law_cell_at T) (hr.mono (by decide)) (by rfl) T.g__law_cell_at T.F__law_cell_at.kp T.b__law_cell_at .nil pass0 (pa_cons (pv 0) (pa_cons pe_int pa_nil)))) (pe_op op_pow pe_int pe_int)))))
        (pss_cons (by exact (ps_set (i := 3) sc_law.nd rfl (Or.inl rfl) (pe_lst pa_nil)))
        (pss_cons (by exact (ps_try_as (i := 4) (tb := fun W => (tDrop (tCallS (sp__law_done T) (WE W) (tCons (tVar 1) (tCons (tCall (sp__law_cell_at T) [] E0 (tCons (tVar 0) (tCons (tC (.int 1)) tNil))) (tCons (tVar 2) tNil)))))) (ts := fun ea cls d => (tAsg (tCallS (spz__law_which T ea cls d) (fun _ => E0) (tCons (tVar 4) tNil)) (gName 3))) (Wout := fun _ _ _ _ => False) rfl rfl sc_law.nd rfl rfl ⟨rfl, by decide, Or.inl T.gC_OrderError⟩ takes0
        (fun W pn xe tk _ => (pss_one (by exact (ps_expr (by exact (pe_callS (ok__law_done T) (hr.mono (by decide)) rfl T.g__law_done T.F__law_done.kp T.b__law_done (fun σ => passAt tk σ) (pa_cons (pv 1) (pa_cons (by exact (pe_call (ok__law_cell_at T) (hr.mono (by decide)) (by rfl) T.g__law_cell_at T.F__law_cell_at.kp T.b__law_cell_at .nil pass0 (pa_cons (pv 0) (pa_cons pe_int pa_nil)))) (pa_cons (pv 2) pa_nil)))))))))
        (fun ea oe cls d pn hz hf => (pss_one (by exact (ps_set (i := 3) sc_law.nd rfl (Or.inl rfl) (by exact (pe_callZ (okz__law_which T) (roomZ (hr.mono (by decide))) List.mem_cons_self hz hf (by rfl) T.g__law_which T.F__law_which.kp T.b__law_which (pa_cons (pv 4) pa_nil)))))))))
        (pss_one (by exact (ps_ret (pe_cmpR (op_eqD hr.units) (pv 3) (by exact (pe_lc (own := [("k", 5)]) (g := gName 5) (tt := tYes) (te := (tOrV (tOp rEq (tVar 5) (tVar 1)) (tOp rEq (tVar 5) (tC (.int 7))))) rfl sc_law.nd (pi_range1 rfl T.m_range (pa_cons pe_int pa_nil)) (blkOk_by (N := ["script", "way", "far", "told", "e", "k"]) (sc := defScope s_law) (by decide +kernel)) (fun _ _ _ _ _ => by exact (pg_name (i := 5) sc_law.nd rfl (by first | exact Or.inl rfl | exact Or.inr rfl))) (fun _ _ _ _ _ => pts_nil) (fun _ _ _ _ _ => by exact (pe_or (pe_cmpR (op_eq) (pv 5) (pv 1) (nomark _)) (pe_one (pe_cmpR (op_eq) (pv 5) pe_int (nomark _))))))) (nomark _))))))))), ?_⟩
    rw [show (start ["script", "way", "far", "told", "e", "k"] [V.ref a] : L2.St) = [some (V.ref a), none, none, none, none, none] from rfl]
    refine seq_intro ?_
    walk_at "r1"
    refine ⟨a, ns, _, rfl, hS, by decide, ?_⟩
    walk_at "r1"
    obtain ⟨n, hn, hn7⟩ : ∃ n : Nat, ns.getD (Int.toNat 0) 0 % 7 = (n : Int) ∧ n < 7 := ⟨(ns.getD (Int.toNat 0) 0 % 7).toNat, by omega, by omega⟩
    rw [hn]
    refine seq_intro ?_
    walk_at "r1"
    refine ⟨a, ns, _, rfl, hS, by decide, ?_⟩
    walk_at "r1"
    have hfar : 2 ≤ 2 + ns.getD (Int.toNat 2) 0 % 10 ^ Int.toNat 59 := by
      have := Int.emod_nonneg (ns.getD (Int.toNat 2) 0) (show (10 : Int) ^ Int.toNat 59 ≠ 0 by decide +kernel)
      omega
    generalize 2 + ns.getD (Int.toNat 2) 0 % 10 ^ Int.toNat 59 = far at hfar ⊢
    refine ⟨⟨by decide, by decide, by decide⟩, by decide +kernel, ?_⟩
    refine seq_intro ?_
    walk_at "r1"
    refine ⟨lineLe (by simp), fun p0 n0 => ?_⟩
    have hS0 := (same_new (o := .lst []) n0).seq hS
    generalize upd H p0 (.lst []) = H1 at hS0 ⊢
    refine seq_intro ?_
    walk_at "r1"
    refine ⟨a, ns, _, rfl, hS0, by decide, ?_⟩
    walk_at "r1"
    generalize ns.getD (Int.toNat 1) 0 = c1
    obtain ⟨f0, f1, k0, k1, k2, k3, k4, k5, k6, k7⟩ := due_facts T hn7
    refine ⟨n, c1, far, rfl, hfar, fun H2 s2 => ?_⟩
    refine ⟨true, f1, fun _ ea nea => ?_, fun z => nomatch z⟩
    walk_at "r1"
    refine ⟨rfl, _, toldL n, rfl, rfl, f0, k0, k1, k2, k3, k4, k5, k6, k7, rfl, fun H3 p3 s3 np3 hp3 => ?_⟩
    walk_at "r1"
    refine ⟨by decide, by decide, fun bk nbk => ?_⟩
    refine lcK_mapR (fun (k : Nat) => V.bl (decide ((k : Int) = (n : Int)) || decide ((k : Int) = 7))) nbk (by decide) (fun k acc H' QT hi hs hD hq => ?_) (fun H4 s4 hbk => ?_)
    · walk_at "rd"
      refine ⟨rfl, ite2 (fun e => ?_) (fun e => ⟨rfl, ?_⟩)⟩
      · have h := hq _ hs hD
        simp only [e, decide_true, Bool.true_or] at h
        exact h
      · have h := hq _ hs hD
        simp only [e, decide_false, Bool.false_or] at h
        exact h
    have e : (List.range (Int.toNat 8)).map (fun (k : Nat) => V.bl (decide ((k : Int) = (n : Int)) || decide ((k : Int) = 7))) = (toldL n).map V.bl := by
      rw [toldL, List.map_map]
      rfl
    rw [e] at hbk
    refine rEq_of isD_bools (by decide) (dp_bools (SqL.of (s4 _ _ hp3))) (dp_bools (SqL.of hbk)) ?_
    rw [decide_eq_true rfl]
    exact q _

end
end Sh

namespace Sh
theorem all_mk {l : PySem.W.OpenLaw} {w : World} {K : PySem.W.Frag} {h : Heap} {mg : Str → Option Value} {fa : Addr} (X : K.In h) (G : h.Ns mainGlobals mg) (hfa : mg "law" = some (.ref fa))
    {f0 : Addr} {od0 an0 : Option Addr} {sl0 : Array (Option Value)} {oc0 kV0 dc0 pm0 cd0 ct0 : Value}
    {f1 : Addr} {od1 an1 : Option Addr} {sl1 : Array (Option Value)} {oc1 kV1 dc1 pm1 cd1 ct1 : Value}
    {f2 : Addr} {od2 an2 : Option Addr} {sl2 : Array (Option Value)} {oc2 kV2 dc2 pm2 cd2 ct2 : Value}
    {f3 : Addr} {od3 an3 : Option Addr} {sl3 : Array (Option Value)} {oc3 kV3 dc3 pm3 cd3 ct3 : Value}
    {f4 : Addr} {od4 an4 : Option Addr} {sl4 : Array (Option Value)} {oc4 kV4 dc4 pm4 cd4 ct4 : Value}
    {f5 : Addr} {od5 an5 : Option Addr} {sl5 : Array (Option Value)} {oc5 kV5 dc5 pm5 cd5 ct5 : Value}
    {f6 : Addr} {od6 an6 : Option Addr} {sl6 : Array (Option Value)} {oc6 kV6 dc6 pm6 cd6 ct6 : Value}
    {f7 : Addr} {od7 an7 : Option Addr} {sl7 : Array (Option Value)} {oc7 kV7 dc7 pm7 cd7 ct7 : Value}
    {f8 : Addr} {od8 an8 : Option Addr} {sl8 : Array (Option Value)} {oc8 kV8 dc8 pm8 cd8 ct8 : Value}
    {f9 : Addr} {od9 an9 : Option Addr} {sl9 : Array (Option Value)} {oc9 kV9 dc9 pm9 cd9 ct9 : Value}
    {f10 : Addr} {od10 an10 : Option Addr} {sl10 : Array (Option Value)} {oc10 kV10 dc10 pm10 cd10 ct10 : Value}
    {f11 : Addr} {od11 an11 : Option Addr} {sl11 : Array (Option Value)} {oc11 kV11 dc11 pm11 cd11 ct11 : Value}
    {f12 : Addr} {od12 an12 : Option Addr} {sl12 : Array (Option Value)} {oc12 kV12 dc12 pm12 cd12 ct12 : Value}
    {f13 : Addr} {od13 an13 : Option Addr} {sl13 : Array (Option Value)} {oc13 kV13 dc13 pm13 cd13 ct13 : Value}
    {f14 : Addr} {od14 an14 : Option Addr} {sl14 : Array (Option Value)} {oc14 kV14 dc14 pm14 cd14 ct14 : Value}
    {f15 : Addr} {od15 an15 : Option Addr} {sl15 : Array (Option Value)} {oc15 kV15 dc15 pm15 cd15 ct15 : Value}
    {f16 : Addr} {od16 an16 : Option Addr} {sl16 : Array (Option Value)} {oc16 kV16 dc16 pm16 cd16 ct16 : Value}
    {f17 : Addr} {od17 an17 : Option Addr} {sl17 : Array (Option Value)} {oc17 kV17 dc17 pm17 cd17 ct17 : Value}
    {f18 : Addr} {od18 an18 : Option Addr} {sl18 : Array (Option Value)} {oc18 kV18 dc18 pm18 cd18 ct18 : Value}
    {f19 : Addr} {od19 an19 : Option Addr} {sl19 : Array (Option Value)} {oc19 kV19 dc19 pm19 cd19 ct19 : Value}
    {f20 : Addr} {od20 an20 : Option Addr} {sl20 : Array (Option Value)} {oc20 kV20 dc20 pm20 cd20 ct20 : Value}
    {f21 : Addr} {od21 an21 : Option Addr} {sl21 : Array (Option Value)} {oc21 kV21 dc21 pm21 cd21 ct21 : Value}
    {f22 : Addr} {od22 an22 : Option Addr} {sl22 : Array (Option Value)} {oc22 kV22 dc22 pm22 cd22 ct22 : Value}
    {f23 : Addr} {od23 an23 : Option Addr} {sl23 : Array (Option Value)} {oc23 kV23 dc23 pm23 cd23 ct23 : Value}
    {f24 : Addr} {od24 an24 : Option Addr} {sl24 : Array (Option Value)} {oc24 kV24 dc24 pm24 cd24 ct24 : Value}
    {f25 : Addr} {od25 an25 : Option Addr} {sl25 : Array (Option Value)} {oc25 kV25 dc25 pm25 cd25 ct25 : Value}
    {f26 : Addr} {od26 an26 : Option Addr} {sl26 : Array (Option Value)} {oc26 kV26 dc26 pm26 cd26 ct26 : Value}
    {f27 : Addr} {od27 an27 : Option Addr} {sl27 : Array (Option Value)} {oc27 kV27 dc27 pm27 cd27 ct27 : Value}
    {f28 : Addr} {od28 an28 : Option Addr} {sl28 : Array (Option Value)} {oc28 kV28 dc28 pm28 cd28 ct28 : Value}
    {f29 : Addr} {od29 an29 : Option Addr} {sl29 : Array (Option Value)} {oc29 kV29 dc29 pm29 cd29 ct29 : Value}
    {f30 : Addr} {od30 an30 : Option Addr} {sl30 : Array (Option Value)} {oc30 kV30 dc30 pm30 cd30 ct30 : Value}
    {f31 : Addr} {od31 an31 : Option Addr} {sl31 : Array (Option Value)} {oc31 kV31 dc31 pm31 cd31 ct31 : Value}
    {f32 : Addr} {od32 an32 : Option Addr} {sl32 : Array (Option Value)} {oc32 kV32 dc32 pm32 cd32 ct32 : Value}
    {f33 : Addr} {od33 an33 : Option Addr} {sl33 : Array (Option Value)} {oc33 kV33 dc33 pm33 cd33 ct33 : Value}
    {f34 : Addr} {od34 an34 : Option Addr} {sl34 : Array (Option Value)} {oc34 kV34 dc34 pm34 cd34 ct34 : Value}
    {f35 : Addr} {od35 an35 : Option Addr} {sl35 : Array (Option Value)} {oc35 kV35 dc35 pm35 cd35 ct35 : Value}
    {f36 : Addr} {od36 an36 : Option Addr} {sl36 : Array (Option Value)} {oc36 kV36 dc36 pm36 cd36 ct36 : Value}
    {f37 : Addr} {od37 an37 : Option Addr} {sl37 : Array (Option Value)} {oc37 kV37 dc37 pm37 cd37 ct37 : Value}
    {f38 : Addr} {od38 an38 : Option Addr} {sl38 : Array (Option Value)} {oc38 kV38 dc38 pm38 cd38 ct38 : Value}
    {f39 : Addr} {od39 an39 : Option Addr} {sl39 : Array (Option Value)} {oc39 kV39 dc39 pm39 cd39 ct39 : Value}
    {f40 : Addr} {od40 an40 : Option Addr} {sl40 : Array (Option Value)} {oc40 kV40 dc40 pm40 cd40 ct40 : Value}
    {f41 : Addr} {od41 an41 : Option Addr} {sl41 : Array (Option Value)} {oc41 kV41 dc41 pm41 cd41 ct41 : Value}
    {f42 : Addr} {od42 an42 : Option Addr} {sl42 : Array (Option Value)} {oc42 kV42 dc42 pm42 cd42 ct42 : Value}
    {f43 : Addr} {od43 an43 : Option Addr} {sl43 : Array (Option Value)} {oc43 kV43 dc43 pm43 cd43 ct43 : Value}
    {f44 : Addr} {od44 an44 : Option Addr} {sl44 : Array (Option Value)} {oc44 kV44 dc44 pm44 cd44 ct44 : Value}
    {f45 : Addr} {od45 an45 : Option Addr} {sl45 : Array (Option Value)} {oc45 kV45 dc45 pm45 cd45 ct45 : Value}
    {f46 : Addr} {od46 an46 : Option Addr} {sl46 : Array (Option Value)} {oc46 kV46 dc46 pm46 cd46 ct46 : Value}
    {f47 : Addr} {od47 an47 : Option Addr} {sl47 : Array (Option Value)} {oc47 kV47 dc47 pm47 cd47 ct47 : Value}
    {f48 : Addr} {od48 an48 : Option Addr} {sl48 : Array (Option Value)} {oc48 kV48 dc48 pm48 cd48 ct48 : Value}
    {f49 : Addr} {od49 an49 : Option Addr} {sl49 : Array (Option Value)} {oc49 kV49 dc49 pm49 cd49 ct49 : Value}
    {t0 : Tok}
    {t1 : Tok}
    {t2 : Tok}
    {t3 : Tok}
    {ca4 : Addr} {cn4 : Nat} {cs4 : Array (Option Value)} {ct4_0 ct4_1 ct4_2 : Tok}
    {ca5 : Addr} {cn5 : Nat} {cs5 : Array (Option Value)} {ct5_0 ct5_1 ct5_2 : Tok}
    {C0 : Addr}
    {C1 : Addr}
    {C2 : Addr}
    {C3 : Addr}
    {C4 : Addr}
    {C5 : Addr}
    {C6 : Addr}
    {C7 : Addr}
    (a0 : PySem.W.nsIn K mainGlobals "_law_cell_at" = some (some (.ref f0)))
    (l0 : K.lookup f0 = some ⟨oc0, od0, .func (PySem.W.fnOf "_law_cell_at" "_law_cell_at" (defArgs s__law_cell_at) (defBody s__law_cell_at) (defScope s__law_cell_at) .none kV0 dc0 pm0 an0 cd0 ct0), sl0⟩)
    (c0 : PySem.W.codeIn K cd0 "_law_cell_at" = true)
    (k0 : PySem.W.keepIn K (.ref f0) = true)
    (a1 : PySem.W.nsIn K mainGlobals "ask_row" = some (some (.ref f1)))
    (l1 : K.lookup f1 = some ⟨oc1, od1, .func (PySem.W.fnOf "ask_row" "ask_row" (defArgs s_ask_row) (defBody s_ask_row) (defScope s_ask_row) .none kV1 dc1 pm1 an1 cd1 ct1), sl1⟩)
    (c1 : PySem.W.codeIn K cd1 "ask_row" = true)
    (k1 : PySem.W.keepIn K (.ref f1) = true)
    (a2 : PySem.W.nsIn K mainGlobals "ranks" = some (some (.ref f2)))
    (l2 : K.lookup f2 = some ⟨oc2, od2, .func (PySem.W.fnOf "ranks" "ranks" (defArgs s_ranks) (defBody s_ranks) (defScope s_ranks) .none kV2 dc2 pm2 an2 cd2 ct2), sl2⟩)
    (c2 : PySem.W.codeIn K cd2 "ranks" = true)
    (k2 : PySem.W.keepIn K (.ref f2) = true)
    (a3 : PySem.W.nsIn K mainGlobals "shape_of" = some (some (.ref f3)))
    (l3 : K.lookup f3 = some ⟨oc3, od3, .func (PySem.W.fnOf "shape_of" "shape_of" (defArgs s_shape_of) (defBody s_shape_of) (defScope s_shape_of) .none kV3 dc3 pm3 an3 cd3 ct3), sl3⟩)
    (c3 : PySem.W.codeIn K cd3 "shape_of" = true)
    (k3 : PySem.W.keepIn K (.ref f3) = true)
    (a4 : PySem.W.nsIn K mainGlobals "is_shape" = some (some (.ref f4)))
    (l4 : K.lookup f4 = some ⟨oc4, od4, .func (PySem.W.fnOf "is_shape" "is_shape" (defArgs s_is_shape) (defBody s_is_shape) (defScope s_is_shape) .none kV4 dc4 pm4 an4 cd4 ct4), sl4⟩)
    (c4 : PySem.W.codeIn K cd4 "is_shape" = true)
    (k4 : PySem.W.keepIn K (.ref f4) = true)
    (a5 : PySem.W.nsIn K mainGlobals "ask_shape" = some (some (.ref f5)))
    (l5 : K.lookup f5 = some ⟨oc5, od5, .func (PySem.W.fnOf "ask_shape" "ask_shape" (defArgs s_ask_shape) (defBody s_ask_shape) (defScope s_ask_shape) .none kV5 dc5 pm5 an5 cd5 ct5), sl5⟩)
    (c5 : PySem.W.codeIn K cd5 "ask_shape" = true)
    (k5 : PySem.W.keepIn K (.ref f5) = true)
    (a6 : PySem.W.nsIn K mainGlobals "ask_order" = some (some (.ref f6)))
    (l6 : K.lookup f6 = some ⟨oc6, od6, .func (PySem.W.fnOf "ask_order" "ask_order" (defArgs s_ask_order) (defBody s_ask_order) (defScope s_ask_order) .none kV6 dc6 pm6 an6 cd6 ct6), sl6⟩)
    (c6 : PySem.W.codeIn K cd6 "ask_order" = true)
    (k6 : PySem.W.keepIn K (.ref f6) = true)
    (a7 : PySem.W.nsIn K mainGlobals "fits" = some (some (.ref f7)))
    (l7 : K.lookup f7 = some ⟨oc7, od7, .func (PySem.W.fnOf "fits" "fits" (defArgs s_fits) (defBody s_fits) (defScope s_fits) .none kV7 dc7 pm7 an7 cd7 ct7), sl7⟩)
    (c7 : PySem.W.codeIn K cd7 "fits" = true)
    (k7 : PySem.W.keepIn K (.ref f7) = true)
    (a8 : PySem.W.nsIn K mainGlobals "grown" = some (some (.ref f8)))
    (l8 : K.lookup f8 = some ⟨oc8, od8, .func (PySem.W.fnOf "grown" "grown" (defArgs s_grown) (defBody s_grown) (defScope s_grown) .none kV8 dc8 pm8 an8 cd8 ct8), sl8⟩)
    (c8 : PySem.W.codeIn K cd8 "grown" = true)
    (k8 : PySem.W.keepIn K (.ref f8) = true)
    (a9 : PySem.W.nsIn K mainGlobals "all_places" = some (some (.ref f9)))
    (l9 : K.lookup f9 = some ⟨oc9, od9, .func (PySem.W.fnOf "all_places" "all_places" (defArgs s_all_places) (defBody s_all_places) (defScope s_all_places) .none kV9 dc9 pm9 an9 cd9 ct9), sl9⟩)
    (c9 : PySem.W.codeIn K cd9 "all_places" = true)
    (k9 : PySem.W.keepIn K (.ref f9) = true)
    (a10 : PySem.W.nsIn K mainGlobals "places" = some (some (.ref f10)))
    (l10 : K.lookup f10 = some ⟨oc10, od10, .func (PySem.W.fnOf "places" "places" (defArgs s_places) (defBody s_places) (defScope s_places) .none kV10 dc10 pm10 an10 cd10 ct10), sl10⟩)
    (c10 : PySem.W.codeIn K cd10 "places" = true)
    (k10 : PySem.W.keepIn K (.ref f10) = true)
    (a11 : PySem.W.nsIn K mainGlobals "many" = some (some (.ref f11)))
    (l11 : K.lookup f11 = some ⟨oc11, od11, .func (PySem.W.fnOf "many" "many" (defArgs s_many) (defBody s_many) (defScope s_many) .none kV11 dc11 pm11 an11 cd11 ct11), sl11⟩)
    (c11 : PySem.W.codeIn K cd11 "many" = true)
    (k11 : PySem.W.keepIn K (.ref f11) = true)
    (a12 : PySem.W.nsIn K mainGlobals "found_from" = some (some (.ref f12)))
    (l12 : K.lookup f12 = some ⟨oc12, od12, .func (PySem.W.fnOf "found_from" "found_from" (defArgs s_found_from) (defBody s_found_from) (defScope s_found_from) .none kV12 dc12 pm12 an12 cd12 ct12), sl12⟩)
    (c12 : PySem.W.codeIn K cd12 "found_from" = true)
    (k12 : PySem.W.keepIn K (.ref f12) = true)
    (a13 : PySem.W.nsIn K mainGlobals "first" = some (some (.ref f13)))
    (l13 : K.lookup f13 = some ⟨oc13, od13, .func (PySem.W.fnOf "first" "first" (defArgs s_first) (defBody s_first) (defScope s_first) .none kV13 dc13 pm13 an13 cd13 ct13), sl13⟩)
    (c13 : PySem.W.codeIn K cd13 "first" = true)
    (k13 : PySem.W.keepIn K (.ref f13) = true)
    (a14 : PySem.W.nsIn K mainGlobals "_law_within" = some (some (.ref f14)))
    (l14 : K.lookup f14 = some ⟨oc14, od14, .func (PySem.W.fnOf "_law_within" "_law_within" (defArgs s__law_within) (defBody s__law_within) (defScope s__law_within) .none kV14 dc14 pm14 an14 cd14 ct14), sl14⟩)
    (c14 : PySem.W.codeIn K cd14 "_law_within" = true)
    (k14 : PySem.W.keepIn K (.ref f14) = true)
    (a15 : PySem.W.nsIn K mainGlobals "_law_no_row" = some (some (.ref f15)))
    (l15 : K.lookup f15 = some ⟨oc15, od15, .func (PySem.W.fnOf "_law_no_row" "_law_no_row" (defArgs s__law_no_row) (defBody s__law_no_row) (defScope s__law_no_row) .none kV15 dc15 pm15 an15 cd15 ct15), sl15⟩)
    (c15 : PySem.W.codeIn K cd15 "_law_no_row" = true)
    (k15 : PySem.W.keepIn K (.ref f15) = true)
    (a16 : PySem.W.nsIn K mainGlobals "backward" = some (some (.ref f16)))
    (l16 : K.lookup f16 = some ⟨oc16, od16, .func (PySem.W.fnOf "backward" "backward" (defArgs s_backward) (defBody s_backward) (defScope s_backward) .none kV16 dc16 pm16 an16 cd16 ct16), sl16⟩)
    (c16 : PySem.W.codeIn K cd16 "backward" = true)
    (k16 : PySem.W.keepIn K (.ref f16) = true)
    (a17 : PySem.W.nsIn K mainGlobals "contrary" = some (some (.ref f17)))
    (l17 : K.lookup f17 = some ⟨oc17, od17, .func (PySem.W.fnOf "contrary" "contrary" (defArgs s_contrary) (defBody s_contrary) (defScope s_contrary) .none kV17 dc17 pm17 an17 cd17 ct17), sl17⟩)
    (c17 : PySem.W.codeIn K cd17 "contrary" = true)
    (k17 : PySem.W.keepIn K (.ref f17) = true)
    (a18 : PySem.W.nsIn K mainGlobals "turned_over" = some (some (.ref f18)))
    (l18 : K.lookup f18 = some ⟨oc18, od18, .func (PySem.W.fnOf "turned_over" "turned_over" (defArgs s_turned_over) (defBody s_turned_over) (defScope s_turned_over) .none kV18 dc18 pm18 an18 cd18 ct18), sl18⟩)
    (c18 : PySem.W.codeIn K cd18 "turned_over" = true)
    (k18 : PySem.W.keepIn K (.ref f18) = true)
    (a19 : PySem.W.nsIn K mainGlobals "falls" = some (some (.ref f19)))
    (l19 : K.lookup f19 = some ⟨oc19, od19, .func (PySem.W.fnOf "falls" "falls" (defArgs s_falls) (defBody s_falls) (defScope s_falls) .none kV19 dc19 pm19 an19 cd19 ct19), sl19⟩)
    (c19 : PySem.W.codeIn K cd19 "falls" = true)
    (k19 : PySem.W.keepIn K (.ref f19) = true)
    (a20 : PySem.W.nsIn K mainGlobals "wrong_pairs" = some (some (.ref f20)))
    (l20 : K.lookup f20 = some ⟨oc20, od20, .func (PySem.W.fnOf "wrong_pairs" "wrong_pairs" (defArgs s_wrong_pairs) (defBody s_wrong_pairs) (defScope s_wrong_pairs) .none kV20 dc20 pm20 an20 cd20 ct20), sl20⟩)
    (c20 : PySem.W.codeIn K cd20 "wrong_pairs" = true)
    (k20 : PySem.W.keepIn K (.ref f20) = true)
    (a21 : PySem.W.nsIn K mainGlobals "fall_sum" = some (some (.ref f21)))
    (l21 : K.lookup f21 = some ⟨oc21, od21, .func (PySem.W.fnOf "fall_sum" "fall_sum" (defArgs s_fall_sum) (defBody s_fall_sum) (defScope s_fall_sum) .none kV21 dc21 pm21 an21 cd21 ct21), sl21⟩)
    (c21 : PySem.W.codeIn K cd21 "fall_sum" = true)
    (k21 : PySem.W.keepIn K (.ref f21) = true)
    (a22 : PySem.W.nsIn K mainGlobals "parted" = some (some (.ref f22)))
    (l22 : K.lookup f22 = some ⟨oc22, od22, .func (PySem.W.fnOf "parted" "parted" (defArgs s_parted) (defBody s_parted) (defScope s_parted) .none kV22 dc22 pm22 an22 cd22 ct22), sl22⟩)
    (c22 : PySem.W.codeIn K cd22 "parted" = true)
    (k22 : PySem.W.keepIn K (.ref f22) = true)
    (a23 : PySem.W.nsIn K mainGlobals "exchanged" = some (some (.ref f23)))
    (l23 : K.lookup f23 = some ⟨oc23, od23, .func (PySem.W.fnOf "exchanged" "exchanged" (defArgs s_exchanged) (defBody s_exchanged) (defScope s_exchanged) .none kV23 dc23 pm23 an23 cd23 ct23), sl23⟩)
    (c23 : PySem.W.codeIn K cd23 "exchanged" = true)
    (k23 : PySem.W.keepIn K (.ref f23) = true)
    (a24 : PySem.W.nsIn K mainGlobals "exchanged_back" = some (some (.ref f24)))
    (l24 : K.lookup f24 = some ⟨oc24, od24, .func (PySem.W.fnOf "exchanged_back" "exchanged_back" (defArgs s_exchanged_back) (defBody s_exchanged_back) (defScope s_exchanged_back) .none kV24 dc24 pm24 an24 cd24 ct24), sl24⟩)
    (c24 : PySem.W.codeIn K cd24 "exchanged_back" = true)
    (k24 : PySem.W.keepIn K (.ref f24) = true)
    (a25 : PySem.W.nsIn K mainGlobals "_law_of_one" = some (some (.ref f25)))
    (l25 : K.lookup f25 = some ⟨oc25, od25, .func (PySem.W.fnOf "_law_of_one" "_law_of_one" (defArgs s__law_of_one) (defBody s__law_of_one) (defScope s__law_of_one) .none kV25 dc25 pm25 an25 cd25 ct25), sl25⟩)
    (c25 : PySem.W.codeIn K cd25 "_law_of_one" = true)
    (k25 : PySem.W.keepIn K (.ref f25) = true)
    (a26 : PySem.W.nsIn K mainGlobals "ask_three" = some (some (.ref f26)))
    (l26 : K.lookup f26 = some ⟨oc26, od26, .func (PySem.W.fnOf "ask_three" "ask_three" (defArgs s_ask_three) (defBody s_ask_three) (defScope s_ask_three) .none kV26 dc26 pm26 an26 cd26 ct26), sl26⟩)
    (c26 : PySem.W.codeIn K cd26 "ask_three" = true)
    (k26 : PySem.W.keepIn K (.ref f26) = true)
    (a27 : PySem.W.nsIn K mainGlobals "ask_size" = some (some (.ref f27)))
    (l27 : K.lookup f27 = some ⟨oc27, od27, .func (PySem.W.fnOf "ask_size" "ask_size" (defArgs s_ask_size) (defBody s_ask_size) (defScope s_ask_size) .none kV27 dc27 pm27 an27 cd27 ct27), sl27⟩)
    (c27 : PySem.W.codeIn K cd27 "ask_size" = true)
    (k27 : PySem.W.keepIn K (.ref f27) = true)
    (a28 : PySem.W.nsIn K mainGlobals "ways" = some (some (.ref f28)))
    (l28 : K.lookup f28 = some ⟨oc28, od28, .func (PySem.W.fnOf "ways" "ways" (defArgs s_ways) (defBody s_ways) (defScope s_ways) .none kV28 dc28 pm28 an28 cd28 ct28), sl28⟩)
    (c28 : PySem.W.codeIn K cd28 "ways" = true)
    (k28 : PySem.W.keepIn K (.ref f28) = true)
    (a29 : PySem.W.nsIn K mainGlobals "many_without" = some (some (.ref f29)))
    (l29 : K.lookup f29 = some ⟨oc29, od29, .func (PySem.W.fnOf "many_without" "many_without" (defArgs s_many_without) (defBody s_many_without) (defScope s_many_without) .none kV29 dc29 pm29 an29 cd29 ct29), sl29⟩)
    (c29 : PySem.W.codeIn K cd29 "many_without" = true)
    (k29 : PySem.W.keepIn K (.ref f29) = true)
    (a30 : PySem.W.nsIn K mainGlobals "piled" = some (some (.ref f30)))
    (l30 : K.lookup f30 = some ⟨oc30, od30, .func (PySem.W.fnOf "piled" "piled" (defArgs s_piled) (defBody s_piled) (defScope s_piled) .none kV30 dc30 pm30 an30 cd30 ct30), sl30⟩)
    (c30 : PySem.W.codeIn K cd30 "piled" = true)
    (k30 : PySem.W.keepIn K (.ref f30) = true)
    (a31 : PySem.W.nsIn K mainGlobals "lows" = some (some (.ref f31)))
    (l31 : K.lookup f31 = some ⟨oc31, od31, .func (PySem.W.fnOf "lows" "lows" (defArgs s_lows) (defBody s_lows) (defScope s_lows) .none kV31 dc31 pm31 an31 cd31 ct31), sl31⟩)
    (c31 : PySem.W.codeIn K cd31 "lows" = true)
    (k31 : PySem.W.keepIn K (.ref f31) = true)
    (a32 : PySem.W.nsIn K mainGlobals "filled" = some (some (.ref f32)))
    (l32 : K.lookup f32 = some ⟨oc32, od32, .func (PySem.W.fnOf "filled" "filled" (defArgs s_filled) (defBody s_filled) (defScope s_filled) .none kV32 dc32 pm32 an32 cd32 ct32), sl32⟩)
    (c32 : PySem.W.codeIn K cd32 "filled" = true)
    (k32 : PySem.W.keepIn K (.ref f32) = true)
    (a33 : PySem.W.nsIn K mainGlobals "turned" = some (some (.ref f33)))
    (l33 : K.lookup f33 = some ⟨oc33, od33, .func (PySem.W.fnOf "turned" "turned" (defArgs s_turned) (defBody s_turned) (defScope s_turned) .none kV33 dc33 pm33 an33 cd33 ct33), sl33⟩)
    (c33 : PySem.W.codeIn K cd33 "turned" = true)
    (k33 : PySem.W.keepIn K (.ref f33) = true)
    (a34 : PySem.W.nsIn K mainGlobals "made" = some (some (.ref f34)))
    (l34 : K.lookup f34 = some ⟨oc34, od34, .func (PySem.W.fnOf "made" "made" (defArgs s_made) (defBody s_made) (defScope s_made) .none kV34 dc34 pm34 an34 cd34 ct34), sl34⟩)
    (c34 : PySem.W.codeIn K cd34 "made" = true)
    (k34 : PySem.W.keepIn K (.ref f34) = true)
    (a35 : PySem.W.nsIn K mainGlobals "without_at" = some (some (.ref f35)))
    (l35 : K.lookup f35 = some ⟨oc35, od35, .func (PySem.W.fnOf "without_at" "without_at" (defArgs s_without_at) (defBody s_without_at) (defScope s_without_at) .none kV35 dc35 pm35 an35 cd35 ct35), sl35⟩)
    (c35 : PySem.W.codeIn K cd35 "without_at" = true)
    (k35 : PySem.W.keepIn K (.ref f35) = true)
    (a36 : PySem.W.nsIn K mainGlobals "ask_without" = some (some (.ref f36)))
    (l36 : K.lookup f36 = some ⟨oc36, od36, .func (PySem.W.fnOf "ask_without" "ask_without" (defArgs s_ask_without) (defBody s_ask_without) (defScope s_ask_without) .none kV36 dc36 pm36 an36 cd36 ct36), sl36⟩)
    (c36 : PySem.W.codeIn K cd36 "ask_without" = true)
    (k36 : PySem.W.keepIn K (.ref f36) = true)
    (a37 : PySem.W.nsIn K mainGlobals "pile_number" = some (some (.ref f37)))
    (l37 : K.lookup f37 = some ⟨oc37, od37, .func (PySem.W.fnOf "pile_number" "pile_number" (defArgs s_pile_number) (defBody s_pile_number) (defScope s_pile_number) .none kV37 dc37 pm37 an37 cd37 ct37), sl37⟩)
    (c37 : PySem.W.codeIn K cd37 "pile_number" = true)
    (k37 : PySem.W.keepIn K (.ref f37) = true)
    (a38 : PySem.W.nsIn K mainGlobals "numbered" = some (some (.ref f38)))
    (l38 : K.lookup f38 = some ⟨oc38, od38, .func (PySem.W.fnOf "numbered" "numbered" (defArgs s_numbered) (defBody s_numbered) (defScope s_numbered) .none kV38 dc38 pm38 an38 cd38 ct38), sl38⟩)
    (c38 : PySem.W.codeIn K cd38 "numbered" = true)
    (k38 : PySem.W.keepIn K (.ref f38) = true)
    (a39 : PySem.W.nsIn K mainGlobals "number_of" = some (some (.ref f39)))
    (l39 : K.lookup f39 = some ⟨oc39, od39, .func (PySem.W.fnOf "number_of" "number_of" (defArgs s_number_of) (defBody s_number_of) (defScope s_number_of) .none kV39 dc39 pm39 an39 cd39 ct39), sl39⟩)
    (c39 : PySem.W.codeIn K cd39 "number_of" = true)
    (k39 : PySem.W.keepIn K (.ref f39) = true)
    (a40 : PySem.W.nsIn K mainGlobals "led" = some (some (.ref f40)))
    (l40 : K.lookup f40 = some ⟨oc40, od40, .func (PySem.W.fnOf "led" "led" (defArgs s_led) (defBody s_led) (defScope s_led) .none kV40 dc40 pm40 an40 cd40 ct40), sl40⟩)
    (c40 : PySem.W.codeIn K cd40 "led" = true)
    (k40 : PySem.W.keepIn K (.ref f40) = true)
    (a41 : PySem.W.nsIn K mainGlobals "_law_no_shape" = some (some (.ref f41)))
    (l41 : K.lookup f41 = some ⟨oc41, od41, .func (PySem.W.fnOf "_law_no_shape" "_law_no_shape" (defArgs s__law_no_shape) (defBody s__law_no_shape) (defScope s__law_no_shape) .none kV41 dc41 pm41 an41 cd41 ct41), sl41⟩)
    (c41 : PySem.W.codeIn K cd41 "_law_no_shape" = true)
    (k41 : PySem.W.keepIn K (.ref f41) = true)
    (a42 : PySem.W.nsIn K mainGlobals "_law_no_order" = some (some (.ref f42)))
    (l42 : K.lookup f42 = some ⟨oc42, od42, .func (PySem.W.fnOf "_law_no_order" "_law_no_order" (defArgs s__law_no_order) (defBody s__law_no_order) (defScope s__law_no_order) .none kV42 dc42 pm42 an42 cd42 ct42), sl42⟩)
    (c42 : PySem.W.codeIn K cd42 "_law_no_order" = true)
    (k42 : PySem.W.keepIn K (.ref f42) = true)
    (a43 : PySem.W.nsIn K mainGlobals "many_falls" = some (some (.ref f43)))
    (l43 : K.lookup f43 = some ⟨oc43, od43, .func (PySem.W.fnOf "many_falls" "many_falls" (defArgs s_many_falls) (defBody s_many_falls) (defScope s_many_falls) .none kV43 dc43 pm43 an43 cd43 ct43), sl43⟩)
    (c43 : PySem.W.codeIn K cd43 "many_falls" = true)
    (k43 : PySem.W.keepIn K (.ref f43) = true)
    (a44 : PySem.W.nsIn K mainGlobals "many_wrong" = some (some (.ref f44)))
    (l44 : K.lookup f44 = some ⟨oc44, od44, .func (PySem.W.fnOf "many_wrong" "many_wrong" (defArgs s_many_wrong) (defBody s_many_wrong) (defScope s_many_wrong) .none kV44 dc44 pm44 an44 cd44 ct44), sl44⟩)
    (c44 : PySem.W.codeIn K cd44 "many_wrong" = true)
    (k44 : PySem.W.keepIn K (.ref f44) = true)
    (a45 : PySem.W.nsIn K mainGlobals "_law_no_size" = some (some (.ref f45)))
    (l45 : K.lookup f45 = some ⟨oc45, od45, .func (PySem.W.fnOf "_law_no_size" "_law_no_size" (defArgs s__law_no_size) (defBody s__law_no_size) (defScope s__law_no_size) .none kV45 dc45 pm45 an45 cd45 ct45), sl45⟩)
    (c45 : PySem.W.codeIn K cd45 "_law_no_size" = true)
    (k45 : PySem.W.keepIn K (.ref f45) = true)
    (a46 : PySem.W.nsIn K mainGlobals "_law_no_number" = some (some (.ref f46)))
    (l46 : K.lookup f46 = some ⟨oc46, od46, .func (PySem.W.fnOf "_law_no_number" "_law_no_number" (defArgs s__law_no_number) (defBody s__law_no_number) (defScope s__law_no_number) .none kV46 dc46 pm46 an46 cd46 ct46), sl46⟩)
    (c46 : PySem.W.codeIn K cd46 "_law_no_number" = true)
    (k46 : PySem.W.keepIn K (.ref f46) = true)
    (a47 : PySem.W.nsIn K mainGlobals "_law_done" = some (some (.ref f47)))
    (l47 : K.lookup f47 = some ⟨oc47, od47, .func (PySem.W.fnOf "_law_done" "_law_done" (defArgs s__law_done) (defBody s__law_done) (defScope s__law_done) .none kV47 dc47 pm47 an47 cd47 ct47), sl47⟩)
    (c47 : PySem.W.codeIn K cd47 "_law_done" = true)
    (k47 : PySem.W.keepIn K (.ref f47) = true)
    (a48 : PySem.W.nsIn K mainGlobals "_law_which" = some (some (.ref f48)))
    (l48 : K.lookup f48 = some ⟨oc48, od48, .func (PySem.W.fnOf "_law_which" "_law_which" (defArgs s__law_which) (defBody s__law_which) (defScope s__law_which) .none kV48 dc48 pm48 an48 cd48 ct48), sl48⟩)
    (c48 : PySem.W.codeIn K cd48 "_law_which" = true)
    (k48 : PySem.W.keepIn K (.ref f48) = true)
    (a49 : PySem.W.nsIn K mainGlobals "law" = some (some (.ref f49)))
    (l49 : K.lookup f49 = some ⟨oc49, od49, .func (PySem.W.fnOf "law" "law" (defArgs s_law) (defBody s_law) (defScope s_law) .none kV49 dc49 pm49 an49 cd49 ct49), sl49⟩)
    (c49 : PySem.W.codeIn K cd49 "law" = true)
    (k49 : PySem.W.keepIn K (.ref f49) = true)
    (z0 : PySem.W.nsIn K mainGlobals "len" = some none)
    (z1 : PySem.W.nsIn K mainGlobals "set" = some none)
    (z2 : PySem.W.nsIn K mainGlobals "sorted" = some none)
    (z3 : PySem.W.nsIn K mainGlobals "list" = some none)
    (z4 : PySem.W.nsIn K mainGlobals "range" = some none)
    (z5 : PySem.W.nsIn K mainGlobals "tuple" = some none)
    (z6 : PySem.W.nsIn K mainGlobals "reversed" = some none)
    (z7 : PySem.W.nsIn K mainGlobals "sum" = some none)
    (z8 : PySem.W.nsIn K mainGlobals "min" = some none)
    (z9 : PySem.W.nsIn K mainGlobals "isinstance" = some none)
    (z10 : PySem.W.nsIn K mainGlobals "ValueError" = some none)
    (n0 : PySem.W.nsIn K mainGlobals "MOST" = some (some (.int 30 t0)))
    (n1 : PySem.W.nsIn K mainGlobals "MOST_ORDER" = some (some (.int 4 t1)))
    (n2 : PySem.W.nsIn K mainGlobals "MOST_ROW" = some (some (.int 12 t2)))
    (n3 : PySem.W.nsIn K mainGlobals "MOST_SIZE" = some (some (.int 20 t3)))
    (n4 : PySem.W.nsIn K mainGlobals "FALL" = some (some (.ref ca4)))
    (nl4 : K.lookup ca4 = some ⟨.type "list", none, .seq #[.int 2 ct4_0, .int 1 ct4_1, .int 0 ct4_2] cn4, cs4⟩)
    (n5 : PySem.W.nsIn K mainGlobals "RISE" = some (some (.ref ca5)))
    (nl5 : K.lookup ca5 = some ⟨.type "list", none, .seq #[.int 0 ct5_0, .int 1 ct5_1, .int 2 ct5_2] cn5, cs5⟩)
    (x0 : PySem.W.nsIn K mainGlobals "NoRow" = some (some (.ref C0)))
    (xe0 : PySem.W.excIn K C0 [.type "ValueError", .type "Exception", .type "BaseException", .type "object"] "ValueError.__new__" = true)
    (xk0 : PySem.W.keepIn K (.ref C0) = true)
    (xb0 : PySem.W.subIn K (.ref C0) (.type "BaseException") = some true)
    (xt0 : PySem.W.typeIn K (.ref C0) = some (.type "type"))
    (x1 : PySem.W.nsIn K mainGlobals "NoShape" = some (some (.ref C1)))
    (xe1 : PySem.W.excIn K C1 [.type "ValueError", .type "Exception", .type "BaseException", .type "object"] "ValueError.__new__" = true)
    (xk1 : PySem.W.keepIn K (.ref C1) = true)
    (xb1 : PySem.W.subIn K (.ref C1) (.type "BaseException") = some true)
    (xt1 : PySem.W.typeIn K (.ref C1) = some (.type "type"))
    (x2 : PySem.W.nsIn K mainGlobals "NoOrder" = some (some (.ref C2)))
    (xe2 : PySem.W.excIn K C2 [.type "ValueError", .type "Exception", .type "BaseException", .type "object"] "ValueError.__new__" = true)
    (xk2 : PySem.W.keepIn K (.ref C2) = true)
    (xb2 : PySem.W.subIn K (.ref C2) (.type "BaseException") = some true)
    (xt2 : PySem.W.typeIn K (.ref C2) = some (.type "type"))
    (x3 : PySem.W.nsIn K mainGlobals "TooLong" = some (some (.ref C3)))
    (xe3 : PySem.W.excIn K C3 [.type "ValueError", .type "Exception", .type "BaseException", .type "object"] "ValueError.__new__" = true)
    (xk3 : PySem.W.keepIn K (.ref C3) = true)
    (xb3 : PySem.W.subIn K (.ref C3) (.type "BaseException") = some true)
    (xt3 : PySem.W.typeIn K (.ref C3) = some (.type "type"))
    (x4 : PySem.W.nsIn K mainGlobals "NoSize" = some (some (.ref C4)))
    (xe4 : PySem.W.excIn K C4 [.type "ValueError", .type "Exception", .type "BaseException", .type "object"] "ValueError.__new__" = true)
    (xk4 : PySem.W.keepIn K (.ref C4) = true)
    (xb4 : PySem.W.subIn K (.ref C4) (.type "BaseException") = some true)
    (xt4 : PySem.W.typeIn K (.ref C4) = some (.type "type"))
    (x5 : PySem.W.nsIn K mainGlobals "NoNumber" = some (some (.ref C5)))
    (xe5 : PySem.W.excIn K C5 [.type "ValueError", .type "Exception", .type "BaseException", .type "object"] "ValueError.__new__" = true)
    (xk5 : PySem.W.keepIn K (.ref C5) = true)
    (xb5 : PySem.W.subIn K (.ref C5) (.type "BaseException") = some true)
    (xt5 : PySem.W.typeIn K (.ref C5) = some (.type "type"))
    (x6 : PySem.W.nsIn K mainGlobals "HasOrder" = some (some (.ref C6)))
    (xe6 : PySem.W.excIn K C6 [.type "ValueError", .type "Exception", .type "BaseException", .type "object"] "ValueError.__new__" = true)
    (xk6 : PySem.W.keepIn K (.ref C6) = true)
    (xb6 : PySem.W.subIn K (.ref C6) (.type "BaseException") = some true)
    (xt6 : PySem.W.typeIn K (.ref C6) = some (.type "type"))
    (x7 : PySem.W.nsIn K mainGlobals "OrderError" = some (some (.ref C7)))
    (xe7 : PySem.W.excIn K C7 [.type "ValueError", .type "Exception", .type "BaseException", .type "object"] "ValueError.__new__" = true)
    (xk7 : PySem.W.keepIn K (.ref C7) = true)
    (xb7 : PySem.W.subIn K (.ref C7) (.type "BaseException") = some true)
    (xt7 : PySem.W.typeIn K (.ref C7) = some (.type "type"))
    (xd0 : PySem.W.hasDictIn K C0 = true)
    (xd1 : PySem.W.hasDictIn K C1 = true)
    (xd2 : PySem.W.hasDictIn K C2 = true)
    (xd3 : PySem.W.hasDictIn K C3 = true)
    (xd4 : PySem.W.hasDictIn K C4 = true)
    (xd5 : PySem.W.hasDictIn K C5 = true)
    (xd6 : PySem.W.hasDictIn K C6 = true)
    (xd7 : PySem.W.hasDictIn K C7 = true)
    (y1 : PySem.W.specialIn K (.builtin "object.__class__") "__get__" = some (some (.builtin "getset_descriptor.__get__")))
    (y2 : PySem.W.takesIn K (.builtin "object.__class__") = some true)
    (ya0 : PySem.W.findIn K (.ref C0) "__getattribute__" = some (some (.builtin "BaseException.__getattribute__")))
    (yb0 : PySem.W.findIn K (.ref C0) "__getattr__" = some none)
    (yc0 : PySem.W.findIn K (.ref C0) "__class__" = some (some (.builtin "object.__class__")))
    (yd0 : PySem.W.mroIn K C0 (.type "object") = some true)
    (ye0 : PySem.W.subIn K (.ref C0) (.type "ValueError") = some true)
    (yf0_0 : PySem.W.subIn K (.ref C0) (.ref C0) = some true)
    (yf0_1 : PySem.W.subIn K (.ref C0) (.ref C1) = some false)
    (yf0_2 : PySem.W.subIn K (.ref C0) (.ref C2) = some false)
    (yf0_3 : PySem.W.subIn K (.ref C0) (.ref C3) = some false)
    (yf0_4 : PySem.W.subIn K (.ref C0) (.ref C4) = some false)
    (yf0_5 : PySem.W.subIn K (.ref C0) (.ref C5) = some false)
    (yf0_6 : PySem.W.subIn K (.ref C0) (.ref C6) = some false)
    (yf0_7 : PySem.W.subIn K (.ref C0) (.ref C7) = some true)
    (ya1 : PySem.W.findIn K (.ref C1) "__getattribute__" = some (some (.builtin "BaseException.__getattribute__")))
    (yb1 : PySem.W.findIn K (.ref C1) "__getattr__" = some none)
    (yc1 : PySem.W.findIn K (.ref C1) "__class__" = some (some (.builtin "object.__class__")))
    (yd1 : PySem.W.mroIn K C1 (.type "object") = some true)
    (ye1 : PySem.W.subIn K (.ref C1) (.type "ValueError") = some true)
    (yf1_0 : PySem.W.subIn K (.ref C1) (.ref C0) = some false)
    (yf1_1 : PySem.W.subIn K (.ref C1) (.ref C1) = some true)
    (yf1_2 : PySem.W.subIn K (.ref C1) (.ref C2) = some false)
    (yf1_3 : PySem.W.subIn K (.ref C1) (.ref C3) = some false)
    (yf1_4 : PySem.W.subIn K (.ref C1) (.ref C4) = some false)
    (yf1_5 : PySem.W.subIn K (.ref C1) (.ref C5) = some false)
    (yf1_6 : PySem.W.subIn K (.ref C1) (.ref C6) = some false)
    (yf1_7 : PySem.W.subIn K (.ref C1) (.ref C7) = some true)
    (ya2 : PySem.W.findIn K (.ref C2) "__getattribute__" = some (some (.builtin "BaseException.__getattribute__")))
    (yb2 : PySem.W.findIn K (.ref C2) "__getattr__" = some none)
    (yc2 : PySem.W.findIn K (.ref C2) "__class__" = some (some (.builtin "object.__class__")))
    (yd2 : PySem.W.mroIn K C2 (.type "object") = some true)
    (ye2 : PySem.W.subIn K (.ref C2) (.type "ValueError") = some true)
    (yf2_0 : PySem.W.subIn K (.ref C2) (.ref C0) = some false)
    (yf2_1 : PySem.W.subIn K (.ref C2) (.ref C1) = some false)
    (yf2_2 : PySem.W.subIn K (.ref C2) (.ref C2) = some true)
    (yf2_3 : PySem.W.subIn K (.ref C2) (.ref C3) = some false)
    (yf2_4 : PySem.W.subIn K (.ref C2) (.ref C4) = some false)
    (yf2_5 : PySem.W.subIn K (.ref C2) (.ref C5) = some false)
    (yf2_6 : PySem.W.subIn K (.ref C2) (.ref C6) = some false)
    (yf2_7 : PySem.W.subIn K (.ref C2) (.ref C7) = some true)
    (ya3 : PySem.W.findIn K (.ref C3) "__getattribute__" = some (some (.builtin "BaseException.__getattribute__")))
    (yb3 : PySem.W.findIn K (.ref C3) "__getattr__" = some none)
    (yc3 : PySem.W.findIn K (.ref C3) "__class__" = some (some (.builtin "object.__class__")))
    (yd3 : PySem.W.mroIn K C3 (.type "object") = some true)
    (ye3 : PySem.W.subIn K (.ref C3) (.type "ValueError") = some true)
    (yf3_0 : PySem.W.subIn K (.ref C3) (.ref C0) = some false)
    (yf3_1 : PySem.W.subIn K (.ref C3) (.ref C1) = some false)
    (yf3_2 : PySem.W.subIn K (.ref C3) (.ref C2) = some false)
    (yf3_3 : PySem.W.subIn K (.ref C3) (.ref C3) = some true)
    (yf3_4 : PySem.W.subIn K (.ref C3) (.ref C4) = some false)
    (yf3_5 : PySem.W.subIn K (.ref C3) (.ref C5) = some false)
    (yf3_6 : PySem.W.subIn K (.ref C3) (.ref C6) = some false)
    (yf3_7 : PySem.W.subIn K (.ref C3) (.ref C7) = some true)
    (ya4 : PySem.W.findIn K (.ref C4) "__getattribute__" = some (some (.builtin "BaseException.__getattribute__")))
    (yb4 : PySem.W.findIn K (.ref C4) "__getattr__" = some none)
    (yc4 : PySem.W.findIn K (.ref C4) "__class__" = some (some (.builtin "object.__class__")))
    (yd4 : PySem.W.mroIn K C4 (.type "object") = some true)
    (ye4 : PySem.W.subIn K (.ref C4) (.type "ValueError") = some true)
    (yf4_0 : PySem.W.subIn K (.ref C4) (.ref C0) = some false)
    (yf4_1 : PySem.W.subIn K (.ref C4) (.ref C1) = some false)
    (yf4_2 : PySem.W.subIn K (.ref C4) (.ref C2) = some false)
    (yf4_3 : PySem.W.subIn K (.ref C4) (.ref C3) = some false)
    (yf4_4 : PySem.W.subIn K (.ref C4) (.ref C4) = some true)
    (yf4_5 : PySem.W.subIn K (.ref C4) (.ref C5) = some false)
    (yf4_6 : PySem.W.subIn K (.ref C4) (.ref C6) = some false)
    (yf4_7 : PySem.W.subIn K (.ref C4) (.ref C7) = some true)
    (ya5 : PySem.W.findIn K (.ref C5) "__getattribute__" = some (some (.builtin "BaseException.__getattribute__")))
    (yb5 : PySem.W.findIn K (.ref C5) "__getattr__" = some none)
    (yc5 : PySem.W.findIn K (.ref C5) "__class__" = some (some (.builtin "object.__class__")))
    (yd5 : PySem.W.mroIn K C5 (.type "object") = some true)
    (ye5 : PySem.W.subIn K (.ref C5) (.type "ValueError") = some true)
    (yf5_0 : PySem.W.subIn K (.ref C5) (.ref C0) = some false)
    (yf5_1 : PySem.W.subIn K (.ref C5) (.ref C1) = some false)
    (yf5_2 : PySem.W.subIn K (.ref C5) (.ref C2) = some false)
    (yf5_3 : PySem.W.subIn K (.ref C5) (.ref C3) = some false)
    (yf5_4 : PySem.W.subIn K (.ref C5) (.ref C4) = some false)
    (yf5_5 : PySem.W.subIn K (.ref C5) (.ref C5) = some true)
    (yf5_6 : PySem.W.subIn K (.ref C5) (.ref C6) = some false)
    (yf5_7 : PySem.W.subIn K (.ref C5) (.ref C7) = some true)
    (ya6 : PySem.W.findIn K (.ref C6) "__getattribute__" = some (some (.builtin "BaseException.__getattribute__")))
    (yb6 : PySem.W.findIn K (.ref C6) "__getattr__" = some none)
    (yc6 : PySem.W.findIn K (.ref C6) "__class__" = some (some (.builtin "object.__class__")))
    (yd6 : PySem.W.mroIn K C6 (.type "object") = some true)
    (ye6 : PySem.W.subIn K (.ref C6) (.type "ValueError") = some true)
    (yf6_0 : PySem.W.subIn K (.ref C6) (.ref C0) = some false)
    (yf6_1 : PySem.W.subIn K (.ref C6) (.ref C1) = some false)
    (yf6_2 : PySem.W.subIn K (.ref C6) (.ref C2) = some false)
    (yf6_3 : PySem.W.subIn K (.ref C6) (.ref C3) = some false)
    (yf6_4 : PySem.W.subIn K (.ref C6) (.ref C4) = some false)
    (yf6_5 : PySem.W.subIn K (.ref C6) (.ref C5) = some false)
    (yf6_6 : PySem.W.subIn K (.ref C6) (.ref C6) = some true)
    (yf6_7 : PySem.W.subIn K (.ref C6) (.ref C7) = some true) :
    ∃ fd : FuncData, (∀ (s : Shared) (v : Value), BindsTo s fd ⟨[v], []⟩ [("script", v)]) ∧ ∀ base : Heap, K.In base → base.Ns mainGlobals mg → FnOk l.prog w K mg base CX0 15 fa fd ["script"] (spL K) := by
  have e := hfa.symm.trans (PySem.W.mg_of X G a49)
  cases e
  have F0 := fun_mk (st := s__law_cell_at) l0 c0 k0
  have b0 := F0.binds (ps := ["script", "k"]) fun _ _ _ _ _ _ us hl => match us, hl with | [_, _], _ => rfl
  have F1 := fun_mk (st := s_ask_row) l1 c1 k1
  have b1 := F1.binds (ps := ["row"]) fun _ _ _ _ _ _ us hl => match us, hl with | [_], _ => rfl
  have F2 := fun_mk (st := s_ranks) l2 c2 k2
  have b2 := F2.binds (ps := ["row"]) fun _ _ _ _ _ _ us hl => match us, hl with | [_], _ => rfl
  have F3 := fun_mk (st := s_shape_of) l3 c3 k3
  have b3 := F3.binds (ps := ["row"]) fun _ _ _ _ _ _ us hl => match us, hl with | [_], _ => rfl
  have F4 := fun_mk (st := s_is_shape) l4 c4 k4
  have b4 := F4.binds (ps := ["some"]) fun _ _ _ _ _ _ us hl => match us, hl with | [_], _ => rfl
  have F5 := fun_mk (st := s_ask_shape) l5 c5 k5
  have b5 := F5.binds (ps := ["shape"]) fun _ _ _ _ _ _ us hl => match us, hl with | [_], _ => rfl
  have F6 := fun_mk (st := s_ask_order) l6 c6 k6
  have b6 := F6.binds (ps := ["order"]) fun _ _ _ _ _ _ us hl => match us, hl with | [_], _ => rfl
  have F7 := fun_mk (st := s_fits) l7 c7 k7
  have b7 := F7.binds (ps := ["row", "told", "order"]) fun _ _ _ _ _ _ us hl => match us, hl with | [_, _, _], _ => rfl
  have F8 := fun_mk (st := s_grown) l8 c8 k8
  have b8 := F8.binds (ps := ["row", "order", "told"]) fun _ _ _ _ _ _ us hl => match us, hl with | [_, _, _], _ => rfl
  have F9 := fun_mk (st := s_all_places) l9 c9 k9
  have b9 := F9.binds (ps := ["row", "order"]) fun _ _ _ _ _ _ us hl => match us, hl with | [_, _], _ => rfl
  have F10 := fun_mk (st := s_places) l10 c10 k10
  have b10 := F10.binds (ps := ["row", "order"]) fun _ _ _ _ _ _ us hl => match us, hl with | [_, _], _ => rfl
  have F11 := fun_mk (st := s_many) l11 c11 k11
  have b11 := F11.binds (ps := ["row", "order"]) fun _ _ _ _ _ _ us hl => match us, hl with | [_, _], _ => rfl
  have F12 := fun_mk (st := s_found_from) l12 c12 k12
  have b12 := F12.binds (ps := ["row", "order", "told"]) fun _ _ _ _ _ _ us hl => match us, hl with | [_, _, _], _ => rfl
  have F13 := fun_mk (st := s_first) l13 c13 k13
  have b13 := F13.binds (ps := ["row", "order"]) fun _ _ _ _ _ _ us hl => match us, hl with | [_, _], _ => rfl
  have F14 := fun_mk (st := s__law_within) l14 c14 k14
  have b14 := F14.binds (ps := ["way", "row", "order"]) fun _ _ _ _ _ _ us hl => match us, hl with | [_, _, _], _ => rfl
  have F15 := fun_mk (st := s__law_no_row) l15 c15 k15
  have b15 := F15.binds (ps := ["cell", "far"]) fun _ _ _ _ _ _ us hl => match us, hl with | [_, _], _ => rfl
  have F16 := fun_mk (st := s_backward) l16 c16 k16
  have b16 := F16.binds (ps := ["shape"]) fun _ _ _ _ _ _ us hl => match us, hl with | [_], _ => rfl
  have F17 := fun_mk (st := s_contrary) l17 c17 k17
  have b17 := F17.binds (ps := ["shape"]) fun _ _ _ _ _ _ us hl => match us, hl with | [_], _ => rfl
  have F18 := fun_mk (st := s_turned_over) l18 c18 k18
  have b18 := F18.binds (ps := ["shape"]) fun _ _ _ _ _ _ us hl => match us, hl with | [_], _ => rfl
  have F19 := fun_mk (st := s_falls) l19 c19 k19
  have b19 := F19.binds (ps := ["shape"]) fun _ _ _ _ _ _ us hl => match us, hl with | [_], _ => rfl
  have F20 := fun_mk (st := s_wrong_pairs) l20 c20 k20
  have b20 := F20.binds (ps := ["shape"]) fun _ _ _ _ _ _ us hl => match us, hl with | [_], _ => rfl
  have F21 := fun_mk (st := s_fall_sum) l21 c21 k21
  have b21 := F21.binds (ps := ["shape"]) fun _ _ _ _ _ _ us hl => match us, hl with | [_], _ => rfl
  have F22 := fun_mk (st := s_parted) l22 c22 k22
  have b22 := F22.binds (ps := ["row", "number"]) fun _ _ _ _ _ _ us hl => match us, hl with | [_, _], _ => rfl
  have F23 := fun_mk (st := s_exchanged) l23 c23 k23
  have b23 := F23.binds (ps := ["shape"]) fun _ _ _ _ _ _ us hl => match us, hl with | [_], _ => rfl
  have F24 := fun_mk (st := s_exchanged_back) l24 c24 k24
  have b24 := F24.binds (ps := ["shape"]) fun _ _ _ _ _ _ us hl => match us, hl with | [_], _ => rfl
  have F25 := fun_mk (st := s__law_of_one) l25 c25 k25
  have b25 := F25.binds (ps := ["way", "shape"]) fun _ _ _ _ _ _ us hl => match us, hl with | [_, _], _ => rfl
  have F26 := fun_mk (st := s_ask_three) l26 c26 k26
  have b26 := F26.binds (ps := ["order"]) fun _ _ _ _ _ _ us hl => match us, hl with | [_], _ => rfl
  have F27 := fun_mk (st := s_ask_size) l27 c27 k27
  have b27 := F27.binds (ps := ["size"]) fun _ _ _ _ _ _ us hl => match us, hl with | [_], _ => rfl
  have F28 := fun_mk (st := s_ways) l28 c28 k28
  have b28 := F28.binds (ps := ["size"]) fun _ _ _ _ _ _ us hl => match us, hl with | [_], _ => rfl
  have F29 := fun_mk (st := s_many_without) l29 c29 k29
  have b29 := F29.binds (ps := ["size"]) fun _ _ _ _ _ _ us hl => match us, hl with | [_], _ => rfl
  have F30 := fun_mk (st := s_piled) l30 c30 k30
  have b30 := F30.binds (ps := ["size", "number"]) fun _ _ _ _ _ _ us hl => match us, hl with | [_, _], _ => rfl
  have F31 := fun_mk (st := s_lows) l31 c31 k31
  have b31 := F31.binds (ps := ["shape"]) fun _ _ _ _ _ _ us hl => match us, hl with | [_], _ => rfl
  have F32 := fun_mk (st := s_filled) l32 c32 k32
  have b32 := F32.binds (ps := ["shape", "falling"]) fun _ _ _ _ _ _ us hl => match us, hl with | [_, _], _ => rfl
  have F33 := fun_mk (st := s_turned) l33 c33 k33
  have b33 := F33.binds (ps := ["shape", "order"]) fun _ _ _ _ _ _ us hl => match us, hl with | [_, _], _ => rfl
  have F34 := fun_mk (st := s_made) l34 c34 k34
  have b34 := F34.binds (ps := ["size", "order", "number"]) fun _ _ _ _ _ _ us hl => match us, hl with | [_, _, _], _ => rfl
  have F35 := fun_mk (st := s_without_at) l35 c35 k35
  have b35 := F35.binds (ps := ["size", "order", "number"]) fun _ _ _ _ _ _ us hl => match us, hl with | [_, _, _], _ => rfl
  have F36 := fun_mk (st := s_ask_without) l36 c36 k36
  have b36 := F36.binds (ps := ["shape", "order"]) fun _ _ _ _ _ _ us hl => match us, hl with | [_, _], _ => rfl
  have F37 := fun_mk (st := s_pile_number) l37 c37 k37
  have b37 := F37.binds (ps := ["shape"]) fun _ _ _ _ _ _ us hl => match us, hl with | [_], _ => rfl
  have F38 := fun_mk (st := s_numbered) l38 c38 k38
  have b38 := F38.binds (ps := ["shape", "order"]) fun _ _ _ _ _ _ us hl => match us, hl with | [_, _], _ => rfl
  have F39 := fun_mk (st := s_number_of) l39 c39 k39
  have b39 := F39.binds (ps := ["shape", "order"]) fun _ _ _ _ _ _ us hl => match us, hl with | [_, _], _ => rfl
  have F40 := fun_mk (st := s_led) l40 c40 k40
  have b40 := F40.binds (ps := ["shape", "order", "other"]) fun _ _ _ _ _ _ us hl => match us, hl with | [_, _, _], _ => rfl
  have F41 := fun_mk (st := s__law_no_shape) l41 c41 k41
  have b41 := F41.binds (ps := ["cell", "far"]) fun _ _ _ _ _ _ us hl => match us, hl with | [_, _], _ => rfl
  have F42 := fun_mk (st := s__law_no_order) l42 c42 k42
  have b42 := F42.binds (ps := ["cell", "far"]) fun _ _ _ _ _ _ us hl => match us, hl with | [_, _], _ => rfl
  have F43 := fun_mk (st := s_many_falls) l43 c43 k43
  have b43 := F43.binds (ps := ["size", "wanted"]) fun _ _ _ _ _ _ us hl => match us, hl with | [_, _], _ => rfl
  have F44 := fun_mk (st := s_many_wrong) l44 c44 k44
  have b44 := F44.binds (ps := ["size", "wanted"]) fun _ _ _ _ _ _ us hl => match us, hl with | [_, _], _ => rfl
  have F45 := fun_mk (st := s__law_no_size) l45 c45 k45
  have b45 := F45.binds (ps := ["cell", "far"]) fun _ _ _ _ _ _ us hl => match us, hl with | [_, _], _ => rfl
  have F46 := fun_mk (st := s__law_no_number) l46 c46 k46
  have b46 := F46.binds (ps := ["cell", "far"]) fun _ _ _ _ _ _ us hl => match us, hl with | [_, _], _ => rfl
  have F47 := fun_mk (st := s__law_done) l47 c47 k47
  have b47 := F47.binds (ps := ["way", "cell", "far"]) fun _ _ _ _ _ _ us hl => match us, hl with | [_, _, _], _ => rfl
  have F48 := fun_mk (st := s__law_which) l48 c48 k48
  have b48 := F48.binds (ps := ["e"]) fun _ _ _ _ _ _ us hl => match us, hl with | [_], _ => rfl
  have F49 := fun_mk (st := s_law) l49 c49 k49
  have b49 := F49.binds (ps := ["script"]) fun _ _ _ _ _ _ us hl => match us, hl with | [_], _ => rfl
  let T : Tx K mg := {
    f__law_cell_at := _, fd__law_cell_at := _, F__law_cell_at := F0, g__law_cell_at := PySem.W.mg_of X G a0, b__law_cell_at := b0,
    f_ask_row := _, fd_ask_row := _, F_ask_row := F1, g_ask_row := PySem.W.mg_of X G a1, b_ask_row := b1,
    f_ranks := _, fd_ranks := _, F_ranks := F2, g_ranks := PySem.W.mg_of X G a2, b_ranks := b2,
    f_shape_of := _, fd_shape_of := _, F_shape_of := F3, g_shape_of := PySem.W.mg_of X G a3, b_shape_of := b3,
    f_is_shape := _, fd_is_shape := _, F_is_shape := F4, g_is_shape := PySem.W.mg_of X G a4, b_is_shape := b4,
    f_ask_shape := _, fd_ask_shape := _, F_ask_shape := F5, g_ask_shape := PySem.W.mg_of X G a5, b_ask_shape := b5,
    f_ask_order := _, fd_ask_order := _, F_ask_order := F6, g_ask_order := PySem.W.mg_of X G a6, b_ask_order := b6,
    f_fits := _, fd_fits := _, F_fits := F7, g_fits := PySem.W.mg_of X G a7, b_fits := b7,
    f_grown := _, fd_grown := _, F_grown := F8, g_grown := PySem.W.mg_of X G a8, b_grown := b8,
    f_all_places := _, fd_all_places := _, F_all_places := F9, g_all_places := PySem.W.mg_of X G a9, b_all_places := b9,
    f_places := _, fd_places := _, F_places := F10, g_places := PySem.W.mg_of X G a10, b_places := b10,
    f_many := _, fd_many := _, F_many := F11, g_many := PySem.W.mg_of X G a11, b_many := b11,
    f_found_from := _, fd_found_from := _, F_found_from := F12, g_found_from := PySem.W.mg_of X G a12, b_found_from := b12,
    f_first := _, fd_first := _, F_first := F13, g_first := PySem.W.mg_of X G a13, b_first := b13,
    f__law_within := _, fd__law_within := _, F__law_within := F14, g__law_within := PySem.W.mg_of X G a14, b__law_within := b14,
    f__law_no_row := _, fd__law_no_row := _, F__law_no_row := F15, g__law_no_row := PySem.W.mg_of X G a15, b__law_no_row := b15,
    f_backward := _, fd_backward := _, F_backward := F16, g_backward := PySem.W.mg_of X G a16, b_backward := b16,
    f_contrary := _, fd_contrary := _, F_contrary := F17, g_contrary := PySem.W.mg_of X G a17, b_contrary := b17,
    f_turned_over := _, fd_turned_over := _, F_turned_over := F18, g_turned_over := PySem.W.mg_of X G a18, b_turned_over := b18,
    f_falls := _, fd_falls := _, F_falls := F19, g_falls := PySem.W.mg_of X G a19, b_falls := b19,
    f_wrong_pairs := _, fd_wrong_pairs := _, F_wrong_pairs := F20, g_wrong_pairs := PySem.W.mg_of X G a20, b_wrong_pairs := b20,
    f_fall_sum := _, fd_fall_sum := _, F_fall_sum := F21, g_fall_sum := PySem.W.mg_of X G a21, b_fall_sum := b21,
    f_parted := _, fd_parted := _, F_parted := F22, g_parted := PySem.W.mg_of X G a22, b_parted := b22,
    f_exchanged := _, fd_exchanged := _, F_exchanged := F23, g_exchanged := PySem.W.mg_of X G a23, b_exchanged := b23,
    f_exchanged_back := _, fd_exchanged_back := _, F_exchanged_back := F24, g_exchanged_back := PySem.W.mg_of X G a24, b_exchanged_back := b24,
    f__law_of_one := _, fd__law_of_one := _, F__law_of_one := F25, g__law_of_one := PySem.W.mg_of X G a25, b__law_of_one := b25,
    f_ask_three := _, fd_ask_three := _, F_ask_three := F26, g_ask_three := PySem.W.mg_of X G a26, b_ask_three := b26,
    f_ask_size := _, fd_ask_size := _, F_ask_size := F27, g_ask_size := PySem.W.mg_of X G a27, b_ask_size := b27,
    f_ways := _, fd_ways := _, F_ways := F28, g_ways := PySem.W.mg_of X G a28, b_ways := b28,
    f_many_without := _, fd_many_without := _, F_many_without := F29, g_many_without := PySem.W.mg_of X G a29, b_many_without := b29,
    f_piled := _, fd_piled := _, F_piled := F30, g_piled := PySem.W.mg_of X G a30, b_piled := b30,
    f_lows := _, fd_lows := _, F_lows := F31, g_lows := PySem.W.mg_of X G a31, b_lows := b31,
    f_filled := _, fd_filled := _, F_filled := F32, g_filled := PySem.W.mg_of X G a32, b_filled := b32,
    f_turned := _, fd_turned := _, F_turned := F33, g_turned := PySem.W.mg_of X G a33, b_turned := b33,
    f_made := _, fd_made := _, F_made := F34, g_made := PySem.W.mg_of X G a34, b_made := b34,
    f_without_at := _, fd_without_at := _, F_without_at := F35, g_without_at := PySem.W.mg_of X G a35, b_without_at := b35,
    f_ask_without := _, fd_ask_without := _, F_ask_without := F36, g_ask_without := PySem.W.mg_of X G a36, b_ask_without := b36,
    f_pile_number := _, fd_pile_number := _, F_pile_number := F37, g_pile_number := PySem.W.mg_of X G a37, b_pile_number := b37,
    f_numbered := _, fd_numbered := _, F_numbered := F38, g_numbered := PySem.W.mg_of X G a38, b_numbered := b38,
    f_number_of := _, fd_number_of := _, F_number_of := F39, g_number_of := PySem.W.mg_of X G a39, b_number_of := b39,
    f_led := _, fd_led := _, F_led := F40, g_led := PySem.W.mg_of X G a40, b_led := b40,
    f__law_no_shape := _, fd__law_no_shape := _, F__law_no_shape := F41, g__law_no_shape := PySem.W.mg_of X G a41, b__law_no_shape := b41,
    f__law_no_order := _, fd__law_no_order := _, F__law_no_order := F42, g__law_no_order := PySem.W.mg_of X G a42, b__law_no_order := b42,
    f_many_falls := _, fd_many_falls := _, F_many_falls := F43, g_many_falls := PySem.W.mg_of X G a43, b_many_falls := b43,
    f_many_wrong := _, fd_many_wrong := _, F_many_wrong := F44, g_many_wrong := PySem.W.mg_of X G a44, b_many_wrong := b44,
    f__law_no_size := _, fd__law_no_size := _, F__law_no_size := F45, g__law_no_size := PySem.W.mg_of X G a45, b__law_no_size := b45,
    f__law_no_number := _, fd__law_no_number := _, F__law_no_number := F46, g__law_no_number := PySem.W.mg_of X G a46, b__law_no_number := b46,
    f__law_done := _, fd__law_done := _, F__law_done := F47, g__law_done := PySem.W.mg_of X G a47, b__law_done := b47,
    f__law_which := _, fd__law_which := _, F__law_which := F48, g__law_which := PySem.W.mg_of X G a48, b__law_which := b48,
    f_law := _, fd_law := _, F_law := F49, g_law := PySem.W.mg_of X G a49, b_law := b49,
    m_len := PySem.W.mg_none_of X G z0,
    m_set := PySem.W.mg_none_of X G z1,
    m_sorted := PySem.W.mg_none_of X G z2,
    m_list := PySem.W.mg_none_of X G z3,
    m_range := PySem.W.mg_none_of X G z4,
    m_tuple := PySem.W.mg_none_of X G z5,
    m_reversed := PySem.W.mg_none_of X G z6,
    m_sum := PySem.W.mg_none_of X G z7,
    m_min := PySem.W.mg_none_of X G z8,
    m_isinstance := PySem.W.mg_none_of X G z9,
    m_ValueError := PySem.W.mg_none_of X G z10,
    t_MOST := _, g_MOST := PySem.W.mg_of X G n0,
    t_MOST_ORDER := _, g_MOST_ORDER := PySem.W.mg_of X G n1,
    t_MOST_ROW := _, g_MOST_ROW := PySem.W.mg_of X G n2,
    t_MOST_SIZE := _, g_MOST_SIZE := PySem.W.mg_of X G n3,
    a_FALL := _, g_FALL := PySem.W.mg_of X G n4, l_FALL := fun H => .inr ⟨_, _, _, nl4, rfl, rfl, rfl, (by show 3 ≤ sizeLine; rw [sizeLine_eq]; decide), .cons ⟨_, rfl⟩ (.cons ⟨_, rfl⟩ (.cons ⟨_, rfl⟩ (.nil)))⟩,
    a_RISE := _, g_RISE := PySem.W.mg_of X G n5, l_RISE := fun H => .inr ⟨_, _, _, nl5, rfl, rfl, rfl, (by show 3 ≤ sizeLine; rw [sizeLine_eq]; decide), .cons ⟨_, rfl⟩ (.cons ⟨_, rfl⟩ (.cons ⟨_, rfl⟩ (.nil)))⟩,
    C_NoRow := _, gC_NoRow := PySem.W.mg_of X G x0, x_NoRow := xe0, kC_NoRow := xk0, bC_NoRow := xb0, tC_NoRow := xt0,
    C_NoShape := _, gC_NoShape := PySem.W.mg_of X G x1, x_NoShape := xe1, kC_NoShape := xk1, bC_NoShape := xb1, tC_NoShape := xt1,
    C_NoOrder := _, gC_NoOrder := PySem.W.mg_of X G x2, x_NoOrder := xe2, kC_NoOrder := xk2, bC_NoOrder := xb2, tC_NoOrder := xt2,
    C_TooLong := _, gC_TooLong := PySem.W.mg_of X G x3, x_TooLong := xe3, kC_TooLong := xk3, bC_TooLong := xb3, tC_TooLong := xt3,
    C_NoSize := _, gC_NoSize := PySem.W.mg_of X G x4, x_NoSize := xe4, kC_NoSize := xk4, bC_NoSize := xb4, tC_NoSize := xt4,
    C_NoNumber := _, gC_NoNumber := PySem.W.mg_of X G x5, x_NoNumber := xe5, kC_NoNumber := xk5, bC_NoNumber := xb5, tC_NoNumber := xt5,
    C_HasOrder := _, gC_HasOrder := PySem.W.mg_of X G x6, x_HasOrder := xe6, kC_HasOrder := xk6, bC_HasOrder := xb6, tC_HasOrder := xt6,
    C_OrderError := _, gC_OrderError := PySem.W.mg_of X G x7, x_OrderError := xe7, kC_OrderError := xk7, bC_OrderError := xb7, tC_OrderError := xt7,
    hd_NoRow := xd0,
    hd_NoShape := xd1,
    hd_NoOrder := xd2,
    hd_TooLong := xd3,
    hd_NoSize := xd4,
    hd_NoNumber := xd5,
    hd_HasOrder := xd6,
    hd_OrderError := xd7,
    ex_NoRow := ⟨ya0, yb0, xb0, xd0, yc0, y1, y2, yd0⟩,
    sV_NoRow := ye0,
    s_NoRow_NoRow := yf0_0,
    s_NoRow_NoShape := yf0_1,
    s_NoRow_NoOrder := yf0_2,
    s_NoRow_TooLong := yf0_3,
    s_NoRow_NoSize := yf0_4,
    s_NoRow_NoNumber := yf0_5,
    s_NoRow_HasOrder := yf0_6,
    s_NoRow_OrderError := yf0_7,
    ex_NoShape := ⟨ya1, yb1, xb1, xd1, yc1, y1, y2, yd1⟩,
    sV_NoShape := ye1,
    s_NoShape_NoRow := yf1_0,
    s_NoShape_NoShape := yf1_1,
    s_NoShape_NoOrder := yf1_2,
    s_NoShape_TooLong := yf1_3,
    s_NoShape_NoSize := yf1_4,
    s_NoShape_NoNumber := yf1_5,
    s_NoShape_HasOrder := yf1_6,
    s_NoShape_OrderError := yf1_7,
    ex_NoOrder := ⟨ya2, yb2, xb2, xd2, yc2, y1, y2, yd2⟩,
    sV_NoOrder := ye2,
    s_NoOrder_NoRow := yf2_0,
    s_NoOrder_NoShape := yf2_1,
    s_NoOrder_NoOrder := yf2_2,
    s_NoOrder_TooLong := yf2_3,
    s_NoOrder_NoSize := yf2_4,
    s_NoOrder_NoNumber := yf2_5,
    s_NoOrder_HasOrder := yf2_6,
    s_NoOrder_OrderError := yf2_7,
    ex_TooLong := ⟨ya3, yb3, xb3, xd3, yc3, y1, y2, yd3⟩,
    sV_TooLong := ye3,
    s_TooLong_NoRow := yf3_0,
    s_TooLong_NoShape := yf3_1,
    s_TooLong_NoOrder := yf3_2,
    s_TooLong_TooLong := yf3_3,
    s_TooLong_NoSize := yf3_4,
    s_TooLong_NoNumber := yf3_5,
    s_TooLong_HasOrder := yf3_6,
    s_TooLong_OrderError := yf3_7,
    ex_NoSize := ⟨ya4, yb4, xb4, xd4, yc4, y1, y2, yd4⟩,
    sV_NoSize := ye4,
    s_NoSize_NoRow := yf4_0,
    s_NoSize_NoShape := yf4_1,
    s_NoSize_NoOrder := yf4_2,
    s_NoSize_TooLong := yf4_3,
    s_NoSize_NoSize := yf4_4,
    s_NoSize_NoNumber := yf4_5,
    s_NoSize_HasOrder := yf4_6,
    s_NoSize_OrderError := yf4_7,
    ex_NoNumber := ⟨ya5, yb5, xb5, xd5, yc5, y1, y2, yd5⟩,
    sV_NoNumber := ye5,
    s_NoNumber_NoRow := yf5_0,
    s_NoNumber_NoShape := yf5_1,
    s_NoNumber_NoOrder := yf5_2,
    s_NoNumber_TooLong := yf5_3,
    s_NoNumber_NoSize := yf5_4,
    s_NoNumber_NoNumber := yf5_5,
    s_NoNumber_HasOrder := yf5_6,
    s_NoNumber_OrderError := yf5_7,
    ex_HasOrder := ⟨ya6, yb6, xb6, xd6, yc6, y1, y2, yd6⟩,
    sV_HasOrder := ye6,
    s_HasOrder_NoRow := yf6_0,
    s_HasOrder_NoShape := yf6_1,
    s_HasOrder_NoOrder := yf6_2,
    s_HasOrder_TooLong := yf6_3,
    s_HasOrder_NoSize := yf6_4,
    s_HasOrder_NoNumber := yf6_5,
    s_HasOrder_HasOrder := yf6_6,
    s_HasOrder_OrderError := yf6_7 }
  exact ⟨_, fun s v => .of_eq rfl, fun base _ _ => ok_law T⟩
end Sh
open PySem PySem.W PyProof.Rows
set_option maxRecDepth 100000 in
set_option maxHeartbeats 0 in
theorem PySem.Challenge.cw_shapeorders_k14_each_refusal_its_own_holds : PySem.Challenge.rw_shapeorders_k14_each_refusal_its_own.Holds := by
  w_on; o_law; k_head; (case hw => w_witness2)
  k_fill
  refine L2.walk_of (l := PySem.Challenge.rw_shapeorders_k14_each_refusal_its_own) (n := 63) (k := 15) (x := "script") (CX := fun _ => L2.CX0) (sp := fun w => Sh.spL _) rfl (by decide) rfl ⟨rfl, by decide, by decide⟩ (fun w h Y => PySem.W.kIn_of Y) ?F (fun _ _ a ns hl _ hS => ⟨a, ns, rfl, hS, hl, fun _ => rfl⟩) (fun _ _ _ _ _ h => h)
  case F =>
    intro w mg fa h KX G hmg
    refine' Sh.all_mk KX G hmg ?a0 ?l0 ?c0 ?k0 ?a1 ?l1 ?c1 ?k1 ?a2 ?l2 ?c2 ?k2 ?a3 ?l3 ?c3 ?k3 ?a4 ?l4 ?c4 ?k4 ?a5 ?l5 ?c5 ?k5 ?a6 ?l6 ?c6 ?k6 ?a7 ?l7 ?c7 ?k7 ?a8 ?l8 ?c8 ?k8 ?a9 ?l9 ?c9 ?k9 ?a10 ?l10 ?c10 ?k10 ?a11 ?l11 ?c11 ?k11 ?a12 ?l12 ?c12 ?k12 ?a13 ?l13 ?c13 ?k13 ?a14 ?l14 ?c14 ?k14 ?a15 ?l15 ?c15 ?k15 ?a16 ?l16 ?c16 ?k16 ?a17 ?l17 ?c17 ?k17 ?a18 ?l18 ?c18 ?k18 ?a19 ?l19 ?c19 ?k19 ?a20 ?l20 ?c20 ?k20 ?a21 ?l21 ?c21 ?k21 ?a22 ?l22 ?c22 ?k22 ?a23 ?l23 ?c23 ?k23 ?a24 ?l24 ?c24 ?k24 ?a25 ?l25 ?c25 ?k25 ?a26 ?l26 ?c26 ?k26 ?a27 ?l27 ?c27 ?k27 ?a28 ?l28 ?c28 ?k28 ?a29 ?l29 ?c29 ?k29 ?a30 ?l30 ?c30 ?k30 ?a31 ?l31 ?c31 ?k31 ?a32 ?l32 ?c32 ?k32 ?a33 ?l33 ?c33 ?k33 ?a34 ?l34 ?c34 ?k34 ?a35 ?l35 ?c35 ?k35 ?a36 ?l36 ?c36 ?k36 ?a37 ?l37 ?c37 ?k37 ?a38 ?l38 ?c38 ?k38 ?a39 ?l39 ?c39 ?k39 ?a40 ?l40 ?c40 ?k40 ?a41 ?l41 ?c41 ?k41 ?a42 ?l42 ?c42 ?k42 ?a43 ?l43 ?c43 ?k43 ?a44 ?l44 ?c44 ?k44 ?a45 ?l45 ?c45 ?k45 ?a46 ?l46 ?c46 ?k46 ?a47 ?l47 ?c47 ?k47 ?a48 ?l48 ?c48 ?k48 ?a49 ?l49 ?c49 ?k49 ?z0 ?z1 ?z2 ?z3 ?z4 ?z5 ?z6 ?z7 ?z8 ?z9 ?z10 ?n0 ?n1 ?n2 ?n3 ?n4 ?nl4 ?n5 ?nl5 ?x0 ?xe0 ?xk0 ?xb0 ?xt0 ?x1 ?xe1 ?xk1 ?xb1 ?xt1 ?x2 ?xe2 ?xk2 ?xb2 ?xt2 ?x3 ?xe3 ?xk3 ?xb3 ?xt3 ?x4 ?xe4 ?xk4 ?xb4 ?xt4 ?x5 ?xe5 ?xk5 ?xb5 ?xt5 ?x6 ?xe6 ?xk6 ?xb6 ?xt6 ?x7 ?xe7 ?xk7 ?xb7 ?xt7 ?xd0 ?xd1 ?xd2 ?xd3 ?xd4 ?xd5 ?xd6 ?xd7 ?y1 ?y2 ?ya0 ?yb0 ?yc0 ?yd0 ?ye0 ?yf0_0 ?yf0_1 ?yf0_2 ?yf0_3 ?yf0_4 ?yf0_5 ?yf0_6 ?yf0_7 ?ya1 ?yb1 ?yc1 ?yd1 ?ye1 ?yf1_0 ?yf1_1 ?yf1_2 ?yf1_3 ?yf1_4 ?yf1_5 ?yf1_6 ?yf1_7 ?ya2 ?yb2 ?yc2 ?yd2 ?ye2 ?yf2_0 ?yf2_1 ?yf2_2 ?yf2_3 ?yf2_4 ?yf2_5 ?yf2_6 ?yf2_7 ?ya3 ?yb3 ?yc3 ?yd3 ?ye3 ?yf3_0 ?yf3_1 ?yf3_2 ?yf3_3 ?yf3_4 ?yf3_5 ?yf3_6 ?yf3_7 ?ya4 ?yb4 ?yc4 ?yd4 ?ye4 ?yf4_0 ?yf4_1 ?yf4_2 ?yf4_3 ?yf4_4 ?yf4_5 ?yf4_6 ?yf4_7 ?ya5 ?yb5 ?yc5 ?yd5 ?ye5 ?yf5_0 ?yf5_1 ?yf5_2 ?yf5_3 ?yf5_4 ?yf5_5 ?yf5_6 ?yf5_7 ?ya6 ?yb6 ?yc6 ?yd6 ?ye6 ?yf6_0 ?yf6_1 ?yf6_2 ?yf6_3 ?yf6_4 ?yf6_5 ?yf6_6 ?yf6_7
    (case a0 => k_is)
    (case l0 => k_is)
    (case c0 => k_is)
    (case k0 => k_is)
    (case a1 => k_is)
    (case l1 => k_is)
    (case c1 => k_is)
    (case k1 => k_is)
    (case a2 => k_is)
    (case l2 => k_is)
    (case c2 => k_is)
    (case k2 => k_is)
    (case a3 => k_is)
    (case l3 => k_is)
    (case c3 => k_is)
    (case k3 => k_is)
    (case a4 => k_is)
    (case l4 => k_is)
    (case c4 => k_is)
    (case k4 => k_is)
    (case a5 => k_is)
    (case l5 => k_is)
    (case c5 => k_is)
    (case k5 => k_is)
    (case a6 => k_is)
    (case l6 => k_is)
    (case c6 => k_is)
    (case k6 => k_is)
    (case a7 => k_is)
    (case l7 => k_is)
    (case c7 => k_is)
    (case k7 => k_is)
    (case a8 => k_is)
    (case l8 => k_is)
    (case c8 => k_is)
    (case k8 => k_is)
    (case a9 => k_is)
    (case l9 => k_is)
    (case c9 => k_is)
    (case k9 => k_is)
    (case a10 => k_is)
    (case l10 => k_is)
    (case c10 => k_is)
    (case k10 => k_is)
    (case a11 => k_is)
    (case l11 => k_is)
    (case c11 => k_is)
    (case k11 => k_is)
    (case a12 => k_is)
    (case l12 => k_is)
    (case c12 => k_is)
    (case k12 => k_is)
    (case a13 => k_is)
    (case l13 => k_is)
    (case c13 => k_is)
    (case k13 => k_is)
    (case a14 => k_is)
    (case l14 => k_is)
    (case c14 => k_is)
    (case k14 => k_is)
    (case a15 => k_is)
    (case l15 => k_is)
    (case c15 => k_is)
    (case k15 => k_is)
    (case a16 => k_is)
    (case l16 => k_is)
    (case c16 => k_is)
    (case k16 => k_is)
    (case a17 => k_is)
    (case l17 => k_is)
    (case c17 => k_is)
    (case k17 => k_is)
    (case a18 => k_is)
    (case l18 => k_is)
    (case c18 => k_is)
    (case k18 => k_is)
    (case a19 => k_is)
    (case l19 => k_is)
    (case c19 => k_is)
    (case k19 => k_is)
    (case a20 => k_is)
    (case l20 => k_is)
    (case c20 => k_is)
    (case k20 => k_is)
    (case a21 => k_is)
    (case l21 => k_is)
    (case c21 => k_is)
    (case k21 => k_is)
    (case a22 => k_is)
    (case l22 => k_is)
    (case c22 => k_is)
    (case k22 => k_is)
    (case a23 => k_is)
    (case l23 => k_is)
    (case c23 => k_is)
    (case k23 => k_is)
    (case a24 => k_is)
    (case l24 => k_is)
    (case c24 => k_is)
    (case k24 => k_is)
    (case a25 => k_is)
    (case l25 => k_is)
    (case c25 => k_is)
    (case k25 => k_is)
    (case a26 => k_is)
    (case l26 => k_is)
    (case c26 => k_is)
    (case k26 => k_is)
    (case a27 => k_is)
    (case l27 => k_is)
    (case c27 => k_is)
    (case k27 => k_is)
    (case a28 => k_is)
    (case l28 => k_is)
    (case c28 => k_is)
    (case k28 => k_is)
    (case a29 => k_is)
    (case l29 => k_is)
    (case c29 => k_is)
    (case k29 => k_is)
    (case a30 => k_is)
    (case l30 => k_is)
    (case c30 => k_is)
    (case k30 => k_is)
    (case a31 => k_is)
    (case l31 => k_is)
    (case c31 => k_is)
    (case k31 => k_is)
    (case a32 => k_is)
    (case l32 => k_is)
    (case c32 => k_is)
    (case k32 => k_is)
    (case a33 => k_is)
    (case l33 => k_is)
    (case c33 => k_is)
    (case k33 => k_is)
    (case a34 => k_is)
    (case l34 => k_is)
    (case c34 => k_is)
    (case k34 => k_is)
    (case a35 => k_is)
    (case l35 => k_is)
    (case c35 => k_is)
    (case k35 => k_is)
    (case a36 => k_is)
    (case l36 => k_is)
    (case c36 => k_is)
    (case k36 => k_is)
    (case a37 => k_is)
    (case l37 => k_is)
    (case c37 => k_is)
    (case k37 => k_is)
    (case a38 => k_is)
    (case l38 => k_is)
    (case c38 => k_is)
    (case k38 => k_is)
    (case a39 => k_is)
    (case l39 => k_is)
    (case c39 => k_is)
    (case k39 => k_is)
    (case a40 => k_is)
    (case l40 => k_is)
    (case c40 => k_is)
    (case k40 => k_is)
    (case a41 => k_is)
    (case l41 => k_is)
    (case c41 => k_is)
    (case k41 => k_is)
    (case a42 => k_is)
    (case l42 => k_is)
    (case c42 => k_is)
    (case k42 => k_is)
    (case a43 => k_is)
    (case l43 => k_is)
    (case c43 => k_is)
    (case k43 => k_is)
    (case a44 => k_is)
    (case l44 => k_is)
    (case c44 => k_is)
    (case k44 => k_is)
    (case a45 => k_is)
    (case l45 => k_is)
    (case c45 => k_is)
    (case k45 => k_is)
    (case a46 => k_is)
    (case l46 => k_is)
    (case c46 => k_is)
    (case k46 => k_is)
    (case a47 => k_is)
    (case l47 => k_is)
    (case c47 => k_is)
    (case k47 => k_is)
    (case a48 => k_is)
    (case l48 => k_is)
    (case c48 => k_is)
    (case k48 => k_is)
    (case a49 => k_is)
    (case l49 => k_is)
    (case c49 => k_is)
    (case k49 => k_is)
    (case z0 => k_is)
    (case z1 => k_is)
    (case z2 => k_is)
    (case z3 => k_is)
    (case z4 => k_is)
    (case z5 => k_is)
    (case z6 => k_is)
    (case z7 => k_is)
    (case z8 => k_is)
    (case z9 => k_is)
    (case z10 => k_is)
    (case n0 => k_is)
    (case n1 => k_is)
    (case n2 => k_is)
    (case n3 => k_is)
    (case n4 => k_is)
    (case nl4 => k_is)
    (case n5 => k_is)
    (case nl5 => k_is)
    (case x0 => k_is)
    (case xe0 => k_exc)
    (case xk0 => k_is)
    (case xb0 => k_is)
    (case xt0 => k_is)
    (case x1 => k_is)
    (case xe1 => k_exc)
    (case xk1 => k_is)
    (case xb1 => k_is)
    (case xt1 => k_is)
    (case x2 => k_is)
    (case xe2 => k_exc)
    (case xk2 => k_is)
    (case xb2 => k_is)
    (case xt2 => k_is)
    (case x3 => k_is)
    (case xe3 => k_exc)
    (case xk3 => k_is)
    (case xb3 => k_is)
    (case xt3 => k_is)
    (case x4 => k_is)
    (case xe4 => k_exc)
    (case xk4 => k_is)
    (case xb4 => k_is)
    (case xt4 => k_is)
    (case x5 => k_is)
    (case xe5 => k_exc)
    (case xk5 => k_is)
    (case xb5 => k_is)
    (case xt5 => k_is)
    (case x6 => k_is)
    (case xe6 => k_exc)
    (case xk6 => k_is)
    (case xb6 => k_is)
    (case xt6 => k_is)
    (case x7 => k_is)
    (case xe7 => k_exc)
    (case xk7 => k_is)
    (case xb7 => k_is)
    (case xt7 => k_is)
    (case xd0 => k_is)
    (case xd1 => k_is)
    (case xd2 => k_is)
    (case xd3 => k_is)
    (case xd4 => k_is)
    (case xd5 => k_is)
    (case xd6 => k_is)
    (case xd7 => k_is)
    (case y1 => k_is)
    (case y2 => k_is)
    (case ya0 => k_is)
    (case yb0 => k_is)
    (case yc0 => k_is)
    (case yd0 => k_is)
    (case ye0 => k_is)
    (case yf0_0 => k_is)
    (case yf0_1 => k_is)
    (case yf0_2 => k_is)
    (case yf0_3 => k_is)
    (case yf0_4 => k_is)
    (case yf0_5 => k_is)
    (case yf0_6 => k_is)
    (case yf0_7 => k_is)
    (case ya1 => k_is)
    (case yb1 => k_is)
    (case yc1 => k_is)
    (case yd1 => k_is)
    (case ye1 => k_is)
    (case yf1_0 => k_is)
    (case yf1_1 => k_is)
    (case yf1_2 => k_is)
    (case yf1_3 => k_is)
    (case yf1_4 => k_is)
    (case yf1_5 => k_is)
    (case yf1_6 => k_is)
    (case yf1_7 => k_is)
    (case ya2 => k_is)
    (case yb2 => k_is)
    (case yc2 => k_is)
    (case yd2 => k_is)
    (case ye2 => k_is)
    (case yf2_0 => k_is)
    (case yf2_1 => k_is)
    (case yf2_2 => k_is)
    (case yf2_3 => k_is)
    (case yf2_4 => k_is)
    (case yf2_5 => k_is)
    (case yf2_6 => k_is)
    (case yf2_7 => k_is)
    (case ya3 => k_is)
    (case yb3 => k_is)
    (case yc3 => k_is)
    (case yd3 => k_is)
    (case ye3 => k_is)
    (case yf3_0 => k_is)
    (case yf3_1 => k_is)
    (case yf3_2 => k_is)
    (case yf3_3 => k_is)
    (case yf3_4 => k_is)
    (case yf3_5 => k_is)
    (case yf3_6 => k_is)
    (case yf3_7 => k_is)
    (case ya4 => k_is)
    (case yb4 => k_is)
    (case yc4 => k_is)
    (case yd4 => k_is)
    (case ye4 => k_is)
    (case yf4_0 => k_is)
    (case yf4_1 => k_is)
    (case yf4_2 => k_is)
    (case yf4_3 => k_is)
    (case yf4_4 => k_is)
    (case yf4_5 => k_is)
    (case yf4_6 => k_is)
    (case yf4_7 => k_is)
    (case ya5 => k_is)
    (case yb5 => k_is)
    (case yc5 => k_is)
    (case yd5 => k_is)
    (case ye5 => k_is)
    (case yf5_0 => k_is)
    (case yf5_1 => k_is)
    (case yf5_2 => k_is)
    (case yf5_3 => k_is)
    (case yf5_4 => k_is)
    (case yf5_5 => k_is)
    (case yf5_6 => k_is)
    (case yf5_7 => k_is)
    (case ya6 => k_is)
    (case yb6 => k_is)
    (case yc6 => k_is)
    (case yd6 => k_is)
    (case ye6 => k_is)
    (case yf6_0 => k_is)
    (case yf6_1 => k_is)
    (case yf6_2 => k_is)
    (case yf6_3 => k_is)
    (case yf6_4 => k_is)
    (case yf6_5 => k_is)
    (case yf6_6 => k_is)
    (case yf6_7 => k_is)
