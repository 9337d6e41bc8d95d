import PyProof.Rows.All
import Wide.All
import OpenK.AllK
import Wide.FinOn
import HandS.ForMost
import HandS.ForExc
import HandS.SortInts
import HandS.Conv
import HandS.Zip
import HandS.Rev
import HandS.RevRange
import HandS.Deep
import HandS.IsInst
import HandS.ExcIs
import HandS.More
import HandS.SetFor
import HandS.Flow
import HandS.Style
import PySem.Challenge.RW_shapeorders_k02_what_is_a_shape

set_option Elab.async false
set_option linter.all false
set_option maxRecDepth 100000
/-! Sh0: own words over the hand layer: loops and comprehensions cut open at their iterator, heaps, and the rules that the layer lacks. -/
namespace Sh
open PySem PySem.Spec PyProof.Rows L2

/-! ### loops: the iterator first, then the turns -/
def ForK (J : It) (g : TG) (tb : TS) (D : Ends) (σ : L2.St) (H : Hp) : Prop := ∃ W : Nat → Nat → L2.St → Hp → Prop, (∃ m, W 0 m σ H) ∧ ∀ i m σ H, W i m σ H →
  (J.stop i H ∧ D.nx σ H) ∨ (J.go i H ∧ ∃ N : L2.St → Hp → Prop, (∀ σ' H', N σ' H' → ∃ m', m' < m ∧ W (i + 1) m' σ' H') ∧ ∀ x H', J.yld i H x H' → g x σ H' fun σ2 H2 => tb { D with nx := N, ct := N, bk := D.nx } σ2 H2)
theorem tFor_eq (wi : TI) (g : TG) (tb : TS) (D : Ends) (σ : L2.St) (H : Hp) : tFor wi g tb D σ H = wi σ H fun J H1 => ForK J g tb D σ H1 := rfl
def LcK (J : It) (g : TG) (tt : TT) (te : TE) (σw : L2.St) (vs : List Nat) (D : Addr) (Q : Hp → Prop) (H1 : Hp) : Prop := ∃ W : Nat → Nat → Hp → Prop, (∃ m, W 0 m (upd H1 D (.lst []))) ∧ ∀ i m H, W i m H →
  (J.stop i H ∧ Q H) ∨ (J.go i H ∧ ∃ Nx : Hp → Prop, (∀ H', Nx H' → ∃ m', m' < m ∧ W (i + 1) m' H') ∧ ∀ x H', J.yld i H x H' → g x σw H' fun σ2 H2 => wipe σ2 vs = σw ∧ tt σ2 H2 fun b H3 =>
    if b = true then te σ2 H3 fun y H4 => ∃ acc, H4 D = some (.lst acc) ∧ acc.length < sizeLine ∧ Nx (upd H4 D (.lst (acc ++ [y]))) else Nx H3)
theorem tLc_eq (wi : TI) (g : TG) (tt : TT) (te : TE) (vs : List Nat) (σ : L2.St) (H : Hp) (Q : VK) :
    tLc wi g tt te vs σ H Q = wi σ H fun J H1 => ∀ D, H1 D = none → LcK J g tt te (wipe σ vs) vs D (fun H2 => Q (.ref D) H2) H1 := rfl
theorem forK_list {K : PySem.W.Frag} {a : Addr} {g : TG} {tb : TS} {D : Ends} {σ : L2.St} {H : Hp} (xs : List V) (Pv : Nat → L2.St → Hp → Prop) (h0 : Pv 0 σ H) (hl : ∀ i σ H, i ≤ xs.length → Pv i σ H → SqL K H a xs)
    (hs : ∀ i x σ H, xs[i]? = some x → Pv i σ H → g x σ H fun σ2 H2 => tb { D with nx := Pv (i + 1), ct := Pv (i + 1), bk := D.nx } σ2 H2) (hd : ∀ σ H, Pv xs.length σ H → D.nx σ H) :
    ForK (Itl K a) g tb D σ H := for_list Pv h0 hl hs hd
theorem forK_tup {K : PySem.W.Frag} {a : Addr} {g : TG} {tb : TS} {D : Ends} {σ : L2.St} {H : Hp} (xs : List V) (Pv : Nat → L2.St → Hp → Prop) (h0 : Pv 0 σ H) (hl : ∀ i σ H, i ≤ xs.length → Pv i σ H → SqT K H a xs)
    (hs : ∀ i x σ H, xs[i]? = some x → Pv i σ H → g x σ H fun σ2 H2 => tb { D with nx := Pv (i + 1), ct := Pv (i + 1), bk := D.nx } σ2 H2) (hd : ∀ σ H, Pv xs.length σ H → D.nx σ H) :
    ForK (Itt K a) g tb D σ H := for_tup Pv h0 hl hs hd
theorem forK_range {lo : Int} {n : Nat} {g : TG} {tb : TS} {D : Ends} {σ : L2.St} {H : Hp} (Pv : Nat → L2.St → Hp → Prop) (h0 : Pv 0 σ H)
    (hs : ∀ i σ H, i < n → Pv i σ H → g (.int (lo + i)) σ H fun σ2 H2 => tb { D with nx := Pv (i + 1), ct := Pv (i + 1), bk := D.nx } σ2 H2) (hd : ∀ σ H, Pv n σ H → D.nx σ H) :
    ForK (Itr lo n) g tb D σ H := for_range Pv h0 hs hd
theorem lcK_list {K : PySem.W.Frag} {a : Addr} {g : TG} {tt : TT} {te : TE} {vs : List Nat} {σw : L2.St} {H1 : Hp} {D : Addr} {Qd : Hp → Prop} (xs : List V) (Pv : Nat → Hp → Prop) (h0 : Pv 0 (upd H1 D (.lst []))) (hl : ∀ i H, i ≤ xs.length → Pv i H → SqL K H a xs)
    (hs : ∀ i x H, xs[i]? = some x → Pv i H → g x σw H fun σ2 H2 => wipe σ2 vs = σw ∧ tt σ2 H2 fun b H3 =>
      if b = true then te σ2 H3 fun y H4 => ∃ acc, H4 D = some (.lst acc) ∧ acc.length < sizeLine ∧ Pv (i + 1) (upd H4 D (.lst (acc ++ [y]))) else Pv (i + 1) H3) (hd : ∀ H, Pv xs.length H → Qd H) :
    LcK (Itl K a) g tt te σw vs D Qd H1 := by
  refine ⟨fun i m H => m = xs.length - i ∧ i ≤ xs.length ∧ Pv i H, ⟨xs.length, by simp, Nat.zero_le _, h0⟩, ?_⟩
  rintro i m H ⟨rfl, hi, p⟩
  have q := hl i H hi p
  by_cases hlt : i < xs.length
  · refine .inr ⟨⟨xs, xs[i], q, by simp [hlt]⟩, Pv (i + 1), fun H' p' => ⟨xs.length - (i + 1), by omega, rfl, hlt, p'⟩, fun x H' y => ?_⟩
    obtain ⟨e, y⟩ := y
    subst e
    exact hs i x _ (y xs q) p
  · have e : i = xs.length := by omega
    subst e
    exact .inl ⟨⟨xs, q, Nat.le_refl _⟩, hd H p⟩
theorem lcK_range {lo : Int} {n : Nat} {g : TG} {tt : TT} {te : TE} {vs : List Nat} {σw : L2.St} {H1 : Hp} {D : Addr} {Qd : Hp → Prop} (Pv : Nat → Hp → Prop) (h0 : Pv 0 (upd H1 D (.lst [])))
    (hs : ∀ i H, i < n → Pv i H → g (.int (lo + i)) σw H fun σ2 H2 => wipe σ2 vs = σw ∧ tt σ2 H2 fun b H3 =>
      if b = true then te σ2 H3 fun y H4 => ∃ acc, H4 D = some (.lst acc) ∧ acc.length < sizeLine ∧ Pv (i + 1) (upd H4 D (.lst (acc ++ [y]))) else Pv (i + 1) H3) (hd : ∀ H, Pv n H → Qd H) :
    LcK (Itr lo n) g tt te σw vs D Qd H1 := by
  refine ⟨fun i m H => m = n - i ∧ i ≤ n ∧ Pv i H, ⟨n, by simp, Nat.zero_le _, h0⟩, ?_⟩
  rintro i m H ⟨rfl, hi, p⟩
  by_cases hlt : i < n
  · refine .inr ⟨hlt, Pv (i + 1), fun H' p' => ⟨n - (i + 1), by omega, rfl, hlt, p'⟩, fun x H' y => ?_⟩
    obtain ⟨e, y⟩ := y
    subst e y
    exact hs i _ hlt p
  · have e : i = n := by omega
    subst e
    exact .inl ⟨Nat.le_refl _, hd H p⟩

/-! ### heaps -/
theorem same_new {H : Hp} {p : Addr} {o : HO} (h : H p = none) : Same H (upd H p o) := fun b u q => by rw [upd_ne (ne_of_none q h)]; exact q
theorem same_mut {H H' : Hp} {p : Addr} {o : HO} (s : Same H H') (h : H p = none) : Same H (upd H' p o) := fun b u q => by rw [upd_ne (ne_of_none q h)]; exact s b u q
theorem sql_self {K : PySem.W.Frag} {H : Hp} {p : Addr} {xs : List V} : SqL K (upd H p (.lst xs)) p xs := .inl (.inl upd_same)
theorem sql_new {K : PySem.W.Frag} {H : Hp} {p a : Addr} {o : HO} {xs : List V} (h : H p = none) (q : SqL K H a xs) : SqL K (upd H p o) a xs := (same_new h).seq q
theorem sqt_new {K : PySem.W.Frag} {H : Hp} {p a : Addr} {o : HO} {xs : List V} (h : H p = none) (q : SqT K H a xs) : SqT K (upd H p o) a xs := by
  rcases q with (q | ⟨u, q⟩) | q
  · exact .inl (.inl (same_new h _ _ q))
  · exact .inl (.inr ⟨u, same_new h _ _ q⟩)
  · exact .inr q
/-! ### readings by name -/
def rLen (K : PySem.W.Frag) : List V → Hp → VK → Prop := fun xs H Q => ∃ p ys, xs = [.ref p] ∧ (SqL K H p ys ∨ SqT K H p ys) ∧ Q (.int ys.length) H
def rListOf (K : PySem.W.Frag) : List V → Hp → VK → Prop := fun xs H Q => ∃ p ys, xs = [.ref p] ∧ (SqL K H p ys ∨ SqT K H p ys) ∧ ∀ l, H l = none → Q (.ref l) (upd H l (.lst ys))
def rTupleOf (K : PySem.W.Frag) : List V → Hp → VK → Prop := fun xs H Q => ∃ p ys, xs = [.ref p] ∧ ((SqL K H p ys ∧ ∀ l, H l = none → Q (.ref l) (upd H l (.tup ys))) ∨ (SqT K H p ys ∧ Q (.ref p) H))
def rInt1 : List V → Hp → VK → Prop := fun xs H Q => (∃ i, xs = [.int i] ∧ Q (.int i) H) ∨ ∃ k, xs = [.bl k] ∧ Q (.int (if k then 1 else 0)) H
section
variable {X : Cx}
theorem call_lenS : CallR X (.builtin "len") (rLen X.K) := call_len_seq
theorem call_listS : CallR X (.type "list") (rListOf X.K) := call_list_of
theorem call_tupleS : CallR X (.type "tuple") (rTupleOf X.K) := call_tuple_of
theorem call_intS : CallR X (.type "int") rInt1 := call_int1
end

/-! ### the context's own part -/
theorem cxOf_K {CX : CXT} {P : Program} {w : World} {K : PySem.W.Frag} {mg : Str → Option Value} {base : Heap} {N : List Str} {qual : Str} {scope : Scope} {f : Addr} {cd : Value} {A : Around} {outer : List Env} {s : Shared} {H : Hp} {E : XK} :
    (cxOf CX P w K mg base N qual scope f cd A outer s H E).K = K := rfl
theorem tBM_list {K : PySem.W.Frag} {H : Hp} {p : Addr} {xs : List V} (h : SqL K H p xs) : tyV K "list" (.ref p) H := .inl ⟨rfl, _, h⟩
theorem tyL {K : PySem.W.Frag} {H : Hp} {p : Addr} {xs : List V} (h : H p = some (.lst xs)) : tyV K "list" (.ref p) H := .inl ⟨rfl, _, SqL.of h⟩
theorem lineLt {n : Nat} (h : n ≤ 16000000) : n < sizeLine := by rw [sizeLine_eq]; omega
theorem lineLe {n : Nat} (h : n ≤ 16000000) : n ≤ sizeLine := Nat.le_of_lt (lineLt h)

theorem atI_ints {ns : List Int} {i : Int} (h0 : 0 ≤ i) (h : i < ns.length) : atI (ns.map V.int) i = some (.int (ns.getD i.toNat 0)) := by
  obtain ⟨j, rfl⟩ : ∃ j : Nat, i = (j : Int) := ⟨i.toNat, by omega⟩
  have hj : j < ns.length := by omega
  refine atI_nat ?_
  rw [List.getElem?_map, List.getElem?_eq_getElem hj, Int.toNat_natCast, List.getD_eq_getElem?_getD, List.getElem?_eq_getElem hj]
  rfl
theorem iteF' {c : Prop} [Decidable c] {A B : Prop} (hc : ¬ c) (h : B) : if c then A else B := by rw [if_neg hc]; exact h
theorem iteT' {c : Prop} [Decidable c] {A B : Prop} (hc : c) (h : A) : if c then A else B := by rw [if_pos hc]; exact h
/-! ### comprehensions whose elements leave nothing that is asked for later -/
section
variable {K : PySem.W.Frag} {a : Addr} {g : TG} {tt : TT} {te : TE} {vs : List Nat} {σw : L2.St} {H1 : Hp} {D : Addr} {Qd : Hp → Prop}
theorem lcK_mapI (xs : List V) (F : Nat → V) (nD : H1 D = none) (hS : SqL K H1 a xs) (hl : xs.length ≤ 16000000)
    (hs : ∀ i x acc H (Q : VK), xs[i]? = some x → Same H1 H → H D = some (.lst acc) → (∀ H4, Same H1 H4 → H4 D = some (.lst acc) → Q (F i) H4) → g x σw H fun σ2 H2 => wipe σ2 vs = σw ∧ te σ2 H2 Q)
    (hd : ∀ H, Same H1 H → H D = some (.lst ((List.range xs.length).map F)) → Qd H) : LcK (Itl K a) g tYes te σw vs D Qd H1 := by
  refine lcK_list xs (fun i H => Same H1 H ∧ H D = some (.lst ((List.range i).map F))) ⟨same_new nD, upd_same⟩ (fun i H _ h => h.1.seq hS) (fun i x H hx h => ?_) fun H h => hd H h.1 h.2
  refine hs i x _ H _ hx h.1 h.2 fun H4 s4 h4 => ?_
  refine ⟨_, h4, ?_, same_mut s4 nD, ?_⟩
  · have hi : i < xs.length := (List.getElem?_eq_some_iff.mp hx).1
    simp only [List.length_map, List.length_range]
    exact lineLt (by omega)
  · rw [upd_same, List.range_succ, List.map_append]
    rfl
theorem lcK_mapR {lo : Int} {n : Nat} (F : Nat → V) (nD : H1 D = none) (hl : n ≤ 16000000)
    (hs : ∀ i acc H (Q : VK), i < n → Same H1 H → H D = some (.lst acc) → (∀ H4, Same H1 H4 → H4 D = some (.lst acc) → Q (F i) H4) → g (.int (lo + i)) σw H fun σ2 H2 => wipe σ2 vs = σw ∧ te σ2 H2 Q)
    (hd : ∀ H, Same H1 H → H D = some (.lst ((List.range n).map F)) → Qd H) : LcK (Itr lo n) g tYes te σw vs D Qd H1 := by
  refine lcK_range (fun i H => Same H1 H ∧ H D = some (.lst ((List.range i).map F))) ⟨same_new nD, upd_same⟩ (fun i H hx h => ?_) fun H h => hd H h.1 h.2
  refine hs i _ H _ hx h.1 h.2 fun H4 s4 h4 => ?_
  refine ⟨_, h4, ?_, same_mut s4 nD, ?_⟩
  · simp only [List.length_map, List.length_range]
    exact lineLt (by omega)
  · rw [upd_same, List.range_succ, List.map_append]
    rfl
theorem take_more {α : Type} : ∀ {l : List α} {i : Nat} {x : α}, l[i]? = some x → l.take (i + 1) = l.take i ++ [x]
  | [], i, x, h => by simp at h
  | a :: l, 0, x, h => by
    have e : a = x := Option.some.inj h
    subst e
    rfl
  | a :: l, i + 1, x, h => by
    have ih := take_more (l := l) (i := i) (x := x) h
    show a :: l.take (i + 1) = a :: l.take i ++ [x]
    rw [ih]
    rfl
theorem at_map {α : Type} {ns : List α} {f : α → V} {i : Nat} {x : V} (h : (ns.map f)[i]? = some x) : ∃ z, ns[i]? = some z ∧ x = f z := by
  rw [List.getElem?_map] at h
  cases e : ns[i]? with
  | none => rw [e] at h; cases h
  | some z => rw [e] at h; exact ⟨z, rfl, (Option.some.inj h).symm⟩
/-- over a list of things told by h : α → V -/
theorem lcK_filt {α : Type} (ns : List α) (h : α → V) (p : α → Bool) (F : α → V) (nD : H1 D = none) (hS : SqL K H1 a (ns.map h)) (hl : ns.length ≤ 16000000)
    (hs : ∀ (i : Nat) (x : α) acc H (Qt : VK) (Qf : Hp → Prop), ns[i]? = some x → Same H1 H → H D = some (.lst acc) → (p x = true → ∀ H4, Same H1 H4 → H4 D = some (.lst acc) → Qt (F x) H4) → (p x = false → ∀ H4, Same H1 H4 → H4 D = some (.lst acc) → Qf H4) →
      g (h x) σw H fun σ2 H2 => wipe σ2 vs = σw ∧ tt σ2 H2 fun b H3 => if b = true then te σ2 H3 Qt else Qf H3)
    (hd : ∀ H, Same H1 H → H D = some (.lst ((ns.filter p).map F)) → Qd H) : LcK (Itl K a) g tt te σw vs D Qd H1 := by
  refine lcK_list (ns.map h) (fun i H => Same H1 H ∧ H D = some (.lst (((ns.take i).filter p).map F))) ⟨same_new nD, upd_same⟩ (fun i H _ h => h.1.seq hS) (fun i y H hy h => ?_) fun H h => ?_
  · obtain ⟨x, hx, rfl⟩ := at_map hy
    refine hs i x _ H _ _ hx h.1 h.2 (fun e H4 s4 h4 => ?_) (fun e H4 s4 h4 => ?_)
    · refine ⟨_, h4, ?_, same_mut s4 nD, ?_⟩
      · have hi : i < ns.length := (List.getElem?_eq_some_iff.mp hx).1
        have := List.length_filter_le p (ns.take i)
        simp only [List.length_map, List.length_take] at *
        exact lineLt (by omega)
      · rw [upd_same, take_more hx, List.filter_append, List.map_append, List.filter_cons_of_pos e]
        rfl
    · refine ⟨s4, ?_⟩
      rw [h4, take_more hx, List.filter_append, List.filter_cons_of_neg (by simp [e]), List.filter_nil, List.append_nil]
  · have e := h.2
    rw [List.length_map, List.take_length] at e
    exact hd H h.1 e
theorem lcK_map {α : Type} (ns : List α) (h : α → V) (F : α → V) (nD : H1 D = none) (hS : SqL K H1 a (ns.map h)) (hl : ns.length ≤ 16000000)
    (hs : ∀ (i : Nat) (x : α) acc H (Q : VK), ns[i]? = some x → Same H1 H → H D = some (.lst acc) → (∀ H4, Same H1 H4 → H4 D = some (.lst acc) → Q (F x) H4) → g (h x) σw H fun σ2 H2 => wipe σ2 vs = σw ∧ te σ2 H2 Q)
    (hd : ∀ H, Same H1 H → H D = some (.lst (ns.map F)) → Qd H) : LcK (Itl K a) g tYes te σw vs D Qd H1 := by
  refine lcK_filt (tt := tYes) ns h (fun _ => true) F nD hS hl (fun i x acc H Qt Qf hx s d ht _ => ?_) (fun H s d => hd H s (by rw [List.filter_eq_self.mpr (fun _ _ => rfl)] at d; exact d))
  exact hs i x acc H Qt hx s d (ht rfl)
theorem lcK_filtR {lo : Int} {n : Nat} (p : Nat → Bool) (F : Nat → V) (nD : H1 D = none) (hl : n ≤ 16000000)
    (hs : ∀ i acc H (Qt : VK) (Qf : Hp → Prop), i < n → Same H1 H → H D = some (.lst acc) → (p i = true → ∀ H4, Same H1 H4 → H4 D = some (.lst acc) → Qt (F i) H4) → (p i = false → ∀ H4, Same H1 H4 → H4 D = some (.lst acc) → Qf H4) →
      g (.int (lo + i)) σw H fun σ2 H2 => wipe σ2 vs = σw ∧ tt σ2 H2 fun b H3 => if b = true then te σ2 H3 Qt else Qf H3)
    (hd : ∀ H, Same H1 H → H D = some (.lst (((List.range n).filter p).map F)) → Qd H) : LcK (Itr lo n) g tt te σw vs D Qd H1 := by
  refine lcK_range (fun i H => Same H1 H ∧ H D = some (.lst (((List.range i).filter p).map F))) ⟨same_new nD, upd_same⟩ (fun i H hi h => ?_) fun H h => hd H h.1 h.2
  refine hs i _ H _ _ hi h.1 h.2 (fun e H4 s4 h4 => ?_) (fun e H4 s4 h4 => ?_)
  · refine ⟨_, h4, ?_, same_mut s4 nD, ?_⟩
    · have := List.length_filter_le p (List.range i)
      simp only [List.length_map, List.length_range] at *
      exact lineLt (by omega)
    · rw [upd_same, List.range_succ, List.filter_append, List.map_append, List.filter_cons_of_pos e]
      rfl
  · refine ⟨s4, ?_⟩
    rw [h4, List.range_succ, List.filter_append, List.filter_cons_of_neg (by simp [e]), List.filter_nil, List.append_nil]
end
/-! ### a loop's turns over things told by h -/
theorem forK_map {K : PySem.W.Frag} {a : Addr} {g : TG} {tb : TS} {D : Ends} {σ : L2.St} {H : Hp} {α : Type} (ns : List α) (h : α → V) (Pv : Nat → L2.St → Hp → Prop) (h0 : Pv 0 σ H) (hl : ∀ i σ H, i ≤ ns.length → Pv i σ H → SqL K H a (ns.map h))
    (hs : ∀ (i : Nat) (x : α) σ H, ns[i]? = some x → Pv i σ H → g (h x) σ H fun σ2 H2 => tb { D with nx := Pv (i + 1), ct := Pv (i + 1), bk := D.nx } σ2 H2) (hd : ∀ σ H, Pv ns.length σ H → D.nx σ H) :
    ForK (Itl K a) g tb D σ H := by
  refine forK_list (ns.map h) Pv h0 (fun i σ H hi p => hl i σ H (by rw [List.length_map] at hi; exact hi) p) (fun i x σ H hx p => ?_) (fun σ H p => hd σ H (by rw [List.length_map] at p; exact p))
  obtain ⟨z, hz, rfl⟩ := at_map hx
  exact hs i z σ H hz p
end Sh

set_option Elab.async false
set_option linter.all false
set_option maxRecDepth 100000
set_option maxHeartbeats 4000000
/-! Sh1: rules that the layer lacks: len(set(a list of ints)), list(reversed(a list)). -/
namespace Sh
open PySem PySem.Spec PyProof.Rows L2
/-! ### how many unlike ints -/
def dedup (ns : List Int) : List Int := firstMet (fun i => ns.getD i 0) ns.length
theorem firstMet_len (val : Nat → Int) : ∀ i, (firstMet val i).length ≤ i := fun i => firstMet_length_le val i
theorem step_dedup_len (l : List Int) (x : Int) : (step_dedup l x).length = if l.any (· == x) then l.length else l.length + 1 := by
  unfold step_dedup
  split
  · rfl
  · rw [List.length_append]
    rfl
theorem firstMet_full (ns : List Int) : ∀ i, i ≤ ns.length → ((firstMet (fun i => ns.getD i 0) i).length = i ↔ (ns.take i).Nodup)
  | 0, _ => by simp [firstMet_zero]
  | i + 1, h => by
    have ih := firstMet_full ns i (by omega)
    have hx : ns[i]? = some (ns.getD i 0) := by
      rw [List.getD_eq_getElem?_getD, List.getElem?_eq_getElem (by omega : i < ns.length)] <;> rfl
    rw [firstMet_succ, step_dedup_len, take_more hx, List.nodup_append]
    have hany : (firstMet (fun i => ns.getD i 0) i).any (· == ns.getD i 0) = (ns.take i).any (· == ns.getD i 0) := by
      rw [firstMet_any]
      congr 1
      apply List.ext_getElem?
      intro j
      by_cases hj : j < i
      · rw [List.getElem?_map, List.getElem?_range hj, List.getElem?_take_of_lt hj, List.getElem?_eq_getElem (by omega : j < ns.length)]
        simp [List.getD_eq_getElem?_getD, List.getElem?_eq_getElem (by omega : j < ns.length)]
      · rw [List.getElem?_eq_none (by simp; omega), List.getElem?_eq_none (by simp; omega)]
    rw [hany]
    have hle := firstMet_len (fun i => ns.getD i 0) i
    by_cases hc : (ns.take i).any (· == ns.getD i 0) = true
    · rw [if_pos hc]
      constructor
      · intro e; omega
      · rintro ⟨_, _, h3⟩
        obtain ⟨y, hy, e⟩ := List.any_eq_true.mp hc
        have e' : y = ns.getD i 0 := by simpa using e
        exact absurd e' (h3 y hy _ (by simp))
    · rw [if_neg hc]
      constructor
      · intro e
        refine ⟨ih.mp (by omega), by simp, fun a ha b hb e2 => hc ?_⟩
        have : b = ns.getD i 0 := by simpa using hb
        exact List.any_eq_true.mpr ⟨a, ha, by simp [e2, this]⟩
      · rintro ⟨h1, _, _⟩
        have := ih.mpr h1
        omega
theorem dedup_le (ns : List Int) : (dedup ns).length ≤ ns.length := firstMet_len _ _
theorem dedup_full (ns : List Int) : (dedup ns).length = ns.length ↔ ns.Nodup := by
  have := firstMet_full ns ns.length (Nat.le_refl _)
  rwa [List.take_length] at this
theorem dedup_lt (ns : List Int) : (((dedup ns).length : Nat) : Int) < ((ns.length : Nat) : Int) ↔ ¬ ns.Nodup := by
  have h1 := dedup_le ns
  have h2 := dedup_full ns
  constructor
  · intro h h3; have := h2.mpr h3; omega
  · intro h; by_cases e : (dedup ns).length = ns.length
    · exact absurd (h2.mp e) h
    · omega
/-- len(set(x)), x a list of ints -/
def tLenSetG (K : PySem.W.Frag) (ta : TE) : TE := fun σ H Q => ta σ H fun x H1 => ∃ (l : Addr) (ns : List Int), x = .ref l ∧ SqL K H1 l (ns.map V.int) ∧ ns.length ≤ 4000 ∧ Q (.int ((dedup ns).length : Nat)) H1
theorem pe_lenSetG {X : Cx} {a : Expr} {ta : TE} {p p2 q pos : Pos} (hg : Gl X "len") (hm : X.mg "len" = none) (hg2 : Gl X "set") (hm2 : X.mg "set" = none) (ha : PE X a ta) (hc : X.calm = true := by rfl)
    (na : starEach [a] X.env = (false, eval a X.env) :: starEach [] X.env := by rfl) : PE X (.Call (.Name "len" p) [.Call (.Name "set" p2) [a] [] q] [] pos) (tLenSetG X.K ta) := by
  refine ⟨fun pins s σ H Q I h => ?_⟩
  refine Call_ (ld_blt I hg hm boot_len ?_)
  refine PyProof.Rows.callWith_builtin1 (PyProof.Rows.args_cons ?_ rfl) rfl rfl
  refine Call_ (ld_blt I hg2 hm2 boot_set ?_)
  refine PyProof.Rows.callWith_type1 (PyProof.Rows.args_cons (thn (ha.run pins s σ H _ I h) fun v s1 ⟨x, H1, I1, r1, q1⟩ => PyProof.Rows.args_nil ?_) na) na rfl
  obtain ⟨l, ns, rfl, hq, hl, q1⟩ := q1
  cases r1
  obtain ⟨its, r, pl, hz⟩ := I1.list hq
  have hlen : its.toArray.size = ns.length := by rw [List.size_toArray, ← r.length, List.length_map]
  refine call_set_list (I1.ok.hd hc) pl.isList (by simpa using Vals.ints r) (by rw [hlen]; unfold scanBound; omega) fun h' tk hS hk => ?_
  refine PyProof.Rows.args_nil ?_
  rw [hlen] at hS
  obtain ⟨o, es, ep, t, ho, hex, hd, _, _, _, hf, hn⟩ := hS
  have hle := dedup_le ns
  have I2 : Inv X pins σ H1 { s1 with heap := h', toks := tk } := I1.kept fun b o e => hk b o (Heap.lt_size e) e
  have hn' : es.size = (dedup ns).length := hn
  exact call_len_set ho hex hd hf (by rw [hn] <;> exact Int.lt_of_le_of_lt (Int.ofNat_le.mpr hle) (by omega)) ⟨.int (dedup ns).length, H1, I2.tok _, ⟨_, by rw [hn]; rfl⟩, q1⟩
/-! ### list(reversed(a list)) -/
section
variable {prog : Program} {w : World} {A : Around} {E : Value → Shared → Prop} {s : Shared}
theorem extend_rev {R : Result → Shared → Prop} {it l : Addr} {items : Array Value} (hh : A.handled = none) (hit : s.heap.IsRevIter it l ((items.size : Int) - 1)) (hl : s.heap.IsList l items) (hne : l ≠ it) (hn : items.size ≤ sizeLine) (S : Addr) (res : Value) (c₀ : Nat)
    (hS : s.heap.get? S = some { cls := .type "list", data := .seq #[] c₀ }) (hSi : S ≠ it) (hSl : S ≠ l)
    (hR : ∀ h' tk acc' c', (∀ b o, b ≠ S → b ≠ it → s.heap.get? b = some o → h'.get? b = some o) → h'.get? S = some { cls := .type "list", dict := none, data := .seq acc' c', slots := #[] } →
      ItemsOf (fun i v => items[items.size - 1 - i]? = some v) acc' items.size → R (.ok (.ret res)) { s with heap := h', toks := tk }) :
    wpAny (model prog w) A.in1 (Builtin.List.listExtendWith (.ref S) (.ref it) res)
      (fun fin s' => match fin with | .done f => R (.ok f) s' | .again c' => c'.quiet = true ∧ codeAny (model prog w) A c' R s') (fun e s' => R (.error e) s') s := by
  have W := (Walks.listRev (prog := prog) (w := w) (A := A.in1) hh it l hne items).toS
  have hSf : S ∉ [it, l] := by simp only [List.mem_cons, List.not_mem_nil, or_false, not_or]; exact ⟨hSi, hSl⟩
  have hT : s.TypeIs (.ref it) "list_reverseiterator" := Heap.IsRevIter.typeIs hit
  have h1 : Builtin.List.listSameRef (.ref S) (.ref it) = false := by simp [Builtin.List.listSameRef, hSi]
  unfold Builtin.List.listExtendWith
  refine wpAny_bind (wpAny_typeOf hT ?_)
  rw [if_neg (by rw [h1]; decide)]
  refine wpAny_bind (wpAny_pyIter_revIter hit ?_)
  refine wpAny_bind (wpAny_holding ?_)
  unfold Builtin.List.listLengthHint
  refine wpAny_bind (wpAny_specialOf hT RT.nolen_lri ?_)
  show wpAny _ A.in1 (specialOf (Value.ref it) (Str.ofString "__length_hint__") >>= _) _ _ _
  refine wpAny_bind (wpAny_specialOf hT RT.hint_lri ?_)
  generalize hid : ("list_reverseiterator.__length_hint__" : String) = id0
  wp_delta
  rw [show splitId id0 = some ("list_reverseiterator", "__length_hint__") from by subst hid; decide +kernel]
  subst hid
  refine wpAny_bind (wpAny_isInstance (b := true) hT (by rw [isSubtype_type]; kernel_rfl) ?_)
  refine wpAny_pure ?_
  rw [if_neg (by decide)]
  have e0 : ((items.size : Nat) : Int) - 1 - ((0 : Nat) : Int) = (items.size : Int) - 1 := by omega
  refine wpAny_pure ⟨plainId_quiet F.plain_extend_loop _, codeAny_extend_loopS W hn _ hSf _ items.size 0 _ _ _ rfl (Nat.zero_le _) ⟨Nat.zero_le _, by rw [e0]; exact hit, hl⟩ hS (ItemsOf.nil _) fun s' acc' c' hm hS' hacc => ?_⟩
  rw [Moved.eq_with hm]
  refine hR s'.heap s'.toks acc' c' (fun b o hb hb2 e => hm.heap b o (fun hmem => ?_) e) hS' hacc
  rcases List.mem_cons.mp hmem with e' | hmem
  · exact hb e'
  · exact hb2 (List.mem_singleton.mp hmem)
theorem list_init_rev {R : Result → Shared → Prop} {it l : Addr} {items : Array Value} (hh : A.handled = none) (hit : s.heap.IsRevIter it l ((items.size : Int) - 1)) (hl : s.heap.IsList l items) (hne : l ≠ it) (hn : items.size ≤ sizeLine) (S : Addr)
    (hS : s.heap.get? S = some { cls := .type "list", data := .seq #[] }) (hSi : S ≠ it) (hSl : S ≠ l)
    (hR : ∀ h' tk acc' c', (∀ b o, b ≠ S → b ≠ it → s.heap.get? b = some o → h'.get? b = some o) → h'.get? S = some { cls := .type "list", dict := none, data := .seq acc' c', slots := #[] } →
      ItemsOf (fun i v => items[items.size - 1 - i]? = some v) acc' items.size → R (.ok (.ret .none)) { s with heap := h', toks := tk }) :
    wpAny (model prog w) A.in1 (Builtin.«list.__init__» ⟨[.ref S, .ref it], []⟩)
      (fun fin s' => match fin with | .done f => R (.ok f) s' | .again c' => c'.quiet = true ∧ codeAny (model prog w) A c' R s') (fun e s' => R (.error e) s') s := by
  show wpAny _ _ (do let old ← Builtin.List.listItems (.ref S); Builtin.List.listUpdate (.ref S) (fun _ => #[]); letGo old.toList.reverse; Builtin.List.listExtendWith (.ref S) (.ref it) .none) _ _ s
  refine wpAny_bind ?_
  unfold Builtin.List.listItems
  refine wpAny_bind (wpAny_seqItems hS rfl (wpAny_pure ?_))
  show wpAny _ _ (updateSeq S (fun _ => #[]) >>= fun _ => letGo (#[] : Array Value).toList.reverse >>= fun _ => Builtin.List.listExtendWith (.ref S) (.ref it) .none) _ _ s
  refine wpAny_bind (wpAny_updateSeq hS rfl ?_)
  have hS₂ := Heap.get?_update_self (Obj.mapSeq (fun _ => (#[] : Array Value))) hS rfl
  have oth : ∀ b o, b ≠ S → s.heap.get? b = some o → (s.heap.update S (Obj.mapSeq (fun _ => (#[] : Array Value)))).get? b = some o :=
    fun b o hb e => (Heap.get?_update_other _ _ (Ne.symm hb)).trans e
  refine wpAny_bind (wpAny_letGo ?_)
  obtain ⟨oi, hoi, ri⟩ := hit
  obtain ⟨ol, hol, rl⟩ := hl
  refine extend_rev (s := { s with heap := s.heap.update S (Obj.mapSeq (fun _ => (#[] : Array Value))) }) hh ⟨oi, oth it oi (Ne.symm hSi) hoi, ri⟩ ⟨ol, oth l ol (Ne.symm hSl) hol, rl⟩ hne hn S .none _ hS₂ hSi hSl fun h' tk acc' c' hk hS' hacc => ?_
  exact hR h' tk acc' c' (fun b o hb hb2 e => hk b o hb hb2 (oth b o hb e)) hS' hacc
theorem call_list_rev {Q : Value → Shared → Prop} {it l : Addr} {items : Array Value} (hh : A.handled = none) (hit : s.heap.IsRevIter it l ((items.size : Int) - 1)) (hl : s.heap.IsList l items) (hne : l ≠ it) (hn : items.size ≤ sizeLine)
    (hQ : ∀ h' tk acc' c', (∀ b o, b ≠ it → s.heap.get? b = some o → h'.get? b = some o) →
      h'.get? s.heap.objs.size = some { cls := .type "list", dict := none, data := .seq acc' c', slots := #[] } → ItemsOf (fun i v => items[items.size - 1 - i]? = some v) acc' items.size → Q (.ref s.heap.objs.size) { s with heap := h', toks := tk }) :
    wpAny (model prog w) A (call (.type "list") [.ref it]) Q E s := by
  obtain ⟨oi, hoi, ri⟩ := id hit
  obtain ⟨ol, hol, rl⟩ := id hl
  refine callType_codes (Q₁ := fun obj s₁ => obj = .ref s.heap.objs.size ∧ s₁ = { s with heap := s.heap.push { cls := .type "list", data := .seq #[] } }) F.called_list (F.typeCall_list_1 _) F.entry_list_init
    (code_list_new _ ⟨rfl, rfl⟩) fun obj s₁ h₁ => ?_
  obtain ⟨rfl, rfl⟩ := h₁
  have hS : (s.heap.push { cls := .type "list", data := .seq #[] }).get? s.heap.objs.size = some { cls := .type "list", data := .seq #[] } := Heap.get?_push_size _ rfl
  refine ⟨⟨_, hS, rfl⟩, F.args_list_init_2 _ _, list_init_rev (A := A.in1) (s := { s with heap := s.heap.push { cls := .type "list", data := .seq #[] } }) hh ⟨oi, Heap.get?_push_of_some _ hoi, ri⟩ ⟨ol, Heap.get?_push_of_some _ hol, rl⟩ hne hn _ hS (Nat.ne_of_gt (Heap.lt_size hoi)) (Nat.ne_of_gt (Heap.lt_size hol)) fun h' tk acc' c' hk hS' hacc => ?_⟩
  exact ⟨rfl, hQ h' tk acc' c' (fun b o hb e => hk b o (Nat.ne_of_lt (Heap.lt_size e)) hb (Heap.get?_push_of_some _ e)) hS' hacc⟩
end
def tListRev (K : PySem.W.Frag) (te : TE) : TE := fun σ H Q => te σ H fun v H1 => ∃ (a : Addr) (xs : List V), v = .ref a ∧ SqL K H1 a xs ∧ ∀ q, H1 q = none → Q (.ref q) (upd H1 q (.lst xs.reverse))
theorem pe_listRev {X : Cx} {e : Expr} {te : TE} {p p2 pos pos2 : Pos} (hc : X.calm = true) (hg : Gl X "list") (hm : X.mg "list" = none) (hg2 : Gl X "reversed") (hm2 : X.mg "reversed" = none) (he : PE X e te)
    (hs : starEach [e] X.env = (false, eval e X.env) :: starEach [] X.env := by rfl)
    (hs2 : starEach [.Call (.Name "reversed" p2) [e] [] pos2] X.env = (false, eval (.Call (.Name "reversed" p2) [e] [] pos2) X.env) :: starEach [] X.env := by rfl) :
    PE X (.Call (.Name "list" p) [.Call (.Name "reversed" p2) [e] [] pos2] [] pos) (tListRev X.K te) := by
  refine ⟨fun pins s σ H Q I h => ?_⟩
  refine Call_ (ld_blt I hg hm boot_list (PyProof.Rows.callWith_type1 (args_cons (Call_ (ld_blt I hg2 hm2 PyProof.Rows.boot_reversed (PyProof.Rows.callWith_type1 (args_cons (thn (he.run pins s σ H _ I h) fun u s1 ⟨v, H1, I1, r1, q1⟩ => args_nil ?_) hs) hs rfl))) hs2) hs2 rfl))
  obtain ⟨a, xs, ev, hq, q⟩ := q1
  subst ev
  obtain rfl : u = Value.ref a := r1
  obtain ⟨its, rv, p', hz⟩ := I1.list hq
  refine call_reversed_list p'.isList (args_nil ?_)
  have k0 : ∀ b o, s1.heap.get? b = some o → (s1.heap.push (revObj a ((its.toArray.size : Int) - 1))).get? b = some o := fun b o e => Heap.get?_push_of_some _ e
  have I2 : Inv X pins σ H1 { s1 with heap := s1.heap.push (revObj a ((its.toArray.size : Int) - 1)) } := I1.kept (t' := s1.toks) k0
  obtain ⟨f0, f1, f2, f3, f4, f5⟩ := I1.fpOk (H' := H1) (b := s1.heap.objs.size) (Nat.le_refl _) (I1.hok.fresh (Nat.le_refl _))
  have hl := p'.isList
  obtain ⟨ol, hol, _⟩ := id hl
  have hne : a ≠ s1.heap.objs.size := Nat.ne_of_lt (Heap.lt_size hol)
  have hn : its.toArray.size ≤ sizeLine := by rw [List.size_toArray, ← rv.length]; exact hz
  refine call_list_rev (s := { s1 with heap := s1.heap.push (revObj a ((its.toArray.size : Int) - 1)) }) (I1.ok.hd hc) ⟨_, Heap.get?_push_size _ rfl, rfl, rfl⟩ (hl.push _) hne hn fun h' tk acc c' hk hD hi => ?_
  have hD0 : H1 (s1.heap.push (revObj a ((its.toArray.size : Int) - 1))).objs.size = none := I2.hok.fresh (Nat.le_refl _)
  have nit : ∀ b u, H1 b = some u → b ≠ s1.heap.objs.size := fun b u e z => by rw [z, f0] at e; cases e
  have nD : ∀ b o, (s1.heap.push (revObj a ((its.toArray.size : Int) - 1))).get? b = some o → b ≠ (s1.heap.push (revObj a ((its.toArray.size : Int) - 1))).objs.size := fun b o e => Nat.ne_of_lt (Heap.lt_size e)
  have I3 : Inv X pins σ (upd H1 (s1.heap.push (revObj a ((its.toArray.size : Int) - 1))).objs.size (.lst xs.reverse)) { s1 with heap := h', toks := tk } := by
    refine L2.Inv.step (s := { s1 with heap := s1.heap.push (revObj a ((its.toArray.size : Int) - 1)) }) (h' := h') (t' := tk) (g' := s1.gens) (d' := s1.drawn) (ch := [s1.heap.objs.size]) I2 (fun b hb => ?_) (fun b o _ _ hc e _ => hk b o (fun z => hc (by simp [z])) e) (fun b o _ _ hc e _ => ⟨o.slots, hk b o (fun z => hc (by simp [z])) e⟩)
      (fun b o _ e n => by rw [upd_ne (nD b o e)]; exact n) (fun b o hc e => ⟨o, hk b o (fun z => hc (by simp [z])) e⟩) (fun b ys e => by rw [upd_ne (ne_of_none e hD0)]; exact e) (fun b o u e => by rw [upd_ne (ne_of_none e hD0)]; exact e)
      (fun b ps e => ⟨#[], by rw [upd_ne (ne_of_none e hD0), e]; simp⟩) (fun m hm => ?_) (fun b u e => ?_) I1.bare
    · have e : b = s1.heap.objs.size := by simpa using hb
      subst e
      exact ⟨f3, f1, f4, f5⟩
    · obtain ⟨o, es, ep, ho, r⟩ := hm
      exact ⟨o, es, ep, hk _ o (Ne.symm f1) ho, r⟩
    · by_cases hb : b = (s1.heap.push (revObj a ((its.toArray.size : Int) - 1))).objs.size
      · subst hb
        rw [upd_same] at e
        cases e
        refine ⟨by rw [List.length_reverse]; exact hz, acc.toList, c', RT.vals_rev rv hi, ?_⟩
        rw [Array.toArray_toList]
        exact hD
      · rw [upd_ne hb] at e
        refine (I2.hok b u e).stay (fun c v hc q => hk c v ?_ q) (fun c q => by rw [upd_ne (ne_of_none q hD0)]; exact q) fun c ys q => by rw [upd_ne (ne_of_none q hD0)]; exact q
        rcases hc with z | z
        · rw [z]; exact nit b u e
        · exact nit c _ z
  exact ⟨.ref _, _, I3, rfl, q _ hD0⟩
end Sh

set_option Elab.async false
set_option linter.all false
set_option maxRecDepth 100000
set_option maxHeartbeats 4000000
/-! M1: data compared, ranks, shapes: plain Lean (and what the layer's readings ask of it). -/
namespace Sh
open PySem PySem.Spec PyProof.Rows L2
/-! ### data of one form -/
structure IsD {α : Type} [DecidableEq α] (f : α → PyData) (k : Nat) : Prop where
  eqv : ∀ x y, PyData.eqv (f x) (f y) = decide (x = y)
  lay : ∀ x, (f x).canLay0 = true
  dep : ∀ x, (f x).depth ≤ k
theorem eqvAll_map {α : Type} [DecidableEq α] {f : α → PyData} {k : Nat} (h : IsD f k) : ∀ xs ys : List α, PyData.eqvAll (xs.map f) (ys.map f) = decide (xs = ys)
  | [], [] => by simp [PyData.eqvAll]
  | [], _ :: _ => by simp [PyData.eqvAll]
  | _ :: _, [] => by simp [PyData.eqvAll]
  | x :: xs, y :: ys => by
    simp only [List.map_cons, PyData.eqvAll, h.eqv, eqvAll_map h xs ys, List.cons.injEq, Bool.decide_and]
theorem layAll_map {α : Type} [DecidableEq α] {f : α → PyData} {k : Nat} (h : IsD f k) : ∀ xs : List α, PyData.canLayAll0 (xs.map f) = true
  | [] => by simp [PyData.canLayAll0]
  | x :: xs => by simp only [List.map_cons, PyData.canLayAll0, h.lay, layAll_map h xs, Bool.and_self]
theorem depAll_map {α : Type} [DecidableEq α] {f : α → PyData} {k : Nat} (h : IsD f k) : ∀ xs : List α, PyData.depthAll (xs.map f) ≤ k
  | [] => by simp [PyData.depthAll]
  | x :: xs => by
    have h1 := h.dep x
    have h2 := depAll_map h xs
    simp only [List.map_cons, PyData.depthAll]
    omega
theorem isD_int : IsD PyData.int 1 := ⟨fun x y => by simp [PyData.eqv, Bool.beq_eq_decide_eq], fun x => by simp [PyData.canLay0], fun x => by simp [PyData.depth]⟩
theorem isD_bool : IsD PyData.bool 1 := ⟨fun x y => by simp [PyData.eqv, Bool.beq_eq_decide_eq], fun x => by simp [PyData.canLay0], fun x => by simp [PyData.depth]⟩
theorem isD_list {α : Type} [DecidableEq α] {f : α → PyData} {k : Nat} (h : IsD f k) : IsD (fun xs : List α => PyData.list (xs.map f)) (k + 1) :=
  ⟨fun x y => by simp only [PyData.eqv, eqvAll_map h], fun x => by simp only [PyData.canLay0, layAll_map h], fun x => by have := depAll_map h x; simp only [PyData.depth]; omega⟩
theorem isD_tup {α : Type} [DecidableEq α] {f : α → PyData} {k : Nat} (h : IsD f k) : IsD (fun xs : List α => PyData.tuple (xs.map f)) (k + 1) :=
  ⟨fun x y => by simp only [PyData.eqv, eqvAll_map h], fun x => by simp only [PyData.canLay0, layAll_map h], fun x => by have := depAll_map h x; simp only [PyData.depth]; omega⟩
theorem shaped_of {α : Type} [DecidableEq α] {f : α → PyData} {k : Nat} (h : IsD f k) (hk : k ≤ 64) (x : α) : SeqAt.shaped (f x) = true := by
  unfold SeqAt.shaped
  rw [h.lay, decide_eq_true (Nat.le_trans (h.dep x) hk)]
  rfl
abbrev dInts : List Int → PyData := fun ns => .list (ns.map .int)
abbrev dTupI : List Int → PyData := fun ns => .tuple (ns.map .int)
abbrev dBools : List Bool → PyData := fun ns => .list (ns.map .bool)
abbrev dTupB : List Bool → PyData := fun ns => .tuple (ns.map .bool)
abbrev dLL : List (List Int) → PyData := fun xs => .list (xs.map dInts)
abbrev dLT : List (List Int) → PyData := fun xs => .list (xs.map dTupI)
theorem isD_ints : IsD dInts 2 := isD_list isD_int
theorem isD_tupI : IsD dTupI 2 := isD_tup isD_int
theorem isD_bools : IsD dBools 2 := isD_list isD_bool
theorem isD_tupB : IsD dTupB 2 := isD_tup isD_bool
theorem isD_LL : IsD dLL 3 := isD_list isD_ints
theorem isD_LT : IsD dLT 3 := isD_list isD_tupI
section
variable {K : PySem.W.Frag} {H : Hp}
theorem dpAll_int : ∀ ns : List Int, DpAll K H (ns.map V.int) (ns.map .int)
  | [] => .nil
  | n :: ns => .cons (.int n) (dpAll_int ns)
theorem dpAll_bool : ∀ ns : List Bool, DpAll K H (ns.map V.bl) (ns.map .bool)
  | [] => .nil
  | n :: ns => .cons (.bl n) (dpAll_bool ns)
theorem dp_ints {a : Addr} {ns : List Int} (h : SqL K H a (ns.map V.int)) : Dp K H (.ref a) (dInts ns) := .lst h (dpAll_int ns)
theorem dp_tupI {a : Addr} {ns : List Int} (h : SqT K H a (ns.map V.int)) : Dp K H (.ref a) (dTupI ns) := .tup h (dpAll_int ns)
theorem dp_bools {a : Addr} {ns : List Bool} (h : SqL K H a (ns.map V.bl)) : Dp K H (.ref a) (dBools ns) := .lst h (dpAll_bool ns)
theorem dp_tupB {a : Addr} {ns : List Bool} (h : SqT K H a (ns.map V.bl)) : Dp K H (.ref a) (dTupB ns) := .tup h (dpAll_bool ns)
theorem dpAll_of {α : Type} {f : α → PyData} : ∀ {vs : List V} {xs : List α}, Paired (fun v x => Dp K H v (f x)) vs xs → DpAll K H vs (xs.map f)
  | _, _, .nil => .nil
  | _, _, .cons h t => .cons h (dpAll_of t)
theorem rEq_of {α : Type} [DecidableEq α] {f : α → PyData} {k : Nat} {x y : V} {a b : α} {Q : VK} (D : IsD f k) (hk : k ≤ 64) (h1 : Dp K H x (f a)) (h2 : Dp K H y (f b)) (q : Q (.bl (decide (a = b))) H) : rEqD K x y H Q :=
  ⟨_, _, h1, h2, shaped_of D hk a, shaped_of D hk b, by rw [D.eqv]; exact q⟩
theorem rNe_of {α : Type} [DecidableEq α] {f : α → PyData} {k : Nat} {x y : V} {a b : α} {Q : VK} (D : IsD f k) (hk : k ≤ 64) (h1 : Dp K H x (f a)) (h2 : Dp K H y (f b)) (q : Q (.bl (!decide (a = b))) H) : rNeD K x y H Q :=
  ⟨_, _, h1, h2, shaped_of D hk a, shaped_of D hk b, by rw [D.eqv]; exact q⟩
theorem rEq_ints {a b : Addr} {ns ms : List Int} {Q : VK} (h1 : SqL K H a (ns.map V.int)) (h2 : SqL K H b (ms.map V.int)) (q : Q (.bl (decide (ns = ms))) H) : rEqD K (.ref a) (.ref b) H Q :=
  rEq_of isD_ints (by decide) (dp_ints h1) (dp_ints h2) q
theorem rNe_ints {a b : Addr} {ns ms : List Int} {Q : VK} (h1 : SqL K H a (ns.map V.int)) (h2 : SqL K H b (ms.map V.int)) (q : Q (.bl (!decide (ns = ms))) H) : rNeD K (.ref a) (.ref b) H Q :=
  rNe_of isD_ints (by decide) (dp_ints h1) (dp_ints h2) q
end
/-! ### x in (lists) -/
def rInDT (K : PySem.W.Frag) (neg : Bool) : R2 := fun x y H Q => ∃ d ds, Dp K H x d ∧ Dp K H y (.tuple ds) ∧ SeqAt.shaped d = true ∧ SeqAt.shaped (.list ds) = true ∧ Q (.bl (if neg then !(ds.any fun z => PyData.eqv z d) else ds.any fun z => PyData.eqv z d)) H
/-! ### the numbers 0 .. n - 1 -/
def rangeI (n : Nat) : List Int := (List.range n).map Int.ofNat
theorem rangeI_len (n : Nat) : (rangeI n).length = n := by simp [rangeI]
theorem rangeI_get {n i : Nat} (h : i < n) : (rangeI n)[i]? = some (i : Int) := by simp [rangeI, h]
theorem mem_rangeI {n : Nat} {x : Int} : x ∈ rangeI n ↔ 0 ≤ x ∧ x < n := by
  unfold rangeI
  simp only [List.mem_map, List.mem_range]
  constructor
  · rintro ⟨k, hk, rfl⟩
    exact ⟨Int.natCast_nonneg k, Int.ofNat_lt.mpr hk⟩
  · rintro ⟨h1, h2⟩
    exact ⟨x.toNat, by omega, by show ((x.toNat : Nat) : Int) = x; omega⟩
theorem rangeI_nodup (n : Nat) : (rangeI n).Nodup := by
  unfold rangeI List.Nodup
  rw [List.pairwise_map]
  exact List.Pairwise.imp (fun h e => h (Int.ofNat.inj e)) (List.nodup_range (n := n))
theorem rangeI_sorted (n : Nat) : (rangeI n).Pairwise (· ≤ ·) := by
  unfold rangeI
  rw [List.pairwise_map]
  exact List.pairwise_lt_range.imp fun h => Int.ofNat_le.mpr (Nat.le_of_lt h)
theorem rgV_range (n : Nat) : rgV 0 (n : Int) = (rangeI n).map V.int := by
  unfold rgV rangeI
  simp only [Int.sub_zero, Int.toNat_natCast, List.map_map]
  apply List.map_congr_left
  intro a _
  simp
/-! ### two ways to be sorted -/
theorem sorted_eq {ns ms : List Int} (p : ns.Perm ms) (h1 : ns.Pairwise (· ≤ ·)) (h2 : ms.Pairwise (· ≤ ·)) : ns = ms :=
  p.eq_of_pairwise (fun a b _ _ h h' => Int.le_antisymm h h') h1 h2
/-! ### ranks -/
def lessN (ns : List Int) (x : Int) : Int := ((ns.filter (· < x)).length : Int)
def rk (ns : List Int) : List Int := ns.map (lessN ns)
theorem rk_len (ns : List Int) : (rk ns).length = ns.length := by simp [rk]
theorem sorted_index : ∀ {l : List Int}, l.Pairwise (· ≤ ·) → ∀ {x : Int}, x ∈ l → l[(l.filter (· < x)).length]? = some x ∧ ∀ m y, m < (l.filter (· < x)).length → l[m]? = some y → y ≠ x
  | [], _, _, h => by simp at h
  | a :: l, hp, x, hx => by
    have h1 := (List.pairwise_cons.mp hp).1
    have h2 := (List.pairwise_cons.mp hp).2
    by_cases c : a < x
    · have hxl : x ∈ l := by
        rcases List.mem_cons.mp hx with e | e
        · omega
        · exact e
      have ih := sorted_index h2 hxl
      rw [List.filter_cons_of_pos (by simpa using c), List.length_cons]
      refine ⟨by rw [List.getElem?_cons_succ]; exact ih.1, fun m y hm hy => ?_⟩
      cases m with
      | zero =>
        have : a = y := by simpa using hy
        omega
      | succ m => exact ih.2 m y (by omega) (by simpa using hy)
    · have hall : ∀ y ∈ a :: l, ¬ y < x := fun y hy => by
        rcases List.mem_cons.mp hy with e | e
        · omega
        · have := h1 y e; omega
      have hz : (a :: l).filter (· < x) = [] := List.filter_eq_nil_iff.mpr (fun y hy => by simpa using hall y hy)
      rw [hz]
      have : a = x := by
        rcases List.mem_cons.mp hx with e | e
        · exact e.symm
        · have := h1 x e; omega
      exact ⟨by simp [this], fun m y hm => by simp at hm⟩
theorem rk_index {ns ns' : List Int} (perm : ns'.Perm ns) (ri : ns'.Pairwise (· ≤ ·)) (x : Int) (hx : x ∈ ns) : ∃ j : Nat, (j : Int) = lessN ns x ∧ ns'[j]? = some x ∧ ∀ m y, m < j → ns'[m]? = some y → y ≠ x := by
  have h := sorted_index ri (perm.mem_iff.mpr hx)
  have e : (ns'.filter (· < x)).length = (ns.filter (· < x)).length := (perm.filter _).length_eq
  exact ⟨(ns'.filter (· < x)).length, by unfold lessN; rw [e], h.1, h.2⟩
/-! ### rows and shapes -/
def rowOk (ns : List Int) : Prop := ns.length ≤ 30 ∧ ns.Nodup
def shapeOk (ns : List Int) : Prop := ns.length ≤ 30 ∧ ns.Perm (rangeI ns.length)
instance (ns : List Int) : Decidable (rowOk ns) := by unfold rowOk; infer_instance
instance (ns : List Int) : Decidable (shapeOk ns) := by unfold shapeOk; infer_instance
theorem shape_sorted {ns ns' : List Int} (p : ns'.Perm ns) (h : ns'.Pairwise (· ≤ ·)) : ns' = rangeI ns.length ↔ ns.Perm (rangeI ns.length) := by
  constructor
  · intro e; rw [← e]; exact p.symm
  · intro e; exact sorted_eq (p.trans e) h (rangeI_sorted _)
theorem shapeOk_row {ns : List Int} (h : shapeOk ns) : rowOk ns := ⟨h.1, h.2.nodup_iff.mpr (rangeI_nodup _)⟩
theorem shapeOk_mem {ns : List Int} (h : shapeOk ns) {x : Int} : x ∈ ns ↔ 0 ≤ x ∧ x < ns.length := by rw [h.2.mem_iff, mem_rangeI]
/-- flat ints within a list of values -/
theorem flat_ints (ns : List Int) : (ns.map V.int).all flatV = true := by
  rw [List.all_map]
  exact List.all_eq_true.mpr fun _ _ => rfl
theorem eqV_int (x y : Int) : eqV (.int x) (.int y) = decide (x = y) := by
  show (x == y) = _
  exact Bool.beq_eq_decide_eq _ _
theorem inV_ints (x : Int) (ns : List Int) : inV (.int x) (ns.map V.int) = decide (x ∈ ns) := by
  unfold inV
  rw [List.any_map]
  by_cases h : x ∈ ns
  · rw [decide_eq_true h]
    exact List.any_eq_true.mpr ⟨x, h, by simp [Function.comp, eqV_int]⟩
  · rw [decide_eq_false h]
    refine List.any_eq_false.mpr fun y hy => ?_
    simp only [Function.comp, eqV_int, decide_eq_true_eq]
    intro e; exact h (e ▸ hy)
end Sh

set_option Elab.async false
set_option linter.all false
set_option maxRecDepth 100000
set_option maxHeartbeats 4000000
/-! ShX: own errors caught: which class an except clause takes, isinstance of what was caught. -/
namespace Sh
open PySem PySem.Spec PyProof.Rows L2
section
variable {K : PySem.W.Frag}
theorem kit_ref {D C : Addr} {b : Bool} (hdct : PySem.W.hasDictIn K C = true) (ht : PySem.W.typeIn K (.ref C) = some (.type "type")) (h : PySem.W.subIn K (.ref D) (.ref C) = some b) (self : PySem.W.subIn K (.ref D) (.ref D) = some true) :
    PySem.W.kitOne K (.ref D) (.ref C) = some b := by
  obtain ⟨cd, hc, _⟩ := PySem.W.any_some hdct
  have e2 : ((PySem.W.clsIn K C).isSome && PySem.W.typeIn K (.ref C) == some (.type "type")) = true := by rw [hc, ht] <;> rfl
  unfold PySem.W.kitOne
  by_cases e : D = C
  · subst e
    rw [self] at h
    rw [if_pos (by simp)]
    exact h
  · rw [if_neg (by simpa using e)]
    show (if ((PySem.W.clsIn K C).isSome && PySem.W.typeIn K (.ref C) == some (.type "type")) = true then PySem.W.subIn K (.ref D) (.ref C) else none) = some b
    rw [if_pos e2]
    exact h
theorem kit_val {D : Addr} (h : PySem.W.subIn K (.ref D) (.type "ValueError") = some true) : PySem.W.kitOne K (.ref D) (.type "ValueError") = some true := by
  unfold PySem.W.kitOne
  rw [if_neg (by simp)]
  show (if PySem.W.kitMeta "ValueError" = true then PySem.W.subIn K (.ref D) (.type "ValueError") else none) = some true
  rw [if_pos (by decide +kernel)]
  exact h
end
/-- isinstance(e, c), e the error that the suite holds, of class cls -/
def rIsX (K : PySem.W.Frag) (a : Addr) (cls : Value) (d : Option Addr) : List V → Hp → VK → Prop := fun xs H Q => ∃ D, cls = .ref D ∧ d = none ∧ ExcC K D ∧ rIsE K D a xs H Q
theorem call_isX {X : Cx} {a : Addr} {oe : Obj} {pn : List (Addr × Obj)} {cls : Value} {d : Option Addr} (hz : Zc cls d oe) (hf : ∃ vs, oe.data = .fields vs) : CallR (X.suite a ((a, oe) :: pn)) (.builtin "isinstance") (rIsX X.K a cls d) := by
  intro pins s σ H xs us Q I r h
  obtain ⟨D, rfl, rfl, C, h⟩ := h
  exact call_isE C hz hf pins s σ H xs us Q I r h
theorem seq_of {t u : TS} {D : Ends} {σ : L2.St} {H : Hp} (Post : L2.St → Hp → Prop) (hu : ∀ σ H, Post σ H → u D σ H) (ht : ∀ U : L2.St → Hp → Prop, (∀ σ H, Post σ H → U σ H) → t { D with nx := U } σ H) : tSeq t u D σ H := ht _ hu
theorem seq_intro {t u : TS} {D : Ends} {σ : L2.St} {H : Hp} (h : t { D with nx := u D } σ H) : tSeq t u D σ H := h
/-! ### a loop over a list from its end -/
theorem forK_rev {K : PySem.W.Frag} {a : Addr} {g : TG} {tb : TS} {D : Ends} {σ : L2.St} {H : Hp} {α : Type} {n : Nat} (ns : List α) (h : α → V) (hn : n = ns.length) (Pv : Nat → L2.St → Hp → Prop) (h0 : Pv 0 σ H) (hl : ∀ i σ H, i ≤ ns.length → Pv i σ H → SqL K H a (ns.map h))
    (hs : ∀ (i : Nat) (x : α) σ H, i < ns.length → ns[ns.length - 1 - i]? = some x → Pv i σ H → g (h x) σ H fun σ2 H2 => tb { D with nx := Pv (i + 1), ct := Pv (i + 1), bk := D.nx } σ2 H2) (hd : ∀ σ H, Pv ns.length σ H → D.nx σ H) :
    ForK (Itv K a n) g tb D σ H := by
  subst hn
  refine ⟨fun i m σ H => m = ns.length - i ∧ i ≤ ns.length ∧ Pv i σ H, ⟨ns.length, by simp, Nat.zero_le _, h0⟩, ?_⟩
  rintro i m σ H ⟨rfl, hi, p⟩
  have q := hl i σ H hi p
  by_cases hlt : i < ns.length
  · have hx : ns[ns.length - 1 - i]? = some (ns[ns.length - 1 - i]'(by omega)) := List.getElem?_eq_getElem _
    have hy : (ns.map h)[ns.length - 1 - i]? = some (h (ns[ns.length - 1 - i]'(by omega))) := by rw [List.getElem?_map, hx]; rfl
    refine .inr ⟨⟨hlt, ns.map h, _, q, hy⟩, Pv (i + 1), fun σ' H' p' => ⟨ns.length - (i + 1), by omega, rfl, hlt, p'⟩, fun x H' y => ?_⟩
    obtain ⟨e, y⟩ := y
    subst e
    have e2 := (y _ q).symm.trans hy
    cases e2
    exact hs i _ σ _ hlt hx p
  · have e : i = ns.length := by omega
    subst e
    exact .inl ⟨Nat.le_refl _, hd σ H p⟩
end Sh

set_option Elab.async false
set_option linter.all false
set_option maxRecDepth 100000
set_option maxHeartbeats 4000000
/-! M2: contrary, turned over: plain Lean. -/
namespace Sh
open PySem PySem.Spec PyProof.Rows L2
/-! ### contrary, turned over -/
def contraryL (ns : List Int) : List Int := ns.map fun x => (ns.length : Int) - 1 - x
def overL (ns : List Int) : List Int := (List.range ns.length).map fun i : Nat => ((ns.idxOf (i : Int) : Nat) : Int)
theorem idxOf_at : ∀ {ns : List Int} {x : Int}, x ∈ ns → ns[ns.idxOf x]? = some x
  | [], _, h => by simp at h
  | a :: ns, x, h => by
    by_cases e : a = x
    · subst e; simp [List.idxOf_cons]
    · have h' : x ∈ ns := by
        rcases List.mem_cons.mp h with z | z
        · exact absurd z.symm e
        · exact z
      have q : (a == x) = false := by simpa using e
      rw [List.idxOf_cons, q]
      simpa using idxOf_at h'
theorem idxOf_min : ∀ {ns : List Int} {x : Int} {m : Nat} {y : Int}, m < ns.idxOf x → ns[m]? = some y → y ≠ x
  | [], _, _, _, h, _ => by simp at h
  | a :: ns, x, m, y, h, hy => by
    by_cases e : a = x
    · subst e; simp [List.idxOf_cons] at h
    · have q : (a == x) = false := by simpa using e
      rw [List.idxOf_cons, q] at h
      cases m with
      | zero =>
        have : a = y := by simpa using hy
        rw [← this]; exact e
      | succ m => exact idxOf_min (ns := ns) (m := m) (by simpa using h) (by simpa using hy)
theorem filter_len_le {α : Type} {p q : α → Bool} (h : ∀ x, q x = true → p x = true) : ∀ l : List α, (l.filter q).length ≤ (l.filter p).length
  | [] => by simp
  | a :: l => by
    have ih := filter_len_le h l
    by_cases c : q a = true
    · rw [List.filter_cons_of_pos c, List.filter_cons_of_pos (h a c)]
      simp; omega
    · rw [List.filter_cons_of_neg c]
      by_cases d : p a = true
      · rw [List.filter_cons_of_pos d]; simp; omega
      · rw [List.filter_cons_of_neg d]; exact ih
theorem filter_len_lt {α : Type} {p q : α → Bool} (h : ∀ x, q x = true → p x = true) {x : α} (hp : p x = true) (hq : q x = false) : ∀ l : List α, x ∈ l → (l.filter q).length < (l.filter p).length
  | a :: l, hm => by
    have le := filter_len_le h l
    by_cases e : a = x
    · subst e
      rw [List.filter_cons_of_neg (by simp [hq]), List.filter_cons_of_pos hp]
      simp; omega
    · have ih := filter_len_lt h hp hq l (by rcases List.mem_cons.mp hm with z | z; exact absurd z.symm e; exact z)
      by_cases c : q a = true
      · rw [List.filter_cons_of_pos c, List.filter_cons_of_pos (h a c)]
        simp; omega
      · rw [List.filter_cons_of_neg c]
        by_cases d : p a = true
        · rw [List.filter_cons_of_pos d]; simp; omega
        · rw [List.filter_cons_of_neg d]; exact ih
theorem filter_next {row : List Int} {num : Int} (h : num ∈ row) : (row.filter (fun y => decide (num + 1 ≤ y))).length < (row.filter (fun y => decide (num ≤ y))).length :=
  filter_len_lt (x := num) (fun x hx => by simp at hx ⊢; omega) (by simp) (by simp; omega) row h
end Sh

set_option Elab.async false
set_option linter.all false
set_option maxRecDepth 100000
set_option maxHeartbeats 4000000
/-! M3: shapes of rows, and shapes turned: plain Lean. -/
namespace Sh
open PySem PySem.Spec PyProof.Rows L2
theorem perm_of_sub {α : Type} [DecidableEq α] : ∀ {l m : List α}, l.Nodup → (∀ x ∈ l, x ∈ m) → m.length ≤ l.length → l.Perm m
  | [], m, _, _, h => by
    have : m = [] := by cases m with
      | nil => rfl
      | cons a r => simp at h
    subst this; exact List.Perm.nil
  | a :: l, m, hn, hs, h => by
    have ha : a ∈ m := hs a (by simp)
    have hn' := List.nodup_cons.mp hn
    have p : m.Perm (a :: m.erase a) := List.perm_cons_erase ha
    have hs' : ∀ x ∈ l, x ∈ m.erase a := fun x hx => by
      have hx' : x ∈ a :: m.erase a := p.mem_iff.mp (hs x (by simp [hx]))
      rcases List.mem_cons.mp hx' with e | e
      · exact absurd (e ▸ hx) hn'.1
      · exact e
    have hl : (m.erase a).length ≤ l.length := by
      have := List.length_erase_of_mem ha
      simp at h; omega
    exact ((perm_of_sub hn'.2 hs' hl).cons a).trans p.symm
theorem lessN_lt {ns : List Int} {x y : Int} (hx : x ∈ ns) (h : x < y) : lessN ns x < lessN ns y := by
  unfold lessN
  have := filter_len_lt (p := fun z => decide (z < y)) (q := fun z => decide (z < x)) (fun z hz => by simp at hz ⊢; omega) (x := x) (by simpa using h) (by simp) ns hx
  omega
theorem lessN_inj {ns : List Int} {x y : Int} (hx : x ∈ ns) (hy : y ∈ ns) (e : lessN ns x = lessN ns y) : x = y := by
  rcases Int.lt_trichotomy x y with h | h | h
  · have := lessN_lt hx h; omega
  · exact h
  · have := lessN_lt hy h; omega
theorem lessN_bound {ns : List Int} {x : Int} (hx : x ∈ ns) : 0 ≤ lessN ns x ∧ lessN ns x < ns.length := by
  unfold lessN
  refine ⟨by omega, ?_⟩
  have := filter_len_lt (p := fun _ => true) (q := fun z => decide (z < x)) (fun z _ => rfl) (x := x) rfl (by simp) ns hx
  rw [List.filter_eq_self.mpr (fun _ _ => rfl)] at this
  omega
theorem nodup_map {α β : Type} {f : α → β} {l : List α} (h : l.Nodup) (inj : ∀ a ∈ l, ∀ b ∈ l, f a = f b → a = b) : (l.map f).Nodup := by
  unfold List.Nodup
  rw [List.pairwise_map]
  exact List.Pairwise.imp_of_mem (fun {a b} ha hb hne e => hne (inj a ha b hb e)) h
theorem shape_of_nodup {ns : List Int} (hl : ns.length ≤ 30) (nd : ns.Nodup) (b : ∀ x ∈ ns, 0 ≤ x ∧ x < ns.length) : shapeOk ns :=
  ⟨hl, perm_of_sub nd (fun x hx => mem_rangeI.mpr (b x hx)) (by rw [rangeI_len]; exact Nat.le_refl _)⟩
theorem rk_shape {ns : List Int} (h : rowOk ns) : shapeOk (rk ns) := by
  refine shape_of_nodup (by rw [rk_len]; exact h.1) (nodup_map h.2 fun a ha b hb e => lessN_inj ha hb e) fun x hx => ?_
  obtain ⟨y, hy, rfl⟩ := List.mem_map.mp hx
  rw [rk_len]
  exact lessN_bound hy
theorem range_less (n : Nat) : ∀ k : Nat, k ≤ n → ((List.range n).filter (fun i => decide (i < k))).length = k := by
  induction n with
  | zero => intro k hk; have : k = 0 := by omega
            subst this; rfl
  | succ n ih =>
    intro k hk
    rw [List.range_succ, List.filter_append, List.length_append]
    by_cases e : k ≤ n
    · rw [ih k e, List.filter_cons_of_neg (by simp; omega)]; simp
    · have : k = n + 1 := by omega
      subst this
      have h1 : (List.range n).filter (fun i => decide (i < n + 1)) = List.range n := List.filter_eq_self.mpr fun i hi => by have := List.mem_range.mp hi; simp; omega
      rw [h1, List.filter_cons_of_pos (by simp)]
      simp
theorem lessN_range {n : Nat} {x : Int} (h0 : 0 ≤ x) (h : x ≤ n) : lessN (rangeI n) x = x := by
  obtain ⟨k, rfl⟩ : ∃ k : Nat, x = (k : Int) := ⟨x.toNat, by omega⟩
  unfold lessN rangeI
  rw [List.filter_map, List.length_map]
  have := range_less n k (by omega)
  have e : ((fun x => decide (x < (k : Int))) ∘ Int.ofNat) = fun i : Nat => decide (i < k) := by
    funext i
    simp [Function.comp]
  rw [e, this]
theorem lessN_perm {a b : List Int} (p : a.Perm b) (x : Int) : lessN a x = lessN b x := by
  unfold lessN; rw [(p.filter _).length_eq]
theorem rk_self {ns : List Int} (h : shapeOk ns) : rk ns = ns := by
  unfold rk
  conv => rhs; rw [← List.map_id ns]
  refine List.map_congr_left fun x hx => ?_
  have := (shapeOk_mem h).mp hx
  rw [lessN_perm h.2, lessN_range this.1 (by omega)]
  rfl
theorem reverse_shape {ns : List Int} (h : shapeOk ns) : shapeOk ns.reverse := ⟨by rw [List.length_reverse]; exact h.1, by rw [List.length_reverse]; exact (List.reverse_perm ns).trans h.2⟩
theorem contrary_len (ns : List Int) : (contraryL ns).length = ns.length := by simp [contraryL]
theorem contrary_shape {ns : List Int} (h : shapeOk ns) : shapeOk (contraryL ns) := by
  refine shape_of_nodup (by rw [contrary_len]; exact h.1) (nodup_map (shapeOk_row h).2 fun a _ b _ e => by omega) fun x hx => ?_
  obtain ⟨y, hy, rfl⟩ := List.mem_map.mp hx
  rw [contrary_len]
  have := (shapeOk_mem h).mp hy
  omega
theorem contrary_back (ns : List Int) : contraryL (contraryL ns) = ns := by
  unfold contraryL
  rw [List.map_map, List.length_map]
  conv => rhs; rw [← List.map_id ns]
  refine List.map_congr_left fun x _ => ?_
  simp only [Function.comp, id]
  omega
theorem over_len (ns : List Int) : (overL ns).length = ns.length := by simp [overL]
theorem over_get {ns : List Int} {i : Nat} (h : i < ns.length) : (overL ns)[i]? = some ((ns.idxOf (i : Int) : Nat) : Int) := by simp [overL, h]
theorem idxOf_of {ns : List Int} (nd : ns.Nodup) {i : Nat} {x : Int} (h : ns[i]? = some x) : ns.idxOf x = i := by
  have hm := List.mem_of_getElem? h
  exact nd_ix nd (idxOf_at hm) h
theorem idxOf_inj {ns : List Int} {x y : Int} (hx : x ∈ ns) (hy : y ∈ ns) (e : ns.idxOf x = ns.idxOf y) : x = y := by
  have h1 := idxOf_at hx
  rw [e, idxOf_at hy] at h1
  exact (Option.some.inj h1).symm
theorem idxOf_lt {ns : List Int} {x : Int} (hx : x ∈ ns) : ns.idxOf x < ns.length := (List.getElem?_eq_some_iff.mp (idxOf_at hx)).1
theorem over_shape {ns : List Int} (h : shapeOk ns) : shapeOk (overL ns) := by
  have hm : ∀ i ∈ List.range ns.length, ((i : Nat) : Int) ∈ ns := fun i hi => (shapeOk_mem h).mpr ⟨by omega, by have := List.mem_range.mp hi; omega⟩
  refine shape_of_nodup (by rw [over_len]; exact h.1) (nodup_map List.nodup_range fun a ha b hb e => ?_) fun x hx => ?_
  · have := idxOf_inj (hm a ha) (hm b hb) (by omega)
    omega
  · obtain ⟨y, hy, rfl⟩ := List.mem_map.mp hx
    rw [over_len]
    have := idxOf_lt (hm y hy)
    omega
theorem over_back {ns : List Int} (h : shapeOk ns) : overL (overL ns) = ns := by
  apply List.ext_getElem?
  intro i
  by_cases hi : i < ns.length
  · rw [over_get (by rw [over_len]; exact hi), List.getElem?_eq_getElem hi]
    have hx : ns[i] ∈ ns := List.getElem_mem hi
    have b := (shapeOk_mem h).mp hx
    have e : (overL ns)[(ns[i]).toNat]? = some (i : Int) := by
      rw [over_get (by omega)]
      have : (((ns[i]).toNat : Nat) : Int) = ns[i] := by omega
      rw [this, idxOf_of (shapeOk_row h).2 (List.getElem?_eq_getElem hi)]
    rw [idxOf_of (shapeOk_row (over_shape h)).2 e]
    congr 1
    omega
  · rw [List.getElem?_eq_none (by rw [over_len, over_len]; omega), List.getElem?_eq_none (by omega)]
def ovAt (s : List Int) (i : Nat) : List Int := (List.range s.length).map fun j : Nat => if s.idxOf (j : Int) < i then ((s.idxOf (j : Int) : Nat) : Int) else 0
theorem ovAt_len (s : List Int) (i : Nat) : (ovAt s i).length = s.length := by simp [ovAt]
theorem ovAt_zero (s : List Int) : ovAt s 0 = List.replicate s.length 0 := by
  unfold ovAt
  apply List.ext_getElem?
  intro j
  by_cases hj : j < s.length
  · simp [hj]
  · simp [hj]
theorem ovAt_full {s : List Int} (h : shapeOk s) : ovAt s s.length = overL s := by
  unfold ovAt overL
  refine List.map_congr_left fun j hj => ?_
  rw [if_pos (idxOf_lt ((shapeOk_mem h).mpr ⟨by omega, by have := List.mem_range.mp hj; omega⟩))]
theorem ovAt_step {s : List Int} (h : shapeOk s) {i : Nat} {x : Int} (hx : s[i]? = some x) : (ovAt s i).set x.toNat (i : Int) = ovAt s (i + 1) := by
  have b := (shapeOk_mem h).mp (List.mem_of_getElem? hx)
  have e := idxOf_of (shapeOk_row h).2 hx
  apply List.ext_getElem?
  intro j
  by_cases hj : j < s.length
  · by_cases ej : j = x.toNat
    · subst ej
      rw [List.getElem?_set_self (by rw [ovAt_len]; exact hj)]
      have : ((x.toNat : Nat) : Int) = x := by omega
      simp [ovAt, hj, this, e]
    · rw [List.getElem?_set_ne (Ne.symm ej)]
      have hjm : (j : Int) ∈ s := (shapeOk_mem h).mpr ⟨by omega, by omega⟩
      have ne : s.idxOf (j : Int) ≠ i := fun z => ej (by
        have := idxOf_at hjm
        rw [z, hx] at this
        have := Option.some.inj this
        omega)
      simp only [ovAt, List.getElem?_map, List.getElem?_range hj, Option.map_some]
      congr 1
      by_cases c : s.idxOf (j : Int) < i
      · rw [if_pos c, if_pos (by omega)]
      · rw [if_neg c, if_neg (by omega)]
  · rw [List.getElem?_eq_none (by rw [List.length_set, ovAt_len]; omega), List.getElem?_eq_none (by rw [ovAt_len]; omega)]
theorem rev_range (s : List Int) : (List.range s.length).map (fun k : Nat => s.getD (s.length - 1 - k) 0) = s.reverse := by
  apply List.ext_getElem?
  intro j
  by_cases hj : j < s.length
  · rw [List.getElem?_map, List.getElem?_range hj, List.getElem?_reverse hj, List.getElem?_eq_getElem (by omega)]
    simp [List.getD_eq_getElem?_getD, List.getElem?_eq_getElem (show s.length - 1 - j < s.length by omega)]
  · rw [List.getElem?_eq_none (by simp; omega), List.getElem?_eq_none (by simp; omega)]
theorem shape_iff (s : List Int) : (s.length < 31 ∧ ∀ j : Nat, j < s.length → (j : Int) ∈ s) ↔ shapeOk s := by
  constructor
  · rintro ⟨h1, h2⟩
    refine ⟨by omega, (perm_of_sub (rangeI_nodup _) (fun x hx => ?_) (by rw [rangeI_len]; exact Nat.le_refl _)).symm⟩
    have := mem_rangeI.mp hx
    have e : ((x.toNat : Nat) : Int) = x := by omega
    rw [← e]
    exact h2 _ (by omega)
  · intro h
    exact ⟨by have := h.1; omega, fun j hj => (shapeOk_mem h).mpr ⟨by omega, by omega⟩⟩
end Sh

set_option Elab.async false
set_option linter.all false
set_option maxRecDepth 100000
set_option maxHeartbeats 4000000
/-! M4: falls and wrong pairs: plain Lean. -/
namespace Sh
open PySem PySem.Spec PyProof.Rows L2
def inv : List Int → Nat
  | [] => 0
  | x :: r => (r.filter (· < x)).length + inv r
def fallsL (ns : List Int) : List Int := ((List.range (ns.length - 1)).filter fun k => decide (ns.getD (k + 1) 0 < ns.getD k 0)).map Int.ofNat
theorem inv_snoc : ∀ (l : List Int) (x : Int), inv (l ++ [x]) = inv l + (l.filter (fun y => decide (x < y))).length
  | [], x => by simp [inv]
  | a :: l, x => by
    have ih := inv_snoc l x
    simp only [List.cons_append, inv, List.filter_append, List.length_append, ih]
    by_cases c : x < a
    · rw [List.filter_cons_of_pos (by simpa using c), List.filter_cons_of_pos (by simpa using c)]
      simp; omega
    · rw [List.filter_cons_of_neg (by simpa using c), List.filter_cons_of_neg (by simpa using c)]
      simp; omega
theorem drop_get {ns : List Int} {i : Nat} (h : i < ns.length) : ns.drop i = ns.getD i 0 :: ns.drop (i + 1) := by
  rw [List.drop_eq_getElem_cons h, List.getD_eq_getElem?_getD, List.getElem?_eq_getElem h]
  rfl
theorem take_get {ns : List Int} {i : Nat} (h : i < ns.length) : ns.take (i + 1) = ns.take i ++ [ns.getD i 0] := by
  rw [List.getD_eq_getElem?_getD, List.getElem?_eq_getElem h, take_more (List.getElem?_eq_getElem h)]
  rfl
theorem inv_drop {ns : List Int} {i : Nat} (h : i < ns.length) : inv (ns.drop i) = ((ns.drop (i + 1)).filter (· < ns.getD i 0)).length + inv (ns.drop (i + 1)) := by
  rw [drop_get h]; rfl
theorem inv_take {ns : List Int} {i : Nat} (h : i < ns.length) : inv (ns.take (i + 1)) = inv (ns.take i) + ((ns.take i).filter (fun y => decide (ns.getD i 0 < y))).length := by
  rw [take_get h, inv_snoc]
theorem cut_from (xs : List V) (k : Nat) : cutV xs (some ((k : Int))) none = xs.drop k := by
  unfold cutV
  rw [HT.sIx_nat, HT.sIx_none]
  by_cases h : k ≤ xs.length
  · rw [Nat.min_eq_left h, List.take_of_length_le (by simp)]
  · rw [Nat.min_eq_right (by omega), List.drop_eq_nil_of_le (by omega : xs.length ≤ k)]
    simp
theorem insert_perm {s : List Int} {i : Nat} (p : s.Perm (rangeI i)) (j : Nat) : (s.take j ++ [(i : Int)] ++ s.drop j).Perm (rangeI (i + 1)) := by
  have h1 : (s.take j ++ [(i : Int)] ++ s.drop j).Perm ([(i : Int)] ++ s) := by
    conv => rhs; rw [← List.take_append_drop j s]
    rw [← List.append_assoc]
    exact List.Perm.append_right _ List.perm_append_comm
  refine h1.trans ?_
  have h2 : rangeI (i + 1) = rangeI i ++ [(i : Int)] := by
    unfold rangeI; rw [List.range_succ, List.map_append]; rfl
  rw [h2]
  exact (List.Perm.append_left _ p).trans List.perm_append_comm
end Sh

set_option Elab.async false
set_option linter.all false
set_option maxRecDepth 100000
set_option maxHeartbeats 4000000
/-! M5: wrong pairs of a shape backward and turned over: plain Lean. -/
namespace Sh
open PySem PySem.Spec PyProof.Rows L2
theorem split_len (x : Int) : ∀ l : List Int, x ∉ l → (l.filter (· < x)).length + (l.filter (fun y => decide (x < y))).length = l.length
  | [], _ => rfl
  | a :: l, h => by
    have h1 : x ≠ a := fun e => h (by simp [e])
    have ih := split_len x l (fun z => h (by simp [z]))
    by_cases c : a < x
    · rw [List.filter_cons_of_pos (by simpa using c), List.filter_cons_of_neg (by simp; omega)]
      simp; omega
    · rw [List.filter_cons_of_neg (by simpa using c), List.filter_cons_of_pos (by simp; omega)]
      simp; omega
theorem inv_reverse : ∀ l : List Int, l.Nodup → 2 * (inv l.reverse + inv l) = l.length * (l.length - 1)
  | [], _ => by simp [inv]
  | x :: l, h => by
    have hn := List.nodup_cons.mp h
    have ih := inv_reverse l hn.2
    have e := split_len x l hn.1
    have er : (l.reverse.filter (fun y => decide (x < y))).length = (l.filter (fun y => decide (x < y))).length := ((List.reverse_perm l).filter _).length_eq
    rw [List.reverse_cons, inv_snoc, er]
    simp only [inv, List.length_cons, Nat.add_sub_cancel]
    have e2 : (l.length + 1) * l.length = l.length * (l.length - 1) + 2 * l.length := by
      cases hl : l.length with
      | zero => rfl
      | succ n =>
        simp only [Nat.add_sub_cancel]
        generalize hm : (n + 1) * n = m
        have h3 : (n + 1 + 1) * (n + 1) = (n + 1) * n + 2 * (n + 1) := by
          rw [show n + 1 + 1 = n + 2 from rfl, Nat.mul_comm (n + 2) (n + 1), Nat.mul_add, Nat.mul_comm (n + 1) 2]
        omega
    rw [e2, ← ih]
    omega
theorem perm_sum {l m : List Nat} (p : l.Perm m) : l.sum = m.sum := by
  induction p with
  | nil => rfl
  | cons x _ ih => simp [ih]
  | swap x y l => simp; omega
  | trans _ _ h1 h2 => rw [h1, h2]
theorem fubini {α β : Type} (p : α → β → Bool) : ∀ (l : List α) (m : List β), (l.map fun x => m.countP (p x)).sum = (m.map fun y => l.countP (fun x => p x y)).sum
  | [], m => by
    induction m with
    | nil => rfl
    | cons a m ih => simp only [List.map_cons, List.sum_cons, ← ih]; rfl
  | a :: l, m => by
    have ih := fubini p l m
    simp only [List.map_cons, List.sum_cons, ih]
    clear ih
    induction m with
    | nil => rfl
    | cons b m ih =>
      simp only [List.countP_cons] at ih ⊢
      simp only [List.map_cons, List.sum_cons]
      omega
theorem count_below (p : Nat → Bool) (j : Nat) : ∀ n, j ≤ n → (List.range n).countP (fun i => decide (i < j) && p i) = (List.range j).countP p := by
  intro n
  induction n with
  | zero => intro h; have : j = 0 := by omega
            subst this; rfl
  | succ n ih =>
    intro h
    by_cases e : j ≤ n
    · rw [List.range_succ, List.countP_append, ih e, List.countP_cons_of_neg (by simp; omega)]; rfl
    · have : j = n + 1 := by omega
      subst this
      refine List.countP_congr fun i hi => ?_
      have := List.mem_range.mp hi
      simp [this]
theorem filter_take (ns : List Int) (x : Int) : ∀ m, m ≤ ns.length → ((ns.take m).filter (fun y => decide (x < y))).length = (List.range m).countP (fun i => decide (x < ns.getD i 0)) := by
  intro m
  induction m with
  | zero => intro _; rfl
  | succ m ih =>
    intro h
    rw [take_get (by omega), List.filter_append, List.length_append, ih (by omega), List.range_succ, List.countP_append]
    congr 1
    by_cases c : x < ns.getD m 0
    · rw [List.filter_cons_of_pos (by simpa using c), List.countP_cons_of_pos (by simpa using c)]; rfl
    · rw [List.filter_cons_of_neg (by simpa using c), List.countP_cons_of_neg (by simpa using c)]; rfl
theorem inv_sum (ns : List Int) : ∀ m, m ≤ ns.length → inv (ns.take m) = ((List.range m).map fun j => (List.range j).countP (fun i => decide (ns.getD j 0 < ns.getD i 0))).sum := by
  intro m
  induction m with
  | zero => intro _; rfl
  | succ m ih =>
    intro h
    rw [inv_take (by omega), ih (by omega), filter_take _ _ _ (by omega), List.range_succ, List.map_append, List.sum_append]
    simp
theorem inv_pairs (ns : List Int) : inv ns = ((List.range ns.length).map fun j => (List.range ns.length).countP (fun i => decide (i < j) && decide (ns.getD j 0 < ns.getD i 0))).sum := by
  have h := inv_sum ns ns.length (Nat.le_refl _)
  rw [List.take_length] at h
  rw [h]
  congr 1
  refine List.map_congr_left fun j hj => ?_
  have := List.mem_range.mp hj
  rw [count_below _ j _ (by omega)]
theorem getD_at {s : List Int} {i : Nat} (h : i < s.length) : s[i]? = some (s.getD i 0) := by
  rw [List.getD_eq_getElem?_getD, List.getElem?_eq_getElem h]; rfl
theorem map_getD (s : List Int) : (List.range s.length).map (fun i => s.getD i 0) = s := by
  apply List.ext_getElem?
  intro i
  by_cases h : i < s.length
  · rw [List.getElem?_map, List.getElem?_range h, getD_at h]; rfl
  · rw [List.getElem?_eq_none (by simp; omega), List.getElem?_eq_none (by omega)]
theorem shape_perm_nat {s : List Int} (h : shapeOk s) : ((List.range s.length).map (fun i => (s.getD i 0).toNat)).Perm (List.range s.length) := by
  have h1 : (s.map Int.toNat).Perm ((rangeI s.length).map Int.toNat) := h.2.map _
  have h2 : (rangeI s.length).map Int.toNat = List.range s.length := by
    unfold rangeI
    rw [List.map_map]
    conv => rhs; rw [← List.map_id (List.range s.length)]
    exact List.map_congr_left fun i _ => by simp
  rw [h2] at h1
  have h3 : (List.range s.length).map (fun i => (s.getD i 0).toNat) = s.map Int.toNat := by
    conv => rhs; rw [← map_getD s]
    rw [List.map_map]; rfl
  rw [h3]; exact h1
theorem inv_over {s : List Int} (h : shapeOk s) : inv (overL s) = inv s := by
  rw [inv_pairs (overL s), inv_pairs s, over_len]
  have P := shape_perm_nat h
  have at' : ∀ i, i < s.length → (overL s).getD (s.getD i 0).toNat 0 = (i : Int) := fun i hi => by
    have b := (shapeOk_mem h).mp (List.mem_of_getElem? (getD_at hi))
    have e : (((s.getD i 0).toNat : Nat) : Int) = s.getD i 0 := by omega
    rw [List.getD_eq_getElem?_getD, over_get (by omega), e, idxOf_of (shapeOk_row h).2 (getD_at hi)]
    rfl
  have pos : ∀ i, i < s.length → 0 ≤ s.getD i 0 := fun i hi => ((shapeOk_mem h).mp (List.mem_of_getElem? (getD_at hi))).1
  rw [perm_sum (P.map _).symm, List.map_map]
  rw [fubini (fun j i => decide (i < j) && decide (s.getD j 0 < s.getD i 0)) (List.range s.length) (List.range s.length)]
  congr 1
  refine List.map_congr_left fun i hi => ?_
  have hi' := List.mem_range.mp hi
  simp only [Function.comp]
  rw [← P.countP_eq, List.countP_map]
  refine List.countP_congr fun j hj => ?_
  have hj' := List.mem_range.mp hj
  simp only [Function.comp, at' i hi', at' j hj']
  have p1 := pos i hi'
  have p2 := pos j hj'
  simp only [Bool.and_eq_true, decide_eq_true_eq]
  omega
theorem eraseIdx_map {α β : Type} (f : α → β) : ∀ (l : List α) (i : Nat), (l.map f).eraseIdx i = (l.eraseIdx i).map f
  | [], _ => rfl
  | _ :: _, 0 => rfl
  | a :: l, i + 1 => by simp [eraseIdx_map f l i]
end Sh

open PySem PySem.Spec PyProof.Rows L2
local macro_rules | `(tactic| walk_at "rd") => `(tactic| try simp only [Sh.cxOf_K, tSeq, tAsg, tRet, tRetN, tVar, tC, tOp, tUn, tCB, tCons, tNil, tLst, tTup, gName, gSub, Sh.tFor_eq, Sh.tLc_eq, iList, iTup, iRng1, iRng2, tBM, tBM0, tNext, tIfS, tTest, tB, tYes, tAnd, tOr, tNot, tAndV, tOrV, tNotV, tIf, tDrop, tChain, tSl, tPart, tNoPart, tCall, tCallS, rI0, rI, rU, rEq, rNe, rIsB, rNotB, wipe,
   rSortedI, rIndex, rSlL, rIxL, rIxT, rSetL, rAppend, rExtend, rPop, rReverse, rCat, rRep, rCatT, rSum, rMin, rIn, Sh.rLen, Sh.rListOf, Sh.rTupleOf, Sh.rInt1, tLstRg, tRg1, tRg2, Sh.tLenSetG, Sh.tListRev, iRevR, iRev, List.length_map, List.length_range, Int.toNat_natCast, Int.zero_add, CDiv, Int.reduceLT, Int.reduceLE,
   List.getElem?_cons_zero, List.getElem?_cons_succ, List.set_cons_zero, List.set_cons_succ, Option.some.injEq, V.int.injEq, V.ref.injEq, V.bl.injEq, List.cons.injEq, and_true, true_and, and_assoc, reduceCtorEq, false_and, and_false, exists_false, false_or, or_false, exists_eq_left', exists_eq_left, exists_and_left, exists_and_right, List.map_cons, List.map_nil, List.append_nil, List.nil_append, List.cons_append, reduceIte, Bool.true_eq_false, Bool.false_eq_true, exists_eq', exists_eq, eq_self, not_true_eq_false, not_false_eq_true, decide_true, decide_false, Bool.not_true, Bool.not_false, if_true, if_false, decide_eq_true_eq, Bool.not_eq_true', decide_eq_false_iff_not])
local macro_rules | `(tactic| walk_at "r1") => `(tactic| try simp only [Sh.cxOf_K, tAsg, tRet, tRetN, tVar, tC, tOp, tUn, tCB, tCons, tNil, tLst, tTup, gName, gSub, Sh.tFor_eq, Sh.tLc_eq, iList, iTup, iRng1, iRng2, tBM, tBM0, tNext, tIfS, tTest, tB, tYes, tAnd, tOr, tNot, tAndV, tOrV, tNotV, tIf, tDrop, tChain, tSl, tPart, tNoPart, tCall, tCallS, rI0, rI, rU, rEq, rNe, rIsB, rNotB, wipe,
   rSortedI, rIndex, rSlL, rIxL, rIxT, rSetL, rAppend, rExtend, rPop, rReverse, rCat, rRep, rCatT, rSum, rMin, rIn, Sh.rLen, Sh.rListOf, Sh.rTupleOf, Sh.rInt1, tLstRg, tRg1, tRg2, Sh.tLenSetG, Sh.tListRev, iRevR, iRev, List.length_map, List.length_range, Int.toNat_natCast, Int.zero_add, CDiv, Int.reduceLT, Int.reduceLE,
   List.getElem?_cons_zero, List.getElem?_cons_succ, List.set_cons_zero, List.set_cons_succ, Option.some.injEq, V.int.injEq, V.ref.injEq, V.bl.injEq, List.cons.injEq, and_true, true_and, and_assoc, reduceCtorEq, false_and, and_false, exists_false, false_or, or_false, exists_eq_left', exists_eq_left, exists_and_left, exists_and_right, List.map_cons, List.map_nil, List.append_nil, List.nil_append, List.cons_append, reduceIte, Bool.true_eq_false, Bool.false_eq_true, exists_eq', exists_eq, eq_self, not_true_eq_false, not_false_eq_true, decide_true, decide_false, Bool.not_true, Bool.not_false, if_true, if_false, decide_eq_true_eq, Bool.not_eq_true', decide_eq_false_iff_not])

namespace Sh
def topS (i : Nat) : Stmt := PySem.Challenge.pw_shapeorders_k02_what_is_a_shape.main.body.getD i (.Pass ⟨0, 0, 0, 0⟩)
abbrev s__law_cell_at : Stmt := topS 11
theorem sc__law_cell_at : FnScope ["script", "k"] ["script", "k"] (defScope s__law_cell_at) := ⟨rfl, rfl, rfl, by decide +kernel, rfl, by decide +kernel, by decide +kernel⟩
abbrev s__law_shape : Stmt := topS 13
theorem sc__law_shape : FnScope ["script", "at", "size", "found", "k", "cell"] ["script", "at", "size"] (defScope s__law_shape) := ⟨rfl, rfl, rfl, by decide +kernel, rfl, by decide +kernel, by decide +kernel⟩
abbrev s__law_some : Stmt := topS 14
theorem sc__law_some : FnScope ["script", "way", "some", "at", "k"] ["script"] (defScope s__law_some) := ⟨rfl, rfl, rfl, by decide +kernel, rfl, by decide +kernel, by decide +kernel⟩
abbrev s_is_shape : Stmt := topS 9
theorem sc_is_shape : FnScope ["some"] ["some"] (defScope s_is_shape) := ⟨rfl, rfl, rfl, by decide +kernel, rfl, by decide +kernel, by decide +kernel⟩
abbrev s_ask_row : Stmt := topS 6
theorem sc_ask_row : FnScope ["row"] ["row"] (defScope s_ask_row) := ⟨rfl, rfl, rfl, by decide +kernel, rfl, by decide +kernel, by decide +kernel⟩
abbrev s_ranks : Stmt := topS 7
theorem sc_ranks : FnScope ["row", "rising", "number"] ["row"] (defScope s_ranks) := ⟨rfl, rfl, rfl, by decide +kernel, rfl, by decide +kernel, by decide +kernel⟩
abbrev s_shape_of : Stmt := topS 8
theorem sc_shape_of : FnScope ["row"] ["row"] (defScope s_shape_of) := ⟨rfl, rfl, rfl, by decide +kernel, rfl, by decide +kernel, by decide +kernel⟩
abbrev s_law : Stmt := topS 15
theorem sc_law : FnScope ["script", "some", "due", "k", "handed", "found", "told", "e"] ["script"] (defScope s_law) := ⟨rfl, rfl, rfl, by decide +kernel, rfl, by decide +kernel, by decide +kernel⟩
/-- what the top has written -/
structure Tx (K : PySem.W.Frag) (mg : Str → Option Value) where
  f__law_cell_at : Addr
  fd__law_cell_at : FuncData
  F__law_cell_at : Fun K "_law_cell_at" "_law_cell_at" s__law_cell_at f__law_cell_at fd__law_cell_at
  g__law_cell_at : mg "_law_cell_at" = some (.ref f__law_cell_at)
  b__law_cell_at : Binds K fd__law_cell_at ["script", "k"] []
  f__law_shape : Addr
  fd__law_shape : FuncData
  F__law_shape : Fun K "_law_shape" "_law_shape" s__law_shape f__law_shape fd__law_shape
  g__law_shape : mg "_law_shape" = some (.ref f__law_shape)
  b__law_shape : Binds K fd__law_shape ["script", "at", "size"] []
  f__law_some : Addr
  fd__law_some : FuncData
  F__law_some : Fun K "_law_some" "_law_some" s__law_some f__law_some fd__law_some
  g__law_some : mg "_law_some" = some (.ref f__law_some)
  b__law_some : Binds K fd__law_some ["script"] []
  f_is_shape : Addr
  fd_is_shape : FuncData
  F_is_shape : Fun K "is_shape" "is_shape" s_is_shape f_is_shape fd_is_shape
  g_is_shape : mg "is_shape" = some (.ref f_is_shape)
  b_is_shape : Binds K fd_is_shape ["some"] []
  f_ask_row : Addr
  fd_ask_row : FuncData
  F_ask_row : Fun K "ask_row" "ask_row" s_ask_row f_ask_row fd_ask_row
  g_ask_row : mg "ask_row" = some (.ref f_ask_row)
  b_ask_row : Binds K fd_ask_row ["row"] []
  f_ranks : Addr
  fd_ranks : FuncData
  F_ranks : Fun K "ranks" "ranks" s_ranks f_ranks fd_ranks
  g_ranks : mg "ranks" = some (.ref f_ranks)
  b_ranks : Binds K fd_ranks ["row"] []
  f_shape_of : Addr
  fd_shape_of : FuncData
  F_shape_of : Fun K "shape_of" "shape_of" s_shape_of f_shape_of fd_shape_of
  g_shape_of : mg "shape_of" = some (.ref f_shape_of)
  b_shape_of : Binds K fd_shape_of ["row"] []
  f_law : Addr
  fd_law : FuncData
  F_law : Fun K "law" "law" s_law f_law fd_law
  g_law : mg "law" = some (.ref f_law)
  b_law : Binds K fd_law ["script"] []
  m_len : mg "len" = none
  m_range : mg "range" = none
  m_list : mg "list" = none
  m_sorted : mg "sorted" = none
  m_set : mg "set" = none
  m_isinstance : mg "isinstance" = none
  m_bool : mg "bool" = none
  m_ValueError : mg "ValueError" = none
  t_MOST : Tok
  g_MOST : mg "MOST" = some (.int 30 t_MOST)
  C_NoRow : Addr
  gC_NoRow : mg "NoRow" = some (.ref C_NoRow)
  x_NoRow : PySem.W.excIn K C_NoRow [.type "ValueError", .type "Exception", .type "BaseException", .type "object"] "ValueError.__new__" = true
  kC_NoRow : PySem.W.keepIn K (.ref C_NoRow) = true
  bC_NoRow : PySem.W.subIn K (.ref C_NoRow) (.type "BaseException") = some true
  tC_NoRow : PySem.W.typeIn K (.ref C_NoRow) = some (.type "type")
  C_OrderError : Addr
  gC_OrderError : mg "OrderError" = some (.ref C_OrderError)
  x_OrderError : PySem.W.excIn K C_OrderError [.type "ValueError", .type "Exception", .type "BaseException", .type "object"] "ValueError.__new__" = true
  kC_OrderError : PySem.W.keepIn K (.ref C_OrderError) = true
  bC_OrderError : PySem.W.subIn K (.ref C_OrderError) (.type "BaseException") = some true
  tC_OrderError : PySem.W.typeIn K (.ref C_OrderError) = some (.type "type")
  C_NoShape : Addr
  gC_NoShape : mg "NoShape" = some (.ref C_NoShape)
  x_NoShape : PySem.W.excIn K C_NoShape [.type "ValueError", .type "Exception", .type "BaseException", .type "object"] "ValueError.__new__" = true
  kC_NoShape : PySem.W.keepIn K (.ref C_NoShape) = true
  bC_NoShape : PySem.W.subIn K (.ref C_NoShape) (.type "BaseException") = some true
  tC_NoShape : PySem.W.typeIn K (.ref C_NoShape) = some (.type "type")
  hd_NoRow : PySem.W.hasDictIn K C_NoRow = true
  hd_OrderError : PySem.W.hasDictIn K C_OrderError = true
  hd_NoShape : PySem.W.hasDictIn K C_NoShape = true
  ex_NoRow : ExcC K C_NoRow
  sV_NoRow : PySem.W.subIn K (.ref C_NoRow) (.type "ValueError") = some true
  s_NoRow_NoRow : PySem.W.subIn K (.ref C_NoRow) (.ref C_NoRow) = some true
  s_NoRow_OrderError : PySem.W.subIn K (.ref C_NoRow) (.ref C_OrderError) = some true
  s_NoRow_NoShape : PySem.W.subIn K (.ref C_NoRow) (.ref C_NoShape) = some false
  ex_NoShape : ExcC K C_NoShape
  sV_NoShape : PySem.W.subIn K (.ref C_NoShape) (.type "ValueError") = some true
  s_NoShape_NoRow : PySem.W.subIn K (.ref C_NoShape) (.ref C_NoRow) = some false
  s_NoShape_OrderError : PySem.W.subIn K (.ref C_NoShape) (.ref C_OrderError) = some true
  s_NoShape_NoShape : PySem.W.subIn K (.ref C_NoShape) (.ref C_NoShape) = some true
end Sh

namespace Sh
section
variable {P : Program} {w : World} {K : PySem.W.Frag} {mg : Str → Option Value} {base : Heap}
def sp__law_cell_at (T : Tx K mg) : Sp := fun vs H Q _ => ∃ (a : Addr) (ns : List Int) (k : Int), vs = [.ref a, .int k] ∧ SqL K H a (ns.map V.int) ∧ 0 ≤ k ∧ Q (.int (ns.getD k.toNat 0)) H
theorem ok__law_cell_at (T : Tx K mg) : FnOk P w K mg base CX0 1 T.f__law_cell_at T.fd__law_cell_at ["script", "k"] (sp__law_cell_at T) := by
  refine T.F__law_cell_at.ok sc__law_cell_at (fun vs H Q E h => ?_) (fun cdv A outer s H vs Q E hr h => ?_)
  · obtain ⟨a, ns, k, rfl, _⟩ := h
    rfl
  · obtain ⟨a, ns, k, rfl, hS, hk, q⟩ := h
    refine ⟨_, (pss_cons (by exact (ps_if (pt_cmpR (op_lt) (pv 1) (by exact (pe_callB call_lenS (by rfl) T.m_len PySem.boot_len (pa_cons (pv 0) pa_nil))) (nomark _)) (pss_one (by exact (ps_ret (pe_ix ix_list (pv 0) (pv 1) (fun _ _ => rfl))))) pss_nil))
        (pss_one (by exact (ps_ret pe_int)))), ?_⟩
    rw [show (start ["script", "k"] [V.ref a, V.int k] : L2.St) = [some (V.ref a), some (V.int k)] from rfl]
    walk_at "rd"
    refine ⟨_, .inl hS, ?_⟩
    walk_at "rd"
    obtain ⟨j, rfl⟩ : ∃ j : Nat, k = (j : Int) := ⟨k.toNat, by omega⟩
    rw [Int.toNat_natCast] at q
    refine ite2 (fun c => ?_) (fun c => ?_)
    · have hi : j < ns.length := by omega
      refine ⟨_, hS, .int (ns.getD j 0), atI_nat ?_, q⟩
      rw [List.getElem?_map, List.getElem?_eq_getElem hi, List.getD_eq_getElem?_getD, List.getElem?_eq_getElem hi]
      rfl
    · have e : ns.getD j 0 = 0 := by
        rw [List.getD_eq_getElem?_getD, List.getElem?_eq_none (by omega)] <;> rfl
      rw [e] at q
      exact q

end
end Sh

namespace Sh
section
variable {P : Program} {w : World} {K : PySem.W.Frag} {mg : Str → Option Value} {base : Heap}
def sp__law_shape (T : Tx K mg) : Sp := fun vs H Q _ => ∃ (a : Addr) (ns : List Int) (t n : Nat), vs = [.ref a, .int t, .int n] ∧ SqL K H a (ns.map V.int) ∧ n ≤ 4000 ∧ ∀ (s : List Int) H' p, s.Perm (rangeI n) → Same H H' → H p = none → H' p = some (.lst (s.map V.int)) → Q (.ref p) H'
theorem ok__law_shape (T : Tx K mg) : FnOk P w K mg base CX0 2 T.f__law_shape T.fd__law_shape ["script", "at", "size"] (sp__law_shape T) := by
  refine T.F__law_shape.ok sc__law_shape (fun vs H Q E h => ?_) (fun cdv A outer s H vs Q E hr h => ?_)
  · obtain ⟨a, ns, t, n, rfl, _⟩ := h
    rfl
  · obtain ⟨a, ns, t, n, rfl, hS, hlen, q⟩ := h
    refine ⟨_, (pss_cons (by exact (ps_set (i := 3) sc__law_shape.nd rfl (Or.inl rfl) (pe_lst pa_nil)))
        (pss_cons (by exact (ps_for PassesOwn.never rfl (pi_range1 rfl T.m_range (pa_cons (pv 2) pa_nil)) (pg_name (i := 4) sc__law_shape.nd rfl (Or.inl rfl))
        (pss_cons (by exact (ps_set (i := 5) sc__law_shape.nd rfl (Or.inl rfl) (by exact (pe_call (ok__law_cell_at T) (hr.mono (by decide)) (by rfl) T.g__law_cell_at T.F__law_cell_at.kp T.b__law_cell_at .nil pass0 (pa_cons (pv 0) (pa_cons (pe_op op_add (pv 1) (pv 4)) pa_nil))))))
        (pss_one (by exact (ps_expr (by exact (pe_bm PySem.F.plainAttrs_list PySem.F.slot_list_insert PySem.F.type_list_insert mt_insert (pv 3) (pa_cons (pe_ix ix_list (pe_lst (pa_cons (pe_op op_mod (pv 5) (pe_op op_add (pv 4) pe_int)) (pa_cons (pv 4) (pa_cons pe_int (pa_cons (pe_op op_mod (pe_op op_mod (pv 5) pe_int) (pe_op op_add (pv 4) pe_int)) pa_nil))))) (pe_op op_mod (pe_op op_fdiv (pv 5) pe_int) pe_int) (fun _ _ => rfl)) (pa_cons (pv 4) pa_nil))))))))))
        (pss_one (by exact (ps_ret (pv 3)))))), ?_⟩
    rw [show (start ["script", "at", "size", "found", "k", "cell"] [V.ref a, V.int t, V.int n] : L2.St) = [some (V.ref a), some (V.int t), some (V.int n), none, none, none] from rfl]
    walk_at "rd"
    refine ⟨lineLe (by decide), fun p np => ⟨by omega, by omega, ?_⟩⟩
    refine forK_range (fun i σ H' => ∃ (s : List Int) (y4 y5 : Option V), σ = [some (V.ref a), some (V.int t), some (V.int n), some (V.ref p), y4, y5] ∧ s.Perm (rangeI i) ∧ Same H H' ∧ H' p = some (.lst (s.map V.int)))
      ⟨[], _, _, rfl, List.Perm.refl _, same_new np, upd_same⟩ (fun i σ H' hi h => ?_) (fun σ H' h => ?_)
    · obtain ⟨s, y4, y5, rfl, pm, s1, hp⟩ := h
      walk_at "rd"
      refine ⟨a, ns, _, rfl, s1.seq hS, by omega, ?_⟩
      walk_at "rd"
      generalize ns.getD ((t : Int) + (i : Int)).toNat 0 = c
      refine ⟨tyL hp, by omega, by omega, lineLe (by simp), fun r nr => ⟨_, sql_self, _, atI_ints (ns := [c % ((i : Int) + 1), (i : Int), 0, c % 3 % ((i : Int) + 1)]) (by omega) (by show c / 37 % 4 < 4; omega), ?_⟩⟩
      obtain ⟨x, hx, hx0, hx1⟩ : ∃ x, [c % ((i : Int) + 1), (i : Int), 0, c % 3 % ((i : Int) + 1)].getD (c / 37 % 4).toNat 0 = x ∧ 0 ≤ x ∧ x ≤ i := by
        refine ⟨_, rfl, ?_⟩
        have h1 : 0 ≤ c % ((i : Int) + 1) ∧ c % ((i : Int) + 1) < (i : Int) + 1 := ⟨Int.emod_nonneg _ (by omega), Int.emod_lt_of_pos _ (by omega)⟩
        have h2 : 0 ≤ c % 3 % ((i : Int) + 1) ∧ c % 3 % ((i : Int) + 1) < (i : Int) + 1 := ⟨Int.emod_nonneg _ (by omega), Int.emod_lt_of_pos _ (by omega)⟩
        have h3 : (c / 37 % 4).toNat = 0 ∨ (c / 37 % 4).toNat = 1 ∨ (c / 37 % 4).toNat = 2 ∨ (c / 37 % 4).toNat = 3 := by omega
        rcases h3 with e | e | e | e <;> rw [e]
        · exact ⟨h1.1, by show c % ((i : Int) + 1) ≤ i; omega⟩
        · exact ⟨by show (0 : Int) ≤ i; omega, Int.le_refl _⟩
        · exact ⟨Int.le_refl _, by show (0 : Int) ≤ i; omega⟩
        · exact ⟨h2.1, by show c % 3 % ((i : Int) + 1) ≤ i; omega⟩
      rw [hx]
      have hpr := same_new (o := .lst ([c % ((i : Int) + 1), (i : Int), 0, c % 3 % ((i : Int) + 1)].map V.int)) nr _ _ hp
      have sl : s.length = i := by rw [pm.length_eq, rangeI_len]
      walk_at "rd"
      refine ⟨_, hpr, lineLt (by simp; omega), hx0, by omega, s.take x.toNat ++ [(i : Int)] ++ s.drop x.toNat, insert_perm pm _, same_mut (s1.trans (same_new nr)) np, ?_⟩
      rw [upd_same]
      simp only [List.map_append, List.map_take, List.map_drop, List.map_cons, List.map_nil]
    · obtain ⟨s, y4, y5, rfl, pm, s1, hp⟩ := h
      walk_at "rd"
      exact q s H' p pm s1 np hp

end
end Sh

namespace Sh
section
variable {P : Program} {w : World} {K : PySem.W.Frag} {mg : Str → Option Value} {base : Heap}
def sp__law_some (T : Tx K mg) : Sp := fun vs H Q _ => ∃ (a : Addr) (ns : List Int), vs = [.ref a] ∧ SqL K H a (ns.map V.int) ∧ ∀ (s : List Int) H' p, s.length ≤ 100 → Same H H' → H p = none → H' p = some (.lst (s.map V.int)) → Q (.ref p) H'
theorem ok__law_some (T : Tx K mg) : FnOk P w K mg base CX0 3 T.f__law_some T.fd__law_some ["script"] (sp__law_some T) := by
  refine T.F__law_some.ok sc__law_some (fun vs H Q E h => ?_) (fun cdv A outer s H vs Q E hr h => ?_)
  · obtain ⟨a, ns, rfl, _⟩ := h
    rfl
  · obtain ⟨a, ns, rfl, hS, q⟩ := h
    refine ⟨_, (pss_cons (by exact (ps_set (i := 1) sc__law_some.nd rfl (Or.inl rfl) (pe_op op_mod (by exact (pe_call (ok__law_cell_at T) (hr.mono (by decide)) (by rfl) T.g__law_cell_at T.F__law_cell_at.kp T.b__law_cell_at .nil pass0 (pa_cons (pv 0) (pa_cons pe_int pa_nil)))) pe_int)))
        (pss_cons (by exact (ps_if (pt_cmpR (op_eq) (pv 1) pe_int (nomark _)) (pss_one (by exact (ps_ret (by exact (pe_lc (own := [("k", 4)]) (g := gName 4) (tt := tYes) (te := (tOp (rI0 fun i j => .int (i - j)) (tOp (rI (fun _ j => 0 < j) fun i j => .int (i % j)) (tCall (sp__law_cell_at T) [] E0 (tCons (tVar 0) (tCons (tOp (rI0 fun i j => .int (i + j)) (tC (.int 2)) (tVar 4)) tNil))) (tC (.int 10))) (tC (.int 1)))) rfl sc__law_some.nd (pi_range1 rfl T.m_range (pa_cons (pe_op op_mod (by exact (pe_call (ok__law_cell_at T) (hr.mono (by decide)) (by rfl) T.g__law_cell_at T.F__law_cell_at.kp T.b__law_cell_at .nil pass0 (pa_cons (pv 0) (pa_cons pe_int pa_nil)))) pe_int) pa_nil)) (blkOk_by (N := ["script", "way", "some", "at", "k"]) (sc := defScope s__law_some) (by decide +kernel)) (fun _ _ _ _ _ => by exact (pg_name (i := 4) sc__law_some.nd rfl (by first | exact Or.inl rfl | exact Or.inr rfl))) (fun _ _ _ _ _ => pts_nil) (fun _ _ _ _ _ => by exact (pe_op op_sub (pe_op op_mod (by exact (pe_call (ok__law_cell_at T) (hr.mono (by decide)) (by rfl) T.g__law_cell_at T.F__law_cell_at.kp T.b__law_cell_at .nil pass0 (pa_cons (pv 0) (pa_cons (pe_op op_add pe_int (pv 4)) pa_nil)))) pe_int) pe_int))))))) pss_nil))
        (pss_cons (by exact (ps_set (i := 2) sc__law_some.nd rfl (Or.inl rfl) (by exact (pe_call (ok__law_shape T) (hr.mono (by decide)) (by rfl) T.g__law_shape T.F__law_shape.kp T.b__law_shape .nil pass0 (pa_cons (pv 0) (pa_cons pe_int (pa_cons (pe_op op_add pe_int (pe_op op_mod (by exact (pe_call (ok__law_cell_at T) (hr.mono (by decide)) (by rfl) T.g__law_cell_at T.F__law_cell_at.kp T.b__law_cell_at .nil pass0 (pa_cons (pv 0) (pa_cons pe_int pa_nil)))) pe_int)) pa_nil)))))))
        (pss_cons (by exact (ps_set (i := 3) sc__law_some.nd rfl (Or.inl rfl) (pe_op op_mod (by exact (pe_call (ok__law_cell_at T) (hr.mono (by decide)) (by rfl) T.g__law_cell_at T.F__law_cell_at.kp T.b__law_cell_at .nil pass0 (pa_cons (pv 0) (pa_cons pe_int pa_nil)))) (by exact (pe_callB call_lenS (by rfl) T.m_len PySem.boot_len (pa_cons (pv 2) pa_nil))))))
        (pss_cons (by exact (ps_if (pt_cmpR (op_eq) (pv 1) pe_int (nomark _)) (pss_one (by exact (ps_asg (pe_op op_sub (pe_op op_add (pe_ix ix_list (pv 2) (pv 3) (fun _ _ => rfl)) (pe_op op_mod (by exact (pe_call (ok__law_cell_at T) (hr.mono (by decide)) (by rfl) T.g__law_cell_at T.F__law_cell_at.kp T.b__law_cell_at .nil pass0 (pa_cons (pv 0) (pa_cons pe_int pa_nil)))) pe_int)) pe_int) (pg_sub (pv 2) (pv 3) set_list)))) pss_nil))
        (pss_cons (by exact (ps_if (pt_cmpR (op_eq) (pv 1) pe_int (nomark _)) (pss_one (by exact (ps_asg (pe_ix ix_list (pe_lst (pa_cons (by exact (pe_callB call_lenS (by rfl) T.m_len PySem.boot_len (pa_cons (pv 2) pa_nil))) (pa_cons (pe_un un_neg pe_int) (pa_cons (pe_op op_mod (by exact (pe_call (ok__law_cell_at T) (hr.mono (by decide)) (by rfl) T.g__law_cell_at T.F__law_cell_at.kp T.b__law_cell_at .nil pass0 (pa_cons (pv 0) (pa_cons pe_int pa_nil)))) (pe_op op_pow pe_int pe_int)) pa_nil)))) (pe_op op_mod (by exact (pe_call (ok__law_cell_at T) (hr.mono (by decide)) (by rfl) T.g__law_cell_at T.F__law_cell_at.kp T.b__law_cell_at .nil pass0 (pa_cons (pv 0) (pa_cons pe_int pa_nil)))) pe_int) (fun _ _ => rfl)) (pg_sub (pv 2) (pv 3) set_list)))) pss_nil))
        (pss_cons (by exact (ps_if (pt_cmpR (op_eq) (pv 1) pe_int (nomark _)) (pss_one (by exact (ps_expr (by exact (pe_bm PySem.F.plainAttrs_list PySem.F.slot_list_insert PySem.F.type_list_insert mt_insert (pv 2) (pa_cons (pv 3) (pa_cons (pe_ix ix_list (pv 2) (pe_op op_mod (by exact (pe_call (ok__law_cell_at T) (hr.mono (by decide)) (by rfl) T.g__law_cell_at T.F__law_cell_at.kp T.b__law_cell_at .nil pass0 (pa_cons (pv 0) (pa_cons pe_int pa_nil)))) (by exact (pe_callB call_lenS (by rfl) T.m_len PySem.boot_len (pa_cons (pv 2) pa_nil)))) (fun _ _ => rfl)) pa_nil))))))) pss_nil))
        (pss_cons (by exact (ps_if (pt_cmpR (op_eq) (pv 1) pe_int (nomark _)) (pss_one (by exact (ps_expr (by exact (pe_bm PySem.F.plainAttrs_list PySem.F.slot_list_pop PySem.F.type_list_pop mt_popAt (pv 2) (pa_cons (pv 3) pa_nil)))))) pss_nil))
        (pss_cons (by exact (ps_if (pt_cmpR (op_eq) (pv 1) pe_int (nomark _)) (pss_one (by exact (ps_set (i := 2) sc__law_some.nd rfl (Or.inl rfl) (by exact (pe_listRg rfl (by rfl) T.m_list (prg_1 (by rfl) T.m_range (pe_op op_add pe_int (pe_op op_mod (by exact (pe_call (ok__law_cell_at T) (hr.mono (by decide)) (by rfl) T.g__law_cell_at T.F__law_cell_at.kp T.b__law_cell_at .nil pass0 (pa_cons (pv 0) (pa_cons pe_int pa_nil)))) pe_int)))))))) pss_nil))
        (pss_one (by exact (ps_ret (pv 2))))))))))))), ?_⟩
    rw [show (start ["script", "way", "some", "at", "k"] [V.ref a] : L2.St) = [some (V.ref a), none, none, none, none] from rfl]
    refine seq_intro ?_
    walk_at "r1"
    refine ⟨a, ns, _, rfl, hS, by decide, ?_⟩
    walk_at "r1"
    refine seq_intro ?_
    walk_at "r1"
    generalize ns.getD (Int.toNat 0) 0 % 6 = wy
    refine ⟨rfl, ite2 (fun c => ?_) (fun c => ?_)⟩
    · refine ⟨a, ns, _, rfl, hS, by decide, ?_⟩
      generalize ns.getD (Int.toNat 1) 0 = c1
      walk_at "r1"
      refine ⟨by omega, by omega, fun D nD => ?_⟩
      refine lcK_mapR (fun i => V.int (ns.getD (2 + (i : Int)).toNat 0 % 10 - 1)) nD (by omega) (fun i acc H' QT hi hs hD hq => ?_) (fun H' hs hD => ?_)
      · walk_at "r1"
        refine ⟨a, ns, _, rfl, hs.seq hS, by omega, ?_⟩
        walk_at "r1"
        exact hq _ hs hD
      · refine q ((List.range (c1 % 10).toNat).map fun i : Nat => ns.getD (2 + (i : Int)).toNat 0 % 10 - 1) H' D (by simp; omega) hs nD ?_
        rw [hD, List.map_map]
        rfl
    refine seq_intro ?_
    walk_at "r1"
    refine ⟨a, ns, _, rfl, hS, by decide, ?_⟩
    walk_at "r1"
    obtain ⟨n, hn, hn1, hn30⟩ : ∃ n : Nat, 1 + ns.getD (Int.toNat 1) 0 % 30 = (n : Int) ∧ 1 ≤ n ∧ n ≤ 30 := ⟨(1 + ns.getD (Int.toNat 1) 0 % 30).toNat, by omega, by omega, by omega⟩
    rw [hn]
    refine ⟨a, ns, 2, n, rfl, hS, by omega, fun s H1 sa pm s1 nsa hsa => ?_⟩
    have sl : s.length = n := by rw [pm.length_eq, rangeI_len]
    walk_at "r1"
    refine seq_intro ?_
    walk_at "r1"
    refine ⟨a, ns, _, rfl, s1.seq hS, by decide, ?_⟩
    generalize ns.getD (Int.toNat 33) 0 = c33
    walk_at "r1"
    refine ⟨_, .inl (SqL.of hsa), ?_⟩
    walk_at "r1"
    refine ⟨by omega, ?_⟩
    obtain ⟨t, ht, htl⟩ : ∃ t : Nat, c33 % (s.length : Int) = (t : Int) ∧ t < s.length := ⟨(c33 % (s.length : Int)).toNat, by have := Int.emod_nonneg c33 (show (s.length : Int) ≠ 0 by omega); omega, by have := Int.emod_lt_of_pos c33 (show 0 < (s.length : Int) by omega); have := Int.emod_nonneg c33 (show (s.length : Int) ≠ 0 by omega); omega⟩
    rw [ht]
    -- what holds between the tests
    have P : ∃ P : Nat → L2.St → Hp → Prop, (∀ k σ H', P k σ H' ↔ ∃ (r : Addr) (s : List Int), σ = [some (V.ref a), some (V.int wy), some (V.ref r), some (V.int t), none] ∧ (k ≤ 1 → t < s.length) ∧ s.length ≤ 40 + k ∧ Same H H' ∧ H r = none ∧ H' r = some (.lst (s.map V.int))) := ⟨_, fun _ _ _ => Iff.rfl⟩
    obtain ⟨P, hP⟩ := P
    have i0 : P 0 [some (V.ref a), some (V.int wy), some (V.ref sa), some (V.int t), none] H1 := (hP _ _ _).mpr ⟨sa, s, rfl, fun _ => htl, by omega, s1, nsa, hsa⟩
    have ixt : ∀ (m : Nat), t < m → ixN m (t : Int) = some t := fun m hm => by
      unfold ixN
      rw [if_pos (by omega), if_pos (by omega)]; simp
    refine seq_of (P 0) (fun σ H' h => ?_) (fun U hU => ?_)
    rotate_left
    · walk_at "r1"
      refine ⟨rfl, ite2 (fun c => ?_) (fun c => hU _ _ i0)⟩
      refine ⟨_, SqL.of hsa, _, atI_ints (by omega) (by omega), ?_⟩
      walk_at "r1"
      refine ⟨a, ns, _, rfl, s1.seq hS, by decide, ?_⟩
      walk_at "r1"
      refine ⟨_, hsa, _, ixt _ (by simpa using htl), hU _ _ ((hP _ _ _).mpr ⟨sa, s.set t (s.getD t 0 + ns.getD (Int.toNat 34) 0 % 7 - 3), rfl, fun _ => by simpa using htl, by simp; omega, same_mut s1 nsa, nsa, ?_⟩)⟩
      rw [upd_same, List.map_set]
    refine seq_of (P 0) (fun σ H' h => ?_) (fun U hU => ?_)
    rotate_left
    · obtain ⟨r, s2, rfl, htl2, l2, s2', nr, hr⟩ := (hP _ _ _).mp h
      replace htl2 := htl2 (by omega)
      walk_at "r1"
      refine ⟨rfl, ite2 (fun c => ?_) (fun c => hU _ _ h)⟩
      refine ⟨_, .inl (SqL.of hr), ?_⟩
      refine ⟨a, ns, _, rfl, s2'.seq hS, by decide, ?_⟩
      generalize ns.getD (Int.toNat 34) 0 = c34
      walk_at "r1"
      refine ⟨⟨by decide, by decide, by decide⟩, by decide, lineLe (by simp), fun m nm => ?_⟩
      refine ⟨a, ns, _, rfl, sql_new nm (s2'.seq hS), by decide, ?_⟩
      generalize ns.getD (Int.toNat 35) 0 = c35
      walk_at "r1"
      refine ⟨_, sql_self, _, atI_ints (ns := [(s2.length : Int), -1, c34 % 10 ^ Int.toNat 50]) (by omega) (by show c35 % 3 < 3; omega), ?_⟩
      have hr2 := same_new (o := .lst ([(s2.length : Int), -1, c34 % 10 ^ Int.toNat 50].map V.int)) nm _ _ hr
      refine ⟨_, hr2, _, ixt _ (by simpa using htl2), hU _ _ ((hP _ _ _).mpr ⟨r, s2.set t ([(s2.length : Int), -1, c34 % 10 ^ Int.toNat 50].getD (c35 % 3).toNat 0), rfl, fun _ => by simpa using htl2, by simp; omega, same_mut (s2'.trans (same_new nm)) nr, nr, ?_⟩)⟩
      rw [upd_same, List.map_set]
    refine seq_of (P 1) (fun σ H' h => ?_) (fun U hU => ?_)
    rotate_left
    · obtain ⟨r, s2, rfl, htl2, l2, s2', nr, hr⟩ := (hP _ _ _).mp h
      replace htl2 := htl2 (by omega)
      walk_at "r1"
      refine ⟨rfl, ite2 (fun c => ?_) (fun c => hU _ _ ((hP _ _ _).mpr ⟨r, s2, rfl, fun _ => htl2, by omega, s2', nr, hr⟩))⟩
      refine ⟨tyL hr, ?_⟩
      refine ⟨a, ns, _, rfl, s2'.seq hS, by decide, ?_⟩
      generalize ns.getD (Int.toNat 34) 0 = c34
      walk_at "r1"
      refine ⟨_, .inl (SqL.of hr), ?_⟩
      walk_at "r1"
      have p1 : 0 < (s2.length : Int) := by omega
      refine ⟨p1, _, SqL.of hr, _, atI_ints (Int.emod_nonneg _ (by omega)) (Int.emod_lt_of_pos _ p1), ?_⟩
      walk_at "r1"
      refine ⟨_, hr, lineLt (by simp; omega), by omega, by omega, ?_⟩
      refine hU _ _ ((hP _ _ _).mpr ⟨r, s2.take t ++ [s2.getD (c34 % (s2.length : Int)).toNat 0] ++ s2.drop t, rfl, fun _ => by simp; omega, by simp; omega, same_mut s2' nr, nr, ?_⟩)
      rw [upd_same]
      simp only [List.map_append, List.map_take, List.map_drop, List.map_cons, List.map_nil]
    refine seq_of (P 2) (fun σ H' h => ?_) (fun U hU => ?_)
    rotate_left
    · obtain ⟨r, s2, rfl, htl2, l2, s2', nr, hr⟩ := (hP _ _ _).mp h
      replace htl2 := htl2 (by omega)
      walk_at "r1"
      refine ⟨rfl, ite2 (fun c => ?_) (fun c => hU _ _ ((hP _ _ _).mpr ⟨r, s2, rfl, fun _ => htl2, by omega, s2', nr, hr⟩))⟩
      refine ⟨tyL hr, r, s2.map V.int, (t : Int), t, V.int (s2.getD t 0), rfl, rfl, hr, by omega, by omega, ?_, ?_, ?_⟩
      · simp only [seqIndex?, List.length_map]
        rw [if_neg (show ¬ ((t : Int) < 0) by omega)]
        simp [htl2]
      · rw [List.getElem?_map, getD_at htl2]; rfl
      · refine hU _ _ ((hP _ _ _).mpr ⟨r, s2.eraseIdx t, rfl, fun z => by omega, ?_, same_mut s2' nr, nr, ?_⟩)
        · have := len_erase s2 t; omega
        · rw [upd_same, eraseIdx_map]
    refine seq_of (P 2) (fun σ H' h => ?_) (fun U hU => ?_)
    rotate_left
    · obtain ⟨r, s2, rfl, htl2, l2, s2', nr, hr⟩ := (hP _ _ _).mp h
      walk_at "r1"
      refine ⟨rfl, ite2 (fun c => ?_) (fun c => hU _ _ h)⟩
      refine ⟨a, ns, _, rfl, s2'.seq hS, by decide, ?_⟩
      generalize ns.getD (Int.toNat 34) 0 = c34
      walk_at "r1"
      obtain ⟨m, hm, hm2⟩ : ∃ m : Nat, 30 + c34 % 11 = (m : Int) ∧ m ≤ 40 := ⟨(30 + c34 % 11).toNat, by omega, by omega⟩
      rw [hm]
      refine ⟨⟨by decide, by decide, by omega, by omega, by omega⟩, fun p np => ?_⟩
      refine hU _ _ ((hP _ _ _).mpr ⟨p, rangeI m, rfl, fun z => by omega, by rw [rangeI_len]; omega, s2'.trans (same_new np), s2'.free np, ?_⟩)
      rw [upd_same, rgV_range]
    obtain ⟨r, s2, rfl, htl2, l2, s2', nr, hr⟩ := (hP _ _ _).mp h
    walk_at "r1"
    exact q s2 H' r (by omega) s2' nr hr

end
end Sh

namespace Sh
section
variable {P : Program} {w : World} {K : PySem.W.Frag} {mg : Str → Option Value} {base : Heap}
def sp_is_shape (T : Tx K mg) : Sp := fun vs H Q E => ∃ (a : Addr) (ns : List Int), vs = [.ref a] ∧ SqL K H a (ns.map V.int) ∧ ns.length ≤ 4000 ∧ ∀ H', Same H H' → Q (.bl (decide (shapeOk ns))) H'
theorem ok_is_shape (T : Tx K mg) : FnOk P w K mg base CX0 1 T.f_is_shape T.fd_is_shape ["some"] (sp_is_shape T) := by
  refine T.F_is_shape.ok sc_is_shape (fun vs H Q E h => ?_) (fun cdv A outer s H vs Q E hr h => ?_)
  · obtain ⟨a, ns, rfl, _⟩ := h
    rfl
  · obtain ⟨a, ns, rfl, hS, hl, q⟩ := h
    refine ⟨_, (pss_one (by exact (ps_ret (pe_and (pe_cmpR (op_le) (by exact (pe_callB call_lenS (by rfl) T.m_len PySem.boot_len (pa_cons (pv 0) pa_nil))) (pe_glob (v := .int 30) rfl T.g_MOST ⟨_, rfl⟩) (nomark _)) (pe_one (pe_cmpR (op_eqD hr.units) (by exact (pe_callB cr_sortedI (by rfl) T.m_sorted (by decide +kernel) (pa_cons (pv 0) pa_nil))) (by exact (pe_listRg rfl (by rfl) T.m_list (prg_1 (by rfl) T.m_range (by exact (pe_callB call_lenS (by rfl) T.m_len PySem.boot_len (pa_cons (pv 0) pa_nil)))))) (nomark _))))))), ?_⟩
    rw [show (start ["some"] [V.ref a] : L2.St) = [some (V.ref a)] from rfl]
    walk_at "rd"
    refine ⟨_, .inl hS, ?_⟩
    walk_at "rd"
    refine ite2 (fun c => ⟨ns, hS, fun ns' p perm ri np => ⟨_, .inl (sql_new np hS), ?_⟩⟩) (fun c => ?_)
    · walk_at "rd"
      refine ⟨⟨by decide, by decide, by omega, by omega, by omega⟩, fun r nr => ?_⟩
      refine rEq_ints (ns := ns') (ms := rangeI ns.length) (sql_new nr sql_self) (by rw [rgV_range]; exact sql_self) ?_
      have e : decide (ns' = rangeI ns.length) = decide (shapeOk ns) := by
        refine decide_eq_decide.mpr ((shape_sorted perm ri).trans ⟨fun z => ⟨by omega, z⟩, fun z => z.2⟩)
      rw [e]
      exact q _ ((same_new np).trans (same_new nr))
    · have e : decide (shapeOk ns) = false := decide_eq_false fun z => by have := z.1; omega
      have := q H (Same.refl H)
      rw [e] at this
      exact this

end
end Sh

namespace Sh
section
variable {P : Program} {w : World} {K : PySem.W.Frag} {mg : Str → Option Value} {base : Heap}
def sp_ask_row (T : Tx K mg) : Sp := fun vs H Q E => ∃ (a : Addr) (ns : List Int), vs = [.ref a] ∧ SqL K H a (ns.map V.int) ∧ ns.length ≤ 4000 ∧ (rowOk ns → Q .non H) ∧ (¬ rowOk ns → E (.ref T.C_NoRow) none H)
theorem ok_ask_row (T : Tx K mg) : FnOk P w K mg base (L2.CX P w) 1 T.f_ask_row T.fd_ask_row ["row"] (sp_ask_row T) := by
  refine T.F_ask_row.okX sc_ask_row (fun vs H Q E h => ?_) (fun cdv A outer s H vs Q E hr h => ?_)
  · obtain ⟨a, ns, rfl, _⟩ := h
    rfl
  · obtain ⟨a, ns, rfl, hS, hl, q1, q2⟩ := h
    refine ⟨_, (pss_one (by exact (ps_if (PW.pt (pw_or (pt_cmpR (op_gt) (by exact (pe_callB call_lenS (by rfl) T.m_len PySem.boot_len (pa_cons (pv 0) pa_nil))) (pe_glob (v := .int 30) rfl T.g_MOST ⟨_, rfl⟩) (nomark _)) (pw_or1 (pt_cmpR (op_lt) (by exact (pe_lenSetG (by rfl) T.m_len (by rfl) T.m_set (pv 0))) (by exact (pe_callB call_lenS (by rfl) T.m_len PySem.boot_len (pa_cons (pv 0) pa_nil))) (nomark _))))) (pss_one (by exact (ps_raise rfl (takes_of rfl rfl rfl rfl) (pmk_own PySem.F.excBase_ValueError T.x_NoRow T.gC_NoRow T.kC_NoRow (raises_own T.bC_NoRow T.tC_NoRow) (by exact rfl))))) pss_nil))), ?_⟩
    rw [show (start ["row"] [V.ref a] : L2.St) = [some (V.ref a)] from rfl]
    walk_at "rd"
    refine ⟨_, .inl hS, ?_⟩
    walk_at "rd"
    refine ite2 (fun c => q2 fun z => ?_) (fun c => ⟨ns, hS, hl, _, .inl hS, ?_⟩)
    · have := z.1; omega
    · walk_at "rd"
      refine ite2 (fun d => q2 fun z => ?_) (fun d => q1 ⟨by omega, ?_⟩)
      · exact (dedup_lt ns).mp d z.2
      · exact Classical.byContradiction fun z => d ((dedup_lt ns).mpr z)

end
end Sh

namespace Sh
section
variable {P : Program} {w : World} {K : PySem.W.Frag} {mg : Str → Option Value} {base : Heap}
def sp_ranks (T : Tx K mg) : Sp := fun vs H Q _ => ∃ (a : Addr) (ns : List Int), vs = [.ref a] ∧ SqL K H a (ns.map V.int) ∧ ns.length ≤ 4000 ∧ ∀ H' p, Same H H' → H p = none → H' p = some (.lst ((rk ns).map V.int)) → Q (.ref p) H'
theorem ok_ranks (T : Tx K mg) : FnOk P w K mg base CX0 1 T.f_ranks T.fd_ranks ["row"] (sp_ranks T) := by
  refine T.F_ranks.ok sc_ranks (fun vs H Q E h => ?_) (fun cdv A outer s H vs Q E hr h => ?_)
  · obtain ⟨a, ns, rfl, _⟩ := h
    rfl
  · obtain ⟨a, ns, rfl, hS, hlen, q⟩ := h
    refine ⟨_, (pss_cons (by exact (ps_set (i := 1) sc_ranks.nd rfl (Or.inr rfl) (by exact (pe_callB cr_sortedI (by rfl) T.m_sorted (by decide +kernel) (pa_cons (pv 0) pa_nil)))))
        (pss_one (by exact (ps_ret (by exact (pe_lc (own := [("number", 2)]) (g := gName 2) (tt := tYes) (te := (tBM K "list" (rIndex K) (tVar 1) (tCons (tVar 2) tNil))) rfl sc_ranks.nd (pi_list (pv 0)) (blkOk_by (N := ["row", "rising", "number"]) (sc := defScope s_ranks) (by decide +kernel)) (fun _ _ _ _ _ => by exact (pg_name (i := 2) sc_ranks.nd rfl (by first | exact Or.inl rfl | exact Or.inr rfl))) (fun _ _ _ _ _ => pts_nil) (fun _ _ _ _ _ => by exact (pe_bm PySem.F.plainAttrs_list PySem.F.slot_list_index PySem.F.type_list_index mt_index (pv 1) (pa_cons (pv 2) pa_nil))))))))), ?_⟩
    rw [show (start ["row", "rising", "number"] [V.ref a] : L2.St) = [some (V.ref a), none, none] from rfl]
    walk_at "rd"
    refine ⟨ns, hS, fun ns' p perm ri np => ⟨⟨_, sql_new np hS⟩, fun D nD => ?_⟩⟩
    refine lcK_map ns V.int (fun x => V.int (lessN ns x)) nD (sql_new np hS) (by omega) (fun i x acc H' QT hx hs hD hq => ?_) (fun H' hs hD => ?_)
    · walk_at "rd"
      have hR : SqL K H' p (ns'.map V.int) := hs.seq sql_self
      obtain ⟨j, ej, hj, hm⟩ := rk_index perm ri x (List.mem_of_getElem? hx)
      refine ⟨tBM_list hR, _, hR, rfl, flat_ints _, j, .int x, by rw [List.getElem?_map, hj] <;> rfl, by rw [eqV_int] <;> simp, fun m z' hmj hz => ?_, ?_⟩
      · obtain ⟨y, hy, rfl⟩ := at_map hz
        rw [eqV_int, decide_eq_false (hm m y hmj hy)]
      · rw [ej]
        exact hq H' hs hD
    · refine q H' D ((same_new np).trans hs) ((same_new np).free nD) ?_
      rw [hD, rk, List.map_map]
      rfl

end
end Sh

namespace Sh
section
variable {P : Program} {w : World} {K : PySem.W.Frag} {mg : Str → Option Value} {base : Heap}
def sp_shape_of (T : Tx K mg) : Sp := fun vs H Q E => ∃ (a : Addr) (ns : List Int), vs = [.ref a] ∧ SqL K H a (ns.map V.int) ∧ ns.length ≤ 4000 ∧ (rowOk ns → ∀ H' p, Same H H' → H p = none → H' p = some (.lst ((rk ns).map V.int)) → Q (.ref p) H') ∧ (¬ rowOk ns → E (.ref T.C_NoRow) none H)
theorem ok_shape_of (T : Tx K mg) : FnOk P w K mg base (L2.CX P w) 2 T.f_shape_of T.fd_shape_of ["row"] (sp_shape_of T) := by
  refine T.F_shape_of.okX sc_shape_of (fun vs H Q E h => ?_) (fun cdv A outer s H vs Q E hr h => ?_)
  · obtain ⟨a, ns, rfl, _⟩ := h
    rfl
  · obtain ⟨a, ns, rfl, hS, hl, q1, q2⟩ := h
    refine ⟨_, (pss_cons (by exact (ps_expr (by exact (pe_call (ok_ask_row T) (hr.mono (by decide)) (by rfl) T.g_ask_row T.F_ask_row.kp T.b_ask_row .nil (passes_call (takes_of rfl rfl rfl rfl) (fun _ _ _ _ h => h)) (pa_cons (pv 0) pa_nil)))))
        (pss_one (by exact (ps_ret (by exact (pe_call (ok_ranks T) (hr.mono (by decide)) (by rfl) T.g_ranks T.F_ranks.kp T.b_ranks .nil pass0 (pa_cons (pv 0) pa_nil))))))), ?_⟩
    rw [show (start ["row"] [V.ref a] : L2.St) = [some (V.ref a)] from rfl]
    walk_at "rd"
    refine ⟨a, ns, rfl, hS, hl, fun ok => ?_, q2⟩
    walk_at "rd"
    exact ⟨a, ns, rfl, hS, hl, q1 ok⟩

end
end Sh

namespace Sh
section
variable {P : Program} {w : World} {K : PySem.W.Frag} {mg : Str → Option Value} {base : Heap}
def spL (K : PySem.W.Frag) : Sp := fun vs H Q _ => ∃ (a : Addr) (ns : List Int), vs = [.ref a] ∧ SqL K H a (ns.map V.int) ∧ ns.length ≤ 63 ∧ ∀ H', Q (.bl true) H'
def sp_law (T : Tx K mg) : Sp := spL K
theorem ok_law (T : Tx K mg) : FnOk P w K mg base CX0 4 T.f_law T.fd_law ["script"] (sp_law T) := by
  refine T.F_law.ok sc_law (fun vs H Q E h => ?_) (fun cdv A outer s H vs Q E hr h => ?_)
  · obtain ⟨a, ns, rfl, _⟩ := h
    rfl
  · obtain ⟨a, ns, rfl, hS, hlen, q⟩ := h
    refine ⟨_, (pss_cons (by exact (ps_set (i := 1) sc_law.nd rfl (Or.inl rfl) (by exact (pe_call (ok__law_some T) (hr.mono (by decide)) (by rfl) T.g__law_some T.F__law_some.kp T.b__law_some .nil pass0 (pa_cons (pv 0) pa_nil)))))
        (pss_cons (by exact (ps_set (i := 2) sc_law.nd rfl (Or.inl rfl) (pe_cmpR (op_lt) (by exact (pe_callB call_lenS (by rfl) T.m_len PySem.boot_len (pa_cons (pv 1) pa_nil))) pe_int (nomark _))))
        (pss_cons (by exact (ps_for PassesOwn.never rfl (pi_range1 rfl T.m_range (pa_cons (by exact (pe_callB call_lenS (by rfl) T.m_len PySem.boot_len (pa_cons (pv 1) pa_nil))) pa_nil)) (pg_name (i := 3) sc_law.nd rfl (Or.inl rfl))
        (pss_one (by exact (ps_if (pt_cmpR (op_notIn_seq) (pv 3) (pv 1) rfl) (pss_one (by exact (ps_set (i := 2) sc_law.nd rfl (Or.inl rfl) pe_bl))) pss_nil)))))
        (pss_cons (by exact (ps_set (i := 4) sc_law.nd rfl (Or.inl rfl) (by exact (pe_callTy call_listS (by rfl) T.m_list (by decide +kernel) (pa_cons (pv 1) pa_nil)))))
        (pss_cons (by exact (ps_set (i := 5) sc_law.nd rfl (Or.inl rfl) (by exact (pe_call (ok_is_shape T) (hr.mono (by decide)) (by rfl) T.g_is_shape T.F_is_shape.kp T.b_is_shape .nil pass0 (pa_cons (pv 4) pa_nil)))))
        (pss_cons (by exact (ps_if (PW.pt (pw_or (pt_not (pt_val (by exact (pe_callB call_isi (by rfl) T.m_isinstance (by decide +kernel) (pa_cons (pv 5) (pa_cons (pe_bltn (v := .ty "bool") (by rfl) T.m_bool (by decide +kernel) rfl) pa_nil)))))) (pw_or (pt_cmpR (op_ne) (pv 5) (pv 2) (nomark _)) (pw_or1 (pt_cmpR (op_neD hr.units) (pv 4) (pv 1) (nomark _)))))) (pss_one (by exact (ps_ret pe_bl))) pss_nil))
        (pss_cons (by exact (ps_set (i := 6) sc_law.nd rfl (Or.inl rfl) pe_non))
        (pss_cons (by exact (ps_try_as (i := 7) (tb := fun W => (tAsg (tCallS (sp_shape_of T) (WE W) (tCons (tVar 4) tNil)) (gName 6))) (ts := fun ea cls d => (tAsg (tTup (tCons (tCB (rIsX K ea cls d) (tCons (tVar 7) (tCons (tC (.ref T.C_NoRow)) tNil))) (tCons (tCB (rIsX K ea cls d) (tCons (tVar 7) (tCons (tC (.ty "ValueError")) tNil))) (tCons (tCB (rIsX K ea cls d) (tCons (tVar 7) (tCons (tC (.ref T.C_NoShape)) tNil))) tNil)))) (gName 6))) (Wout := fun _ _ _ _ => False) rfl rfl sc_law.nd rfl rfl ⟨rfl, by decide, Or.inl T.gC_OrderError⟩ takes0
        (fun W pn xe tk _ => (pss_one (by exact (ps_set (i := 6) sc_law.nd rfl (Or.inl rfl) (by exact (pe_callS (ok_shape_of T) (hr.mono (by decide)) rfl T.g_shape_of T.F_shape_of.kp T.b_shape_of (fun σ => passAt tk σ) (pa_cons (pv 4) pa_nil)))))))
        (fun ea oe cls d pn hz hf => (pss_one (by exact (ps_set (i := 6) sc_law.nd rfl (Or.inl rfl) (pe_tup (pa_cons (by exact (pe_callB (call_isX hz hf) (by rfl) T.m_isinstance (by decide +kernel) (pa_cons (pv 7) (pa_cons (pe_glob (v := .ref T.C_NoRow) rfl T.gC_NoRow rfl) pa_nil)))) (pa_cons (by exact (pe_callB (call_isX hz hf) (by rfl) T.m_isinstance (by decide +kernel) (pa_cons (pv 7) (pa_cons (pe_bltn (v := .ty "ValueError") (by rfl) T.m_ValueError (by decide +kernel) rfl) pa_nil)))) (pa_cons (by exact (pe_callB (call_isX hz hf) (by rfl) T.m_isinstance (by decide +kernel) (pa_cons (pv 7) (pa_cons (pe_glob (v := .ref T.C_NoShape) rfl T.gC_NoShape rfl) pa_nil)))) pa_nil))))))))))
        (pss_cons (by exact (ps_if (PW.pt (pw_or (pt_cmpR (op_gt) (by exact (pe_callB call_lenS (by rfl) T.m_len PySem.boot_len (pa_cons (pv 1) pa_nil))) pe_int (nomark _)) (pw_or1 (pt_cmpR (op_lt) (by exact (pe_lenSetG (by rfl) T.m_len (by rfl) T.m_set (pv 1))) (by exact (pe_callB call_lenS (by rfl) T.m_len PySem.boot_len (pa_cons (pv 1) pa_nil))) (nomark _))))) (pss_one (by exact (ps_ret (pe_cmpR (op_eqD hr.units) (pv 6) (pe_tup (pa_cons pe_bl (pa_cons pe_bl (pa_cons pe_bl pa_nil)))) (nomark _))))) pss_nil))
        (pss_one (by exact (ps_ret (pe_and (by exact (pe_callB call_isi (by rfl) T.m_isinstance (by decide +kernel) (pa_cons (pv 6) (pa_cons (pe_bltn (v := .ty "list") (by rfl) T.m_list (by decide +kernel) rfl) pa_nil)))) (pe_and (pe_cmpR (op_eq) (by exact (pe_callB call_lenS (by rfl) T.m_len PySem.boot_len (pa_cons (pv 6) pa_nil))) (by exact (pe_callB call_lenS (by rfl) T.m_len PySem.boot_len (pa_cons (pv 1) pa_nil))) (nomark _)) (pe_one (pe_cmpR (op_eqD hr.units) (by exact (pe_callB cr_sortedI (by rfl) T.m_sorted (by decide +kernel) (pa_cons (pv 6) pa_nil))) (by exact (pe_listRg rfl (by rfl) T.m_list (prg_1 (by rfl) T.m_range (by exact (pe_callB call_lenS (by rfl) T.m_len PySem.boot_len (pa_cons (pv 1) pa_nil)))))) (nomark _))))))))))))))))), ?_⟩
    rw [show (start ["script", "some", "due", "k", "handed", "found", "told", "e"] [V.ref a] : L2.St) = [some (V.ref a), none, none, none, none, none, none, none] from rfl]
    walk_at "rd"
    refine ⟨a, ns, rfl, hS, fun s H1 sa sl s1 nsa hsa => ?_⟩
    walk_at "rd"
    refine ⟨_, .inl (SqL.of hsa), _, .inl (SqL.of hsa), ?_⟩
    walk_at "rd"
    refine ⟨by omega, by omega, ?_⟩
    refine forK_range (fun i σ H' => ∃ y3, σ = [some (V.ref a), some (V.ref sa), some (V.bl (decide (s.length < 31 ∧ ∀ j : Nat, j < i → (j : Int) ∈ s))), y3, none, none, none, none] ∧ H' = H1)
      ⟨none, by simp; omega, rfl⟩ (fun i σ H' hi h => ?_) (fun σ H' h => ?_)
    · obtain ⟨y3, rfl, rfl⟩ := h
      walk_at "rd"
      refine ⟨_, .inl (SqL.of hsa), rfl, flat_ints _, ?_⟩
      walk_at "rd"
      rw [inV_ints]
      refine ite2 (fun c => ?_) (fun c => ?_)
      · walk_at "rd"
        have hn : ¬ ((i : Int) ∈ s) := by simpa using c
        symm
        rw [decide_eq_false_iff_not]
        exact fun z => hn (z.2 i (by omega))
      · walk_at "rd"
        have hn : (i : Int) ∈ s := by simpa using c
        refine decide_eq_decide.mpr ⟨fun z => ⟨z.1, fun j hj => ?_⟩, fun z => ⟨z.1, fun j hj => z.2 j (by omega)⟩⟩
        by_cases e : j = i
        · rw [e]; exact hn
        · exact z.2 j (by omega)
    · obtain ⟨y3, rfl, rfl⟩ := h
      rw [show decide (s.length < 31 ∧ ∀ j : Nat, j < s.length → (j : Int) ∈ s) = decide (shapeOk s) from decide_eq_decide.mpr (shape_iff s)]
      walk_at "rd"
      refine ⟨_, .inl (SqL.of hsa), fun hd nhd => ?_⟩
      have hsa2 := same_new (o := .lst (s.map V.int)) nhd _ _ hsa
      have hhd2 : (upd H' hd (.lst (s.map V.int))) hd = some (.lst (s.map V.int)) := upd_same
      generalize upd H' hd (.lst (s.map V.int)) = H2 at hsa2 hhd2 ⊢
      refine ⟨hd, s, rfl, SqL.of hhd2, by omega, fun H3 s3 => ?_⟩
      have hsa3 := s3 _ _ hsa2
      have hhd3 := s3 _ _ hhd2
      walk_at "rd"
      refine ⟨_, _, _, _, true, rfl, .ty "bool", .base (.bl _), kit_ty (by decide +kernel), ?_⟩
      walk_at "rd"
      refine ⟨rfl, ?_⟩
      walk_at "rd"
      refine rNe_ints (SqL.of hhd3) (SqL.of hsa3) ?_
      walk_at "rd"
      refine ⟨hd, s, rfl, SqL.of hhd3, by omega, fun rok H4 p s4 np hp => ?_, fun bad => ?_⟩
      · have hsa4 := s4 _ _ hsa3
        walk_at "rd"
        refine ⟨_, .inl (SqL.of hsa4), ?_⟩
        walk_at "rd"
        refine iteF' (by have := rok.1; omega) ⟨s, SqL.of hsa4, by omega, _, .inl (SqL.of hsa4), ?_⟩
        walk_at "rd"
        refine iteF' (fun z => (dedup_lt s).mp z rok.2) ?_
        refine ⟨_, _, _, _, true, rfl, .ty "list", .base (.lst hp), kit_ty (by decide +kernel), ?_⟩
        walk_at "rd"
        refine ⟨_, .inl (SqL.of hp), _, .inl (SqL.of hsa4), rfl, ?_⟩
        walk_at "rd"
        refine iteT' (by rw [rk_len]) ⟨rk s, SqL.of hp, fun ns' r pm ri nr => ⟨_, .inl (SqL.of (same_new nr _ _ hsa4)), ?_⟩⟩
        walk_at "rd"
        have hl := rok.1
        refine ⟨⟨by decide, by decide, by omega, by omega, by omega⟩, fun r2 nr2 => ?_⟩
        refine rEq_ints (ns := ns') (ms := rangeI s.length) (sql_new nr2 sql_self) (by rw [rgV_range]; exact sql_self) ?_
        have e := (shape_sorted pm ri).mpr (rk_shape rok).2
        rw [rk_len] at e
        rw [decide_eq_true e]
        exact q _
      · refine ⟨true, PySem.W.exm_ref T.bC_OrderError T.hd_OrderError T.tC_OrderError T.s_NoRow_OrderError, fun _ ea nea => ?_, fun z => nomatch z⟩
        walk_at "rd"
        refine ⟨_, rfl, rfl, T.ex_NoRow, _, _, true, rfl, fun u r => r, kit_ref T.hd_NoRow T.tC_NoRow T.s_NoRow_NoRow T.s_NoRow_NoRow, ?_⟩
        refine ⟨_, rfl, rfl, T.ex_NoRow, _, _, true, rfl, fun u r => r, kit_val T.sV_NoRow, ?_⟩
        refine ⟨_, rfl, rfl, T.ex_NoRow, _, _, false, rfl, fun u r => r, kit_ref T.hd_NoShape T.tC_NoShape T.s_NoRow_NoShape T.s_NoRow_NoRow, ?_⟩
        walk_at "rd"
        refine ⟨lineLe (by simp), fun tp ntp => ?_⟩
        have hsa4 := same_new (o := .tup [V.bl true, V.bl true, V.bl false]) ntp _ _ hsa3
        have htp : (upd H3 tp (.tup [V.bl true, V.bl true, V.bl false])) tp = some (.tup ([true, true, false].map V.bl)) := upd_same
        generalize upd H3 tp (.tup [V.bl true, V.bl true, V.bl false]) = H4 at hsa4 htp ⊢
        have fin : [V.bl true, V.bl true, V.bl false].length ≤ sizeLine ∧ ∀ (p : Addr), H4 p = none → rEqD K (V.ref tp) (V.ref p) (upd H4 p (.tup [V.bl true, V.bl true, V.bl false])) Q := by
          refine ⟨lineLe (by simp), fun p np => ?_⟩
          refine rEq_of (f := dTupB) (a := [true, true, false]) (b := [true, true, false]) isD_tupB (by decide) (dp_tupB (SqT.of (same_new np _ _ htp))) (dp_tupB (SqT.of upd_same)) ?_
          exact q _
        refine ⟨_, .inl (SqL.of hsa4), ?_⟩
        walk_at "rd"
        refine ite2 (fun _ => fin) (fun c => ⟨s, SqL.of hsa4, by omega, _, .inl (SqL.of hsa4), ?_⟩)
        walk_at "rd"
        refine ite2 (fun _ => fin) (fun d => (bad ⟨by omega, Classical.byContradiction fun z => d ((dedup_lt s).mpr z)⟩).elim)

end
end Sh

namespace Sh
theorem all_mk {l : PySem.W.OpenLaw} {w : World} {K : PySem.W.Frag} {h : Heap} {mg : Str → Option Value} {fa : Addr} (X : K.In h) (G : h.Ns mainGlobals mg) (hfa : mg "law" = some (.ref fa))
    {f0 : Addr} {od0 an0 : Option Addr} {sl0 : Array (Option Value)} {oc0 kV0 dc0 pm0 cd0 ct0 : Value}
    {f1 : Addr} {od1 an1 : Option Addr} {sl1 : Array (Option Value)} {oc1 kV1 dc1 pm1 cd1 ct1 : Value}
    {f2 : Addr} {od2 an2 : Option Addr} {sl2 : Array (Option Value)} {oc2 kV2 dc2 pm2 cd2 ct2 : Value}
    {f3 : Addr} {od3 an3 : Option Addr} {sl3 : Array (Option Value)} {oc3 kV3 dc3 pm3 cd3 ct3 : Value}
    {f4 : Addr} {od4 an4 : Option Addr} {sl4 : Array (Option Value)} {oc4 kV4 dc4 pm4 cd4 ct4 : Value}
    {f5 : Addr} {od5 an5 : Option Addr} {sl5 : Array (Option Value)} {oc5 kV5 dc5 pm5 cd5 ct5 : Value}
    {f6 : Addr} {od6 an6 : Option Addr} {sl6 : Array (Option Value)} {oc6 kV6 dc6 pm6 cd6 ct6 : Value}
    {f7 : Addr} {od7 an7 : Option Addr} {sl7 : Array (Option Value)} {oc7 kV7 dc7 pm7 cd7 ct7 : Value}
    {t0 : Tok}
    {C0 : Addr}
    {C1 : Addr}
    {C2 : Addr}
    (a0 : PySem.W.nsIn K mainGlobals "_law_cell_at" = some (some (.ref f0)))
    (l0 : K.lookup f0 = some ⟨oc0, od0, .func (PySem.W.fnOf "_law_cell_at" "_law_cell_at" (defArgs s__law_cell_at) (defBody s__law_cell_at) (defScope s__law_cell_at) .none kV0 dc0 pm0 an0 cd0 ct0), sl0⟩)
    (c0 : PySem.W.codeIn K cd0 "_law_cell_at" = true)
    (k0 : PySem.W.keepIn K (.ref f0) = true)
    (a1 : PySem.W.nsIn K mainGlobals "_law_shape" = some (some (.ref f1)))
    (l1 : K.lookup f1 = some ⟨oc1, od1, .func (PySem.W.fnOf "_law_shape" "_law_shape" (defArgs s__law_shape) (defBody s__law_shape) (defScope s__law_shape) .none kV1 dc1 pm1 an1 cd1 ct1), sl1⟩)
    (c1 : PySem.W.codeIn K cd1 "_law_shape" = true)
    (k1 : PySem.W.keepIn K (.ref f1) = true)
    (a2 : PySem.W.nsIn K mainGlobals "_law_some" = some (some (.ref f2)))
    (l2 : K.lookup f2 = some ⟨oc2, od2, .func (PySem.W.fnOf "_law_some" "_law_some" (defArgs s__law_some) (defBody s__law_some) (defScope s__law_some) .none kV2 dc2 pm2 an2 cd2 ct2), sl2⟩)
    (c2 : PySem.W.codeIn K cd2 "_law_some" = true)
    (k2 : PySem.W.keepIn K (.ref f2) = true)
    (a3 : PySem.W.nsIn K mainGlobals "is_shape" = some (some (.ref f3)))
    (l3 : K.lookup f3 = some ⟨oc3, od3, .func (PySem.W.fnOf "is_shape" "is_shape" (defArgs s_is_shape) (defBody s_is_shape) (defScope s_is_shape) .none kV3 dc3 pm3 an3 cd3 ct3), sl3⟩)
    (c3 : PySem.W.codeIn K cd3 "is_shape" = true)
    (k3 : PySem.W.keepIn K (.ref f3) = true)
    (a4 : PySem.W.nsIn K mainGlobals "ask_row" = some (some (.ref f4)))
    (l4 : K.lookup f4 = some ⟨oc4, od4, .func (PySem.W.fnOf "ask_row" "ask_row" (defArgs s_ask_row) (defBody s_ask_row) (defScope s_ask_row) .none kV4 dc4 pm4 an4 cd4 ct4), sl4⟩)
    (c4 : PySem.W.codeIn K cd4 "ask_row" = true)
    (k4 : PySem.W.keepIn K (.ref f4) = true)
    (a5 : PySem.W.nsIn K mainGlobals "ranks" = some (some (.ref f5)))
    (l5 : K.lookup f5 = some ⟨oc5, od5, .func (PySem.W.fnOf "ranks" "ranks" (defArgs s_ranks) (defBody s_ranks) (defScope s_ranks) .none kV5 dc5 pm5 an5 cd5 ct5), sl5⟩)
    (c5 : PySem.W.codeIn K cd5 "ranks" = true)
    (k5 : PySem.W.keepIn K (.ref f5) = true)
    (a6 : PySem.W.nsIn K mainGlobals "shape_of" = some (some (.ref f6)))
    (l6 : K.lookup f6 = some ⟨oc6, od6, .func (PySem.W.fnOf "shape_of" "shape_of" (defArgs s_shape_of) (defBody s_shape_of) (defScope s_shape_of) .none kV6 dc6 pm6 an6 cd6 ct6), sl6⟩)
    (c6 : PySem.W.codeIn K cd6 "shape_of" = true)
    (k6 : PySem.W.keepIn K (.ref f6) = true)
    (a7 : PySem.W.nsIn K mainGlobals "law" = some (some (.ref f7)))
    (l7 : K.lookup f7 = some ⟨oc7, od7, .func (PySem.W.fnOf "law" "law" (defArgs s_law) (defBody s_law) (defScope s_law) .none kV7 dc7 pm7 an7 cd7 ct7), sl7⟩)
    (c7 : PySem.W.codeIn K cd7 "law" = true)
    (k7 : PySem.W.keepIn K (.ref f7) = true)
    (z0 : PySem.W.nsIn K mainGlobals "len" = some none)
    (z1 : PySem.W.nsIn K mainGlobals "range" = some none)
    (z2 : PySem.W.nsIn K mainGlobals "list" = some none)
    (z3 : PySem.W.nsIn K mainGlobals "sorted" = some none)
    (z4 : PySem.W.nsIn K mainGlobals "set" = some none)
    (z5 : PySem.W.nsIn K mainGlobals "isinstance" = some none)
    (z6 : PySem.W.nsIn K mainGlobals "bool" = some none)
    (z7 : PySem.W.nsIn K mainGlobals "ValueError" = some none)
    (n0 : PySem.W.nsIn K mainGlobals "MOST" = some (some (.int 30 t0)))
    (x0 : PySem.W.nsIn K mainGlobals "NoRow" = some (some (.ref C0)))
    (xe0 : PySem.W.excIn K C0 [.type "ValueError", .type "Exception", .type "BaseException", .type "object"] "ValueError.__new__" = true)
    (xk0 : PySem.W.keepIn K (.ref C0) = true)
    (xb0 : PySem.W.subIn K (.ref C0) (.type "BaseException") = some true)
    (xt0 : PySem.W.typeIn K (.ref C0) = some (.type "type"))
    (x1 : PySem.W.nsIn K mainGlobals "OrderError" = some (some (.ref C1)))
    (xe1 : PySem.W.excIn K C1 [.type "ValueError", .type "Exception", .type "BaseException", .type "object"] "ValueError.__new__" = true)
    (xk1 : PySem.W.keepIn K (.ref C1) = true)
    (xb1 : PySem.W.subIn K (.ref C1) (.type "BaseException") = some true)
    (xt1 : PySem.W.typeIn K (.ref C1) = some (.type "type"))
    (x2 : PySem.W.nsIn K mainGlobals "NoShape" = some (some (.ref C2)))
    (xe2 : PySem.W.excIn K C2 [.type "ValueError", .type "Exception", .type "BaseException", .type "object"] "ValueError.__new__" = true)
    (xk2 : PySem.W.keepIn K (.ref C2) = true)
    (xb2 : PySem.W.subIn K (.ref C2) (.type "BaseException") = some true)
    (xt2 : PySem.W.typeIn K (.ref C2) = some (.type "type"))
    (xd0 : PySem.W.hasDictIn K C0 = true)
    (xd1 : PySem.W.hasDictIn K C1 = true)
    (xd2 : PySem.W.hasDictIn K C2 = true)
    (y1 : PySem.W.specialIn K (.builtin "object.__class__") "__get__" = some (some (.builtin "getset_descriptor.__get__")))
    (y2 : PySem.W.takesIn K (.builtin "object.__class__") = some true)
    (ya0 : PySem.W.findIn K (.ref C0) "__getattribute__" = some (some (.builtin "BaseException.__getattribute__")))
    (yb0 : PySem.W.findIn K (.ref C0) "__getattr__" = some none)
    (yc0 : PySem.W.findIn K (.ref C0) "__class__" = some (some (.builtin "object.__class__")))
    (yd0 : PySem.W.mroIn K C0 (.type "object") = some true)
    (ye0 : PySem.W.subIn K (.ref C0) (.type "ValueError") = some true)
    (yf0_0 : PySem.W.subIn K (.ref C0) (.ref C0) = some true)
    (yf0_1 : PySem.W.subIn K (.ref C0) (.ref C1) = some true)
    (yf0_2 : PySem.W.subIn K (.ref C0) (.ref C2) = some false)
    (ya2 : PySem.W.findIn K (.ref C2) "__getattribute__" = some (some (.builtin "BaseException.__getattribute__")))
    (yb2 : PySem.W.findIn K (.ref C2) "__getattr__" = some none)
    (yc2 : PySem.W.findIn K (.ref C2) "__class__" = some (some (.builtin "object.__class__")))
    (yd2 : PySem.W.mroIn K C2 (.type "object") = some true)
    (ye2 : PySem.W.subIn K (.ref C2) (.type "ValueError") = some true)
    (yf2_0 : PySem.W.subIn K (.ref C2) (.ref C0) = some false)
    (yf2_1 : PySem.W.subIn K (.ref C2) (.ref C1) = some true)
    (yf2_2 : PySem.W.subIn K (.ref C2) (.ref C2) = some true) :
    ∃ fd : FuncData, (∀ (s : Shared) (v : Value), BindsTo s fd ⟨[v], []⟩ [("script", v)]) ∧ ∀ base : Heap, K.In base → base.Ns mainGlobals mg → FnOk l.prog w K mg base CX0 4 fa fd ["script"] (spL K) := by
  have e := hfa.symm.trans (PySem.W.mg_of X G a7)
  cases e
  have F0 := fun_mk (st := s__law_cell_at) l0 c0 k0
  have b0 := F0.binds (ps := ["script", "k"]) fun _ _ _ _ _ _ us hl => match us, hl with | [_, _], _ => rfl
  have F1 := fun_mk (st := s__law_shape) l1 c1 k1
  have b1 := F1.binds (ps := ["script", "at", "size"]) fun _ _ _ _ _ _ us hl => match us, hl with | [_, _, _], _ => rfl
  have F2 := fun_mk (st := s__law_some) l2 c2 k2
  have b2 := F2.binds (ps := ["script"]) fun _ _ _ _ _ _ us hl => match us, hl with | [_], _ => rfl
  have F3 := fun_mk (st := s_is_shape) l3 c3 k3
  have b3 := F3.binds (ps := ["some"]) fun _ _ _ _ _ _ us hl => match us, hl with | [_], _ => rfl
  have F4 := fun_mk (st := s_ask_row) l4 c4 k4
  have b4 := F4.binds (ps := ["row"]) fun _ _ _ _ _ _ us hl => match us, hl with | [_], _ => rfl
  have F5 := fun_mk (st := s_ranks) l5 c5 k5
  have b5 := F5.binds (ps := ["row"]) fun _ _ _ _ _ _ us hl => match us, hl with | [_], _ => rfl
  have F6 := fun_mk (st := s_shape_of) l6 c6 k6
  have b6 := F6.binds (ps := ["row"]) fun _ _ _ _ _ _ us hl => match us, hl with | [_], _ => rfl
  have F7 := fun_mk (st := s_law) l7 c7 k7
  have b7 := F7.binds (ps := ["script"]) fun _ _ _ _ _ _ us hl => match us, hl with | [_], _ => rfl
  let T : Tx K mg := {
    f__law_cell_at := _, fd__law_cell_at := _, F__law_cell_at := F0, g__law_cell_at := PySem.W.mg_of X G a0, b__law_cell_at := b0,
    f__law_shape := _, fd__law_shape := _, F__law_shape := F1, g__law_shape := PySem.W.mg_of X G a1, b__law_shape := b1,
    f__law_some := _, fd__law_some := _, F__law_some := F2, g__law_some := PySem.W.mg_of X G a2, b__law_some := b2,
    f_is_shape := _, fd_is_shape := _, F_is_shape := F3, g_is_shape := PySem.W.mg_of X G a3, b_is_shape := b3,
    f_ask_row := _, fd_ask_row := _, F_ask_row := F4, g_ask_row := PySem.W.mg_of X G a4, b_ask_row := b4,
    f_ranks := _, fd_ranks := _, F_ranks := F5, g_ranks := PySem.W.mg_of X G a5, b_ranks := b5,
    f_shape_of := _, fd_shape_of := _, F_shape_of := F6, g_shape_of := PySem.W.mg_of X G a6, b_shape_of := b6,
    f_law := _, fd_law := _, F_law := F7, g_law := PySem.W.mg_of X G a7, b_law := b7,
    m_len := PySem.W.mg_none_of X G z0,
    m_range := PySem.W.mg_none_of X G z1,
    m_list := PySem.W.mg_none_of X G z2,
    m_sorted := PySem.W.mg_none_of X G z3,
    m_set := PySem.W.mg_none_of X G z4,
    m_isinstance := PySem.W.mg_none_of X G z5,
    m_bool := PySem.W.mg_none_of X G z6,
    m_ValueError := PySem.W.mg_none_of X G z7,
    t_MOST := _, g_MOST := PySem.W.mg_of X G n0,
    C_NoRow := _, gC_NoRow := PySem.W.mg_of X G x0, x_NoRow := xe0, kC_NoRow := xk0, bC_NoRow := xb0, tC_NoRow := xt0,
    C_OrderError := _, gC_OrderError := PySem.W.mg_of X G x1, x_OrderError := xe1, kC_OrderError := xk1, bC_OrderError := xb1, tC_OrderError := xt1,
    C_NoShape := _, gC_NoShape := PySem.W.mg_of X G x2, x_NoShape := xe2, kC_NoShape := xk2, bC_NoShape := xb2, tC_NoShape := xt2,
    hd_NoRow := xd0,
    hd_OrderError := xd1,
    hd_NoShape := xd2,
    ex_NoRow := ⟨ya0, yb0, xb0, xd0, yc0, y1, y2, yd0⟩,
    sV_NoRow := ye0,
    s_NoRow_NoRow := yf0_0,
    s_NoRow_OrderError := yf0_1,
    s_NoRow_NoShape := yf0_2,
    ex_NoShape := ⟨ya2, yb2, xb2, xd2, yc2, y1, y2, yd2⟩,
    sV_NoShape := ye2,
    s_NoShape_NoRow := yf2_0,
    s_NoShape_OrderError := yf2_1,
    s_NoShape_NoShape := yf2_2 }
  exact ⟨_, fun s v => .of_eq rfl, fun base _ _ => ok_law T⟩
end Sh
open PySem PySem.W PyProof.Rows
set_option maxRecDepth 100000 in
set_option maxHeartbeats 0 in
theorem PySem.Challenge.cw_shapeorders_k02_what_is_a_shape_holds : PySem.Challenge.rw_shapeorders_k02_what_is_a_shape.Holds := by
  w_on; o_law; k_head; (case hw => w_witness2)
  k_fill
  refine L2.walk_of (l := PySem.Challenge.rw_shapeorders_k02_what_is_a_shape) (n := 63) (k := 4) (x := "script") (CX := fun _ => L2.CX0) (sp := fun w => Sh.spL _) rfl (by decide) rfl ⟨rfl, by decide, by decide⟩ (fun w h Y => PySem.W.kIn_of Y) ?F (fun _ _ a ns hl _ hS => ⟨a, ns, rfl, hS, hl, fun _ => rfl⟩) (fun _ _ _ _ _ h => h)
  case F =>
    intro w mg fa h KX G hmg
    refine' Sh.all_mk KX G hmg ?a0 ?l0 ?c0 ?k0 ?a1 ?l1 ?c1 ?k1 ?a2 ?l2 ?c2 ?k2 ?a3 ?l3 ?c3 ?k3 ?a4 ?l4 ?c4 ?k4 ?a5 ?l5 ?c5 ?k5 ?a6 ?l6 ?c6 ?k6 ?a7 ?l7 ?c7 ?k7 ?z0 ?z1 ?z2 ?z3 ?z4 ?z5 ?z6 ?z7 ?n0 ?x0 ?xe0 ?xk0 ?xb0 ?xt0 ?x1 ?xe1 ?xk1 ?xb1 ?xt1 ?x2 ?xe2 ?xk2 ?xb2 ?xt2 ?xd0 ?xd1 ?xd2 ?y1 ?y2 ?ya0 ?yb0 ?yc0 ?yd0 ?ye0 ?yf0_0 ?yf0_1 ?yf0_2 ?ya2 ?yb2 ?yc2 ?yd2 ?ye2 ?yf2_0 ?yf2_1 ?yf2_2
    (case a0 => k_is)
    (case l0 => k_is)
    (case c0 => k_is)
    (case k0 => k_is)
    (case a1 => k_is)
    (case l1 => k_is)
    (case c1 => k_is)
    (case k1 => k_is)
    (case a2 => k_is)
    (case l2 => k_is)
    (case c2 => k_is)
    (case k2 => k_is)
    (case a3 => k_is)
    (case l3 => k_is)
    (case c3 => k_is)
    (case k3 => k_is)
    (case a4 => k_is)
    (case l4 => k_is)
    (case c4 => k_is)
    (case k4 => k_is)
    (case a5 => k_is)
    (case l5 => k_is)
    (case c5 => k_is)
    (case k5 => k_is)
    (case a6 => k_is)
    (case l6 => k_is)
    (case c6 => k_is)
    (case k6 => k_is)
    (case a7 => k_is)
    (case l7 => k_is)
    (case c7 => k_is)
    (case k7 => k_is)
    (case z0 => k_is)
    (case z1 => k_is)
    (case z2 => k_is)
    (case z3 => k_is)
    (case z4 => k_is)
    (case z5 => k_is)
    (case z6 => k_is)
    (case z7 => k_is)
    (case n0 => k_is)
    (case x0 => k_is)
    (case xe0 => k_exc)
    (case xk0 => k_is)
    (case xb0 => k_is)
    (case xt0 => k_is)
    (case x1 => k_is)
    (case xe1 => k_exc)
    (case xk1 => k_is)
    (case xb1 => k_is)
    (case xt1 => k_is)
    (case x2 => k_is)
    (case xe2 => k_exc)
    (case xk2 => k_is)
    (case xb2 => k_is)
    (case xt2 => k_is)
    (case xd0 => k_is)
    (case xd1 => k_is)
    (case xd2 => k_is)
    (case y1 => k_is)
    (case y2 => k_is)
    (case ya0 => k_is)
    (case yb0 => k_is)
    (case yc0 => k_is)
    (case yd0 => k_is)
    (case ye0 => k_is)
    (case yf0_0 => k_is)
    (case yf0_1 => k_is)
    (case yf0_2 => k_is)
    (case ya2 => k_is)
    (case yb2 => k_is)
    (case yc2 => k_is)
    (case yd2 => k_is)
    (case ye2 => k_is)
    (case yf2_0 => k_is)
    (case yf2_1 => k_is)
    (case yf2_2 => k_is)
