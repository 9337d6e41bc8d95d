import PyProof.Rows.All
import Wide.All
import OpenK.AllK
import Wide.FinOn
import HandS.ForMost
import HandS.ForExc
import HandS.SortInts
import HandS.Conv
import HandS.Zip
import HandS.Rev
import HandS.RevRange
import HandS.Deep
import HandS.IsInst
import HandS.ExcIs
import HandS.More
import HandS.SetFor
import HandS.Flow
import HandS.Style
import HandS.TupAny
import KE.SortData
import PyProof.P3In
import PySem.Challenge.RW_shapeorders_k06_all_without_an_order

set_option Elab.async false
set_option linter.all false
set_option maxRecDepth 100000
/-! Sh0: own words over the hand layer: loops and comprehensions cut open at their iterator, heaps, and the rules that the layer lacks. -/
namespace Sh
open PySem PySem.Spec PyProof.Rows L2

/-! ### loops: the iterator first, then the turns -/
def ForK (J : It) (g : TG) (tb : TS) (D : Ends) (σ : L2.St) (H : Hp) : Prop := ∃ W : Nat → Nat → L2.St → Hp → Prop, (∃ m, W 0 m σ H) ∧ ∀ i m σ H, W i m σ H →
  (J.stop i H ∧ D.nx σ H) ∨ (J.go i H ∧ ∃ N : L2.St → Hp → Prop, (∀ σ' H', N σ' H' → ∃ m', m' < m ∧ W (i + 1) m' σ' H') ∧ ∀ x H', J.yld i H x H' → g x σ H' fun σ2 H2 => tb { D with nx := N, ct := N, bk := D.nx } σ2 H2)
theorem tFor_eq (wi : TI) (g : TG) (tb : TS) (D : Ends) (σ : L2.St) (H : Hp) : tFor wi g tb D σ H = wi σ H fun J H1 => ForK J g tb D σ H1 := rfl
def LcK (J : It) (g : TG) (tt : TT) (te : TE) (σw : L2.St) (vs : List Nat) (D : Addr) (Q : Hp → Prop) (H1 : Hp) : Prop := ∃ W : Nat → Nat → Hp → Prop, (∃ m, W 0 m (upd H1 D (.lst []))) ∧ ∀ i m H, W i m H →
  (J.stop i H ∧ Q H) ∨ (J.go i H ∧ ∃ Nx : Hp → Prop, (∀ H', Nx H' → ∃ m', m' < m ∧ W (i + 1) m' H') ∧ ∀ x H', J.yld i H x H' → g x σw H' fun σ2 H2 => wipe σ2 vs = σw ∧ tt σ2 H2 fun b H3 =>
    if b = true then te σ2 H3 fun y H4 => ∃ acc, H4 D = some (.lst acc) ∧ acc.length < sizeLine ∧ Nx (upd H4 D (.lst (acc ++ [y]))) else Nx H3)
theorem tLc_eq (wi : TI) (g : TG) (tt : TT) (te : TE) (vs : List Nat) (σ : L2.St) (H : Hp) (Q : VK) :
    tLc wi g tt te vs σ H Q = wi σ H fun J H1 => ∀ D, H1 D = none → LcK J g tt te (wipe σ vs) vs D (fun H2 => Q (.ref D) H2) H1 := rfl
theorem forK_list {K : PySem.W.Frag} {a : Addr} {g : TG} {tb : TS} {D : Ends} {σ : L2.St} {H : Hp} (xs : List V) (Pv : Nat → L2.St → Hp → Prop) (h0 : Pv 0 σ H) (hl : ∀ i σ H, i ≤ xs.length → Pv i σ H → SqL K H a xs)
    (hs : ∀ i x σ H, xs[i]? = some x → Pv i σ H → g x σ H fun σ2 H2 => tb { D with nx := Pv (i + 1), ct := Pv (i + 1), bk := D.nx } σ2 H2) (hd : ∀ σ H, Pv xs.length σ H → D.nx σ H) :
    ForK (Itl K a) g tb D σ H := for_list Pv h0 hl hs hd
theorem forK_tup {K : PySem.W.Frag} {a : Addr} {g : TG} {tb : TS} {D : Ends} {σ : L2.St} {H : Hp} (xs : List V) (Pv : Nat → L2.St → Hp → Prop) (h0 : Pv 0 σ H) (hl : ∀ i σ H, i ≤ xs.length → Pv i σ H → SqT K H a xs)
    (hs : ∀ i x σ H, xs[i]? = some x → Pv i σ H → g x σ H fun σ2 H2 => tb { D with nx := Pv (i + 1), ct := Pv (i + 1), bk := D.nx } σ2 H2) (hd : ∀ σ H, Pv xs.length σ H → D.nx σ H) :
    ForK (Itt K a) g tb D σ H := for_tup Pv h0 hl hs hd
theorem forK_range {lo : Int} {n : Nat} {g : TG} {tb : TS} {D : Ends} {σ : L2.St} {H : Hp} (Pv : Nat → L2.St → Hp → Prop) (h0 : Pv 0 σ H)
    (hs : ∀ i σ H, i < n → Pv i σ H → g (.int (lo + i)) σ H fun σ2 H2 => tb { D with nx := Pv (i + 1), ct := Pv (i + 1), bk := D.nx } σ2 H2) (hd : ∀ σ H, Pv n σ H → D.nx σ H) :
    ForK (Itr lo n) g tb D σ H := for_range Pv h0 hs hd
theorem lcK_list {K : PySem.W.Frag} {a : Addr} {g : TG} {tt : TT} {te : TE} {vs : List Nat} {σw : L2.St} {H1 : Hp} {D : Addr} {Qd : Hp → Prop} (xs : List V) (Pv : Nat → Hp → Prop) (h0 : Pv 0 (upd H1 D (.lst []))) (hl : ∀ i H, i ≤ xs.length → Pv i H → SqL K H a xs)
    (hs : ∀ i x H, xs[i]? = some x → Pv i H → g x σw H fun σ2 H2 => wipe σ2 vs = σw ∧ tt σ2 H2 fun b H3 =>
      if b = true then te σ2 H3 fun y H4 => ∃ acc, H4 D = some (.lst acc) ∧ acc.length < sizeLine ∧ Pv (i + 1) (upd H4 D (.lst (acc ++ [y]))) else Pv (i + 1) H3) (hd : ∀ H, Pv xs.length H → Qd H) :
    LcK (Itl K a) g tt te σw vs D Qd H1 := by
  refine ⟨fun i m H => m = xs.length - i ∧ i ≤ xs.length ∧ Pv i H, ⟨xs.length, by simp, Nat.zero_le _, h0⟩, ?_⟩
  rintro i m H ⟨rfl, hi, p⟩
  have q := hl i H hi p
  by_cases hlt : i < xs.length
  · refine .inr ⟨⟨xs, xs[i], q, by simp [hlt]⟩, Pv (i + 1), fun H' p' => ⟨xs.length - (i + 1), by omega, rfl, hlt, p'⟩, fun x H' y => ?_⟩
    obtain ⟨e, y⟩ := y
    subst e
    exact hs i x _ (y xs q) p
  · have e : i = xs.length := by omega
    subst e
    exact .inl ⟨⟨xs, q, Nat.le_refl _⟩, hd H p⟩
theorem lcK_range {lo : Int} {n : Nat} {g : TG} {tt : TT} {te : TE} {vs : List Nat} {σw : L2.St} {H1 : Hp} {D : Addr} {Qd : Hp → Prop} (Pv : Nat → Hp → Prop) (h0 : Pv 0 (upd H1 D (.lst [])))
    (hs : ∀ i H, i < n → Pv i H → g (.int (lo + i)) σw H fun σ2 H2 => wipe σ2 vs = σw ∧ tt σ2 H2 fun b H3 =>
      if b = true then te σ2 H3 fun y H4 => ∃ acc, H4 D = some (.lst acc) ∧ acc.length < sizeLine ∧ Pv (i + 1) (upd H4 D (.lst (acc ++ [y]))) else Pv (i + 1) H3) (hd : ∀ H, Pv n H → Qd H) :
    LcK (Itr lo n) g tt te σw vs D Qd H1 := by
  refine ⟨fun i m H => m = n - i ∧ i ≤ n ∧ Pv i H, ⟨n, by simp, Nat.zero_le _, h0⟩, ?_⟩
  rintro i m H ⟨rfl, hi, p⟩
  by_cases hlt : i < n
  · refine .inr ⟨hlt, Pv (i + 1), fun H' p' => ⟨n - (i + 1), by omega, rfl, hlt, p'⟩, fun x H' y => ?_⟩
    obtain ⟨e, y⟩ := y
    subst e y
    exact hs i _ hlt p
  · have e : i = n := by omega
    subst e
    exact .inl ⟨Nat.le_refl _, hd H p⟩

/-! ### heaps -/
theorem same_new {H : Hp} {p : Addr} {o : HO} (h : H p = none) : Same H (upd H p o) := fun b u q => by rw [upd_ne (ne_of_none q h)]; exact q
theorem same_mut {H H' : Hp} {p : Addr} {o : HO} (s : Same H H') (h : H p = none) : Same H (upd H' p o) := fun b u q => by rw [upd_ne (ne_of_none q h)]; exact s b u q
theorem sql_self {K : PySem.W.Frag} {H : Hp} {p : Addr} {xs : List V} : SqL K (upd H p (.lst xs)) p xs := .inl (.inl upd_same)
theorem sql_new {K : PySem.W.Frag} {H : Hp} {p a : Addr} {o : HO} {xs : List V} (h : H p = none) (q : SqL K H a xs) : SqL K (upd H p o) a xs := (same_new h).seq q
theorem sqt_new {K : PySem.W.Frag} {H : Hp} {p a : Addr} {o : HO} {xs : List V} (h : H p = none) (q : SqT K H a xs) : SqT K (upd H p o) a xs := by
  rcases q with (q | ⟨u, q⟩) | q
  · exact .inl (.inl (same_new h _ _ q))
  · exact .inl (.inr ⟨u, same_new h _ _ q⟩)
  · exact .inr q
/-! ### readings by name -/
def rLen (K : PySem.W.Frag) : List V → Hp → VK → Prop := fun xs H Q => ∃ p ys, xs = [.ref p] ∧ (SqL K H p ys ∨ SqT K H p ys) ∧ Q (.int ys.length) H
def rListOf (K : PySem.W.Frag) : List V → Hp → VK → Prop := fun xs H Q => ∃ p ys, xs = [.ref p] ∧ (SqL K H p ys ∨ SqT K H p ys) ∧ ∀ l, H l = none → Q (.ref l) (upd H l (.lst ys))
def rTupleOf (K : PySem.W.Frag) : List V → Hp → VK → Prop := fun xs H Q => ∃ p ys, xs = [.ref p] ∧ ((SqL K H p ys ∧ ∀ l, H l = none → Q (.ref l) (upd H l (.tup ys))) ∨ (SqT K H p ys ∧ Q (.ref p) H))
def rInt1 : List V → Hp → VK → Prop := fun xs H Q => (∃ i, xs = [.int i] ∧ Q (.int i) H) ∨ ∃ k, xs = [.bl k] ∧ Q (.int (if k then 1 else 0)) H
section
variable {X : Cx}
theorem call_lenS : CallR X (.builtin "len") (rLen X.K) := call_len_seq
theorem call_listS : CallR X (.type "list") (rListOf X.K) := call_list_of
theorem call_tupleS : CallR X (.type "tuple") (rTupleOf X.K) := call_tuple_of
theorem call_intS : CallR X (.type "int") rInt1 := call_int1
end

/-! ### the context's own part -/
theorem cxOf_K {CX : CXT} {P : Program} {w : World} {K : PySem.W.Frag} {mg : Str → Option Value} {base : Heap} {N : List Str} {qual : Str} {scope : Scope} {f : Addr} {cd : Value} {A : Around} {outer : List Env} {s : Shared} {H : Hp} {E : XK} :
    (cxOf CX P w K mg base N qual scope f cd A outer s H E).K = K := rfl
theorem tBM_list {K : PySem.W.Frag} {H : Hp} {p : Addr} {xs : List V} (h : SqL K H p xs) : tyV K "list" (.ref p) H := .inl ⟨rfl, _, h⟩
theorem tyL {K : PySem.W.Frag} {H : Hp} {p : Addr} {xs : List V} (h : H p = some (.lst xs)) : tyV K "list" (.ref p) H := .inl ⟨rfl, _, SqL.of h⟩
theorem lineLt {n : Nat} (h : n ≤ 16000000) : n < sizeLine := by rw [sizeLine_eq]; omega
theorem lineLe {n : Nat} (h : n ≤ 16000000) : n ≤ sizeLine := Nat.le_of_lt (lineLt h)

theorem atI_ints {ns : List Int} {i : Int} (h0 : 0 ≤ i) (h : i < ns.length) : atI (ns.map V.int) i = some (.int (ns.getD i.toNat 0)) := by
  obtain ⟨j, rfl⟩ : ∃ j : Nat, i = (j : Int) := ⟨i.toNat, by omega⟩
  have hj : j < ns.length := by omega
  refine atI_nat ?_
  rw [List.getElem?_map, List.getElem?_eq_getElem hj, Int.toNat_natCast, List.getD_eq_getElem?_getD, List.getElem?_eq_getElem hj]
  rfl
theorem iteF' {c : Prop} [Decidable c] {A B : Prop} (hc : ¬ c) (h : B) : if c then A else B := by rw [if_neg hc]; exact h
theorem iteT' {c : Prop} [Decidable c] {A B : Prop} (hc : c) (h : A) : if c then A else B := by rw [if_pos hc]; exact h
/-! ### comprehensions whose elements leave nothing that is asked for later -/
section
variable {K : PySem.W.Frag} {a : Addr} {g : TG} {tt : TT} {te : TE} {vs : List Nat} {σw : L2.St} {H1 : Hp} {D : Addr} {Qd : Hp → Prop}
theorem lcK_mapI (xs : List V) (F : Nat → V) (nD : H1 D = none) (hS : SqL K H1 a xs) (hl : xs.length ≤ 16000000)
    (hs : ∀ i x acc H (Q : VK), xs[i]? = some x → Same H1 H → H D = some (.lst acc) → (∀ H4, Same H1 H4 → H4 D = some (.lst acc) → Q (F i) H4) → g x σw H fun σ2 H2 => wipe σ2 vs = σw ∧ te σ2 H2 Q)
    (hd : ∀ H, Same H1 H → H D = some (.lst ((List.range xs.length).map F)) → Qd H) : LcK (Itl K a) g tYes te σw vs D Qd H1 := by
  refine lcK_list xs (fun i H => Same H1 H ∧ H D = some (.lst ((List.range i).map F))) ⟨same_new nD, upd_same⟩ (fun i H _ h => h.1.seq hS) (fun i x H hx h => ?_) fun H h => hd H h.1 h.2
  refine hs i x _ H _ hx h.1 h.2 fun H4 s4 h4 => ?_
  refine ⟨_, h4, ?_, same_mut s4 nD, ?_⟩
  · have hi : i < xs.length := (List.getElem?_eq_some_iff.mp hx).1
    simp only [List.length_map, List.length_range]
    exact lineLt (by omega)
  · rw [upd_same, List.range_succ, List.map_append]
    rfl
theorem lcK_mapR {lo : Int} {n : Nat} (F : Nat → V) (nD : H1 D = none) (hl : n ≤ 16000000)
    (hs : ∀ i acc H (Q : VK), i < n → Same H1 H → H D = some (.lst acc) → (∀ H4, Same H1 H4 → H4 D = some (.lst acc) → Q (F i) H4) → g (.int (lo + i)) σw H fun σ2 H2 => wipe σ2 vs = σw ∧ te σ2 H2 Q)
    (hd : ∀ H, Same H1 H → H D = some (.lst ((List.range n).map F)) → Qd H) : LcK (Itr lo n) g tYes te σw vs D Qd H1 := by
  refine lcK_range (fun i H => Same H1 H ∧ H D = some (.lst ((List.range i).map F))) ⟨same_new nD, upd_same⟩ (fun i H hx h => ?_) fun H h => hd H h.1 h.2
  refine hs i _ H _ hx h.1 h.2 fun H4 s4 h4 => ?_
  refine ⟨_, h4, ?_, same_mut s4 nD, ?_⟩
  · simp only [List.length_map, List.length_range]
    exact lineLt (by omega)
  · rw [upd_same, List.range_succ, List.map_append]
    rfl
theorem take_more {α : Type} : ∀ {l : List α} {i : Nat} {x : α}, l[i]? = some x → l.take (i + 1) = l.take i ++ [x]
  | [], i, x, h => by simp at h
  | a :: l, 0, x, h => by
    have e : a = x := Option.some.inj h
    subst e
    rfl
  | a :: l, i + 1, x, h => by
    have ih := take_more (l := l) (i := i) (x := x) h
    show a :: l.take (i + 1) = a :: l.take i ++ [x]
    rw [ih]
    rfl
theorem at_map {α : Type} {ns : List α} {f : α → V} {i : Nat} {x : V} (h : (ns.map f)[i]? = some x) : ∃ z, ns[i]? = some z ∧ x = f z := by
  rw [List.getElem?_map] at h
  cases e : ns[i]? with
  | none => rw [e] at h; cases h
  | some z => rw [e] at h; exact ⟨z, rfl, (Option.some.inj h).symm⟩
/-- over a list of things told by h : α → V -/
theorem lcK_filt {α : Type} (ns : List α) (h : α → V) (p : α → Bool) (F : α → V) (nD : H1 D = none) (hS : SqL K H1 a (ns.map h)) (hl : ns.length ≤ 16000000)
    (hs : ∀ (i : Nat) (x : α) acc H (Qt : VK) (Qf : Hp → Prop), ns[i]? = some x → Same H1 H → H D = some (.lst acc) → (p x = true → ∀ H4, Same H1 H4 → H4 D = some (.lst acc) → Qt (F x) H4) → (p x = false → ∀ H4, Same H1 H4 → H4 D = some (.lst acc) → Qf H4) →
      g (h x) σw H fun σ2 H2 => wipe σ2 vs = σw ∧ tt σ2 H2 fun b H3 => if b = true then te σ2 H3 Qt else Qf H3)
    (hd : ∀ H, Same H1 H → H D = some (.lst ((ns.filter p).map F)) → Qd H) : LcK (Itl K a) g tt te σw vs D Qd H1 := by
  refine lcK_list (ns.map h) (fun i H => Same H1 H ∧ H D = some (.lst (((ns.take i).filter p).map F))) ⟨same_new nD, upd_same⟩ (fun i H _ h => h.1.seq hS) (fun i y H hy h => ?_) fun H h => ?_
  · obtain ⟨x, hx, rfl⟩ := at_map hy
    refine hs i x _ H _ _ hx h.1 h.2 (fun e H4 s4 h4 => ?_) (fun e H4 s4 h4 => ?_)
    · refine ⟨_, h4, ?_, same_mut s4 nD, ?_⟩
      · have hi : i < ns.length := (List.getElem?_eq_some_iff.mp hx).1
        have := List.length_filter_le p (ns.take i)
        simp only [List.length_map, List.length_take] at *
        exact lineLt (by omega)
      · rw [upd_same, take_more hx, List.filter_append, List.map_append, List.filter_cons_of_pos e]
        rfl
    · refine ⟨s4, ?_⟩
      rw [h4, take_more hx, List.filter_append, List.filter_cons_of_neg (by simp [e]), List.filter_nil, List.append_nil]
  · have e := h.2
    rw [List.length_map, List.take_length] at e
    exact hd H h.1 e
theorem lcK_map {α : Type} (ns : List α) (h : α → V) (F : α → V) (nD : H1 D = none) (hS : SqL K H1 a (ns.map h)) (hl : ns.length ≤ 16000000)
    (hs : ∀ (i : Nat) (x : α) acc H (Q : VK), ns[i]? = some x → Same H1 H → H D = some (.lst acc) → (∀ H4, Same H1 H4 → H4 D = some (.lst acc) → Q (F x) H4) → g (h x) σw H fun σ2 H2 => wipe σ2 vs = σw ∧ te σ2 H2 Q)
    (hd : ∀ H, Same H1 H → H D = some (.lst (ns.map F)) → Qd H) : LcK (Itl K a) g tYes te σw vs D Qd H1 := by
  refine lcK_filt (tt := tYes) ns h (fun _ => true) F nD hS hl (fun i x acc H Qt Qf hx s d ht _ => ?_) (fun H s d => hd H s (by rw [List.filter_eq_self.mpr (fun _ _ => rfl)] at d; exact d))
  exact hs i x acc H Qt hx s d (ht rfl)
theorem lcK_filtR {lo : Int} {n : Nat} (p : Nat → Bool) (F : Nat → V) (nD : H1 D = none) (hl : n ≤ 16000000)
    (hs : ∀ i acc H (Qt : VK) (Qf : Hp → Prop), i < n → Same H1 H → H D = some (.lst acc) → (p i = true → ∀ H4, Same H1 H4 → H4 D = some (.lst acc) → Qt (F i) H4) → (p i = false → ∀ H4, Same H1 H4 → H4 D = some (.lst acc) → Qf H4) →
      g (.int (lo + i)) σw H fun σ2 H2 => wipe σ2 vs = σw ∧ tt σ2 H2 fun b H3 => if b = true then te σ2 H3 Qt else Qf H3)
    (hd : ∀ H, Same H1 H → H D = some (.lst (((List.range n).filter p).map F)) → Qd H) : LcK (Itr lo n) g tt te σw vs D Qd H1 := by
  refine lcK_range (fun i H => Same H1 H ∧ H D = some (.lst (((List.range i).filter p).map F))) ⟨same_new nD, upd_same⟩ (fun i H hi h => ?_) fun H h => hd H h.1 h.2
  refine hs i _ H _ _ hi h.1 h.2 (fun e H4 s4 h4 => ?_) (fun e H4 s4 h4 => ?_)
  · refine ⟨_, h4, ?_, same_mut s4 nD, ?_⟩
    · have := List.length_filter_le p (List.range i)
      simp only [List.length_map, List.length_range] at *
      exact lineLt (by omega)
    · rw [upd_same, List.range_succ, List.filter_append, List.map_append, List.filter_cons_of_pos e]
      rfl
  · refine ⟨s4, ?_⟩
    rw [h4, List.range_succ, List.filter_append, List.filter_cons_of_neg (by simp [e]), List.filter_nil, List.append_nil]
end
/-! ### a loop's turns over things told by h -/
theorem forK_map {K : PySem.W.Frag} {a : Addr} {g : TG} {tb : TS} {D : Ends} {σ : L2.St} {H : Hp} {α : Type} (ns : List α) (h : α → V) (Pv : Nat → L2.St → Hp → Prop) (h0 : Pv 0 σ H) (hl : ∀ i σ H, i ≤ ns.length → Pv i σ H → SqL K H a (ns.map h))
    (hs : ∀ (i : Nat) (x : α) σ H, ns[i]? = some x → Pv i σ H → g (h x) σ H fun σ2 H2 => tb { D with nx := Pv (i + 1), ct := Pv (i + 1), bk := D.nx } σ2 H2) (hd : ∀ σ H, Pv ns.length σ H → D.nx σ H) :
    ForK (Itl K a) g tb D σ H := by
  refine forK_list (ns.map h) Pv h0 (fun i σ H hi p => hl i σ H (by rw [List.length_map] at hi; exact hi) p) (fun i x σ H hx p => ?_) (fun σ H p => hd σ H (by rw [List.length_map] at p; exact p))
  obtain ⟨z, hz, rfl⟩ := at_map hx
  exact hs i z σ H hz p
end Sh

set_option Elab.async false
set_option linter.all false
set_option maxRecDepth 100000
set_option maxHeartbeats 4000000
/-! Sh1: rules that the layer lacks: len(set(a list of ints)), list(reversed(a list)). -/
namespace Sh
open PySem PySem.Spec PyProof.Rows L2
/-! ### how many unlike ints -/
def dedup (ns : List Int) : List Int := firstMet (fun i => ns.getD i 0) ns.length
theorem firstMet_len (val : Nat → Int) : ∀ i, (firstMet val i).length ≤ i := fun i => firstMet_length_le val i
theorem step_dedup_len (l : List Int) (x : Int) : (step_dedup l x).length = if l.any (· == x) then l.length else l.length + 1 := by
  unfold step_dedup
  split
  · rfl
  · rw [List.length_append]
    rfl
theorem firstMet_full (ns : List Int) : ∀ i, i ≤ ns.length → ((firstMet (fun i => ns.getD i 0) i).length = i ↔ (ns.take i).Nodup)
  | 0, _ => by simp [firstMet_zero]
  | i + 1, h => by
    have ih := firstMet_full ns i (by omega)
    have hx : ns[i]? = some (ns.getD i 0) := by
      rw [List.getD_eq_getElem?_getD, List.getElem?_eq_getElem (by omega : i < ns.length)] <;> rfl
    rw [firstMet_succ, step_dedup_len, take_more hx, List.nodup_append]
    have hany : (firstMet (fun i => ns.getD i 0) i).any (· == ns.getD i 0) = (ns.take i).any (· == ns.getD i 0) := by
      rw [firstMet_any]
      congr 1
      apply List.ext_getElem?
      intro j
      by_cases hj : j < i
      · rw [List.getElem?_map, List.getElem?_range hj, List.getElem?_take_of_lt hj, List.getElem?_eq_getElem (by omega : j < ns.length)]
        simp [List.getD_eq_getElem?_getD, List.getElem?_eq_getElem (by omega : j < ns.length)]
      · rw [List.getElem?_eq_none (by simp; omega), List.getElem?_eq_none (by simp; omega)]
    rw [hany]
    have hle := firstMet_len (fun i => ns.getD i 0) i
    by_cases hc : (ns.take i).any (· == ns.getD i 0) = true
    · rw [if_pos hc]
      constructor
      · intro e; omega
      · rintro ⟨_, _, h3⟩
        obtain ⟨y, hy, e⟩ := List.any_eq_true.mp hc
        have e' : y = ns.getD i 0 := by simpa using e
        exact absurd e' (h3 y hy _ (by simp))
    · rw [if_neg hc]
      constructor
      · intro e
        refine ⟨ih.mp (by omega), by simp, fun a ha b hb e2 => hc ?_⟩
        have : b = ns.getD i 0 := by simpa using hb
        exact List.any_eq_true.mpr ⟨a, ha, by simp [e2, this]⟩
      · rintro ⟨h1, _, _⟩
        have := ih.mpr h1
        omega
theorem dedup_le (ns : List Int) : (dedup ns).length ≤ ns.length := firstMet_len _ _
theorem dedup_full (ns : List Int) : (dedup ns).length = ns.length ↔ ns.Nodup := by
  have := firstMet_full ns ns.length (Nat.le_refl _)
  rwa [List.take_length] at this
theorem dedup_lt (ns : List Int) : (((dedup ns).length : Nat) : Int) < ((ns.length : Nat) : Int) ↔ ¬ ns.Nodup := by
  have h1 := dedup_le ns
  have h2 := dedup_full ns
  constructor
  · intro h h3; have := h2.mpr h3; omega
  · intro h; by_cases e : (dedup ns).length = ns.length
    · exact absurd (h2.mp e) h
    · omega
/-- len(set(x)), x a list of ints -/
def tLenSetG (K : PySem.W.Frag) (ta : TE) : TE := fun σ H Q => ta σ H fun x H1 => ∃ (l : Addr) (ns : List Int), x = .ref l ∧ SqL K H1 l (ns.map V.int) ∧ ns.length ≤ 4000 ∧ Q (.int ((dedup ns).length : Nat)) H1
theorem pe_lenSetG {X : Cx} {a : Expr} {ta : TE} {p p2 q pos : Pos} (hg : Gl X "len") (hm : X.mg "len" = none) (hg2 : Gl X "set") (hm2 : X.mg "set" = none) (ha : PE X a ta) (hc : X.calm = true := by rfl)
    (na : starEach [a] X.env = (false, eval a X.env) :: starEach [] X.env := by rfl) : PE X (.Call (.Name "len" p) [.Call (.Name "set" p2) [a] [] q] [] pos) (tLenSetG X.K ta) := by
  refine ⟨fun pins s σ H Q I h => ?_⟩
  refine Call_ (ld_blt I hg hm boot_len ?_)
  refine PyProof.Rows.callWith_builtin1 (PyProof.Rows.args_cons ?_ rfl) rfl rfl
  refine Call_ (ld_blt I hg2 hm2 boot_set ?_)
  refine PyProof.Rows.callWith_type1 (PyProof.Rows.args_cons (thn (ha.run pins s σ H _ I h) fun v s1 ⟨x, H1, I1, r1, q1⟩ => PyProof.Rows.args_nil ?_) na) na rfl
  obtain ⟨l, ns, rfl, hq, hl, q1⟩ := q1
  cases r1
  obtain ⟨its, r, pl, hz⟩ := I1.list hq
  have hlen : its.toArray.size = ns.length := by rw [List.size_toArray, ← r.length, List.length_map]
  refine call_set_list (I1.ok.hd hc) pl.isList (by simpa using Vals.ints r) (by rw [hlen]; unfold scanBound; omega) fun h' tk hS hk => ?_
  refine PyProof.Rows.args_nil ?_
  rw [hlen] at hS
  obtain ⟨o, es, ep, t, ho, hex, hd, _, _, _, hf, hn⟩ := hS
  have hle := dedup_le ns
  have I2 : Inv X pins σ H1 { s1 with heap := h', toks := tk } := I1.kept fun b o e => hk b o (Heap.lt_size e) e
  have hn' : es.size = (dedup ns).length := hn
  exact call_len_set ho hex hd hf (by rw [hn] <;> exact Int.lt_of_le_of_lt (Int.ofNat_le.mpr hle) (by omega)) ⟨.int (dedup ns).length, H1, I2.tok _, ⟨_, by rw [hn]; rfl⟩, q1⟩
/-! ### list(reversed(a list)) -/
section
variable {prog : Program} {w : World} {A : Around} {E : Value → Shared → Prop} {s : Shared}
theorem extend_rev {R : Result → Shared → Prop} {it l : Addr} {items : Array Value} (hh : A.handled = none) (hit : s.heap.IsRevIter it l ((items.size : Int) - 1)) (hl : s.heap.IsList l items) (hne : l ≠ it) (hn : items.size ≤ sizeLine) (S : Addr) (res : Value) (c₀ : Nat)
    (hS : s.heap.get? S = some { cls := .type "list", data := .seq #[] c₀ }) (hSi : S ≠ it) (hSl : S ≠ l)
    (hR : ∀ h' tk acc' c', (∀ b o, b ≠ S → b ≠ it → s.heap.get? b = some o → h'.get? b = some o) → h'.get? S = some { cls := .type "list", dict := none, data := .seq acc' c', slots := #[] } →
      ItemsOf (fun i v => items[items.size - 1 - i]? = some v) acc' items.size → R (.ok (.ret res)) { s with heap := h', toks := tk }) :
    wpAny (model prog w) A.in1 (Builtin.List.listExtendWith (.ref S) (.ref it) res)
      (fun fin s' => match fin with | .done f => R (.ok f) s' | .again c' => c'.quiet = true ∧ codeAny (model prog w) A c' R s') (fun e s' => R (.error e) s') s := by
  have W := (Walks.listRev (prog := prog) (w := w) (A := A.in1) hh it l hne items).toS
  have hSf : S ∉ [it, l] := by simp only [List.mem_cons, List.not_mem_nil, or_false, not_or]; exact ⟨hSi, hSl⟩
  have hT : s.TypeIs (.ref it) "list_reverseiterator" := Heap.IsRevIter.typeIs hit
  have h1 : Builtin.List.listSameRef (.ref S) (.ref it) = false := by simp [Builtin.List.listSameRef, hSi]
  unfold Builtin.List.listExtendWith
  refine wpAny_bind (wpAny_typeOf hT ?_)
  rw [if_neg (by rw [h1]; decide)]
  refine wpAny_bind (wpAny_pyIter_revIter hit ?_)
  refine wpAny_bind (wpAny_holding ?_)
  unfold Builtin.List.listLengthHint
  refine wpAny_bind (wpAny_specialOf hT RT.nolen_lri ?_)
  show wpAny _ A.in1 (specialOf (Value.ref it) (Str.ofString "__length_hint__") >>= _) _ _ _
  refine wpAny_bind (wpAny_specialOf hT RT.hint_lri ?_)
  generalize hid : ("list_reverseiterator.__length_hint__" : String) = id0
  wp_delta
  rw [show splitId id0 = some ("list_reverseiterator", "__length_hint__") from by subst hid; decide +kernel]
  subst hid
  refine wpAny_bind (wpAny_isInstance (b := true) hT (by rw [isSubtype_type]; kernel_rfl) ?_)
  refine wpAny_pure ?_
  rw [if_neg (by decide)]
  have e0 : ((items.size : Nat) : Int) - 1 - ((0 : Nat) : Int) = (items.size : Int) - 1 := by omega
  refine wpAny_pure ⟨plainId_quiet F.plain_extend_loop _, codeAny_extend_loopS W hn _ hSf _ items.size 0 _ _ _ rfl (Nat.zero_le _) ⟨Nat.zero_le _, by rw [e0]; exact hit, hl⟩ hS (ItemsOf.nil _) fun s' acc' c' hm hS' hacc => ?_⟩
  rw [Moved.eq_with hm]
  refine hR s'.heap s'.toks acc' c' (fun b o hb hb2 e => hm.heap b o (fun hmem => ?_) e) hS' hacc
  rcases List.mem_cons.mp hmem with e' | hmem
  · exact hb e'
  · exact hb2 (List.mem_singleton.mp hmem)
theorem list_init_rev {R : Result → Shared → Prop} {it l : Addr} {items : Array Value} (hh : A.handled = none) (hit : s.heap.IsRevIter it l ((items.size : Int) - 1)) (hl : s.heap.IsList l items) (hne : l ≠ it) (hn : items.size ≤ sizeLine) (S : Addr)
    (hS : s.heap.get? S = some { cls := .type "list", data := .seq #[] }) (hSi : S ≠ it) (hSl : S ≠ l)
    (hR : ∀ h' tk acc' c', (∀ b o, b ≠ S → b ≠ it → s.heap.get? b = some o → h'.get? b = some o) → h'.get? S = some { cls := .type "list", dict := none, data := .seq acc' c', slots := #[] } →
      ItemsOf (fun i v => items[items.size - 1 - i]? = some v) acc' items.size → R (.ok (.ret .none)) { s with heap := h', toks := tk }) :
    wpAny (model prog w) A.in1 (Builtin.«list.__init__» ⟨[.ref S, .ref it], []⟩)
      (fun fin s' => match fin with | .done f => R (.ok f) s' | .again c' => c'.quiet = true ∧ codeAny (model prog w) A c' R s') (fun e s' => R (.error e) s') s := by
  show wpAny _ _ (do let old ← Builtin.List.listItems (.ref S); Builtin.List.listUpdate (.ref S) (fun _ => #[]); letGo old.toList.reverse; Builtin.List.listExtendWith (.ref S) (.ref it) .none) _ _ s
  refine wpAny_bind ?_
  unfold Builtin.List.listItems
  refine wpAny_bind (wpAny_seqItems hS rfl (wpAny_pure ?_))
  show wpAny _ _ (updateSeq S (fun _ => #[]) >>= fun _ => letGo (#[] : Array Value).toList.reverse >>= fun _ => Builtin.List.listExtendWith (.ref S) (.ref it) .none) _ _ s
  refine wpAny_bind (wpAny_updateSeq hS rfl ?_)
  have hS₂ := Heap.get?_update_self (Obj.mapSeq (fun _ => (#[] : Array Value))) hS rfl
  have oth : ∀ b o, b ≠ S → s.heap.get? b = some o → (s.heap.update S (Obj.mapSeq (fun _ => (#[] : Array Value)))).get? b = some o :=
    fun b o hb e => (Heap.get?_update_other _ _ (Ne.symm hb)).trans e
  refine wpAny_bind (wpAny_letGo ?_)
  obtain ⟨oi, hoi, ri⟩ := hit
  obtain ⟨ol, hol, rl⟩ := hl
  refine extend_rev (s := { s with heap := s.heap.update S (Obj.mapSeq (fun _ => (#[] : Array Value))) }) hh ⟨oi, oth it oi (Ne.symm hSi) hoi, ri⟩ ⟨ol, oth l ol (Ne.symm hSl) hol, rl⟩ hne hn S .none _ hS₂ hSi hSl fun h' tk acc' c' hk hS' hacc => ?_
  exact hR h' tk acc' c' (fun b o hb hb2 e => hk b o hb hb2 (oth b o hb e)) hS' hacc
theorem call_list_rev {Q : Value → Shared → Prop} {it l : Addr} {items : Array Value} (hh : A.handled = none) (hit : s.heap.IsRevIter it l ((items.size : Int) - 1)) (hl : s.heap.IsList l items) (hne : l ≠ it) (hn : items.size ≤ sizeLine)
    (hQ : ∀ h' tk acc' c', (∀ b o, b ≠ it → s.heap.get? b = some o → h'.get? b = some o) →
      h'.get? s.heap.objs.size = some { cls := .type "list", dict := none, data := .seq acc' c', slots := #[] } → ItemsOf (fun i v => items[items.size - 1 - i]? = some v) acc' items.size → Q (.ref s.heap.objs.size) { s with heap := h', toks := tk }) :
    wpAny (model prog w) A (call (.type "list") [.ref it]) Q E s := by
  obtain ⟨oi, hoi, ri⟩ := id hit
  obtain ⟨ol, hol, rl⟩ := id hl
  refine callType_codes (Q₁ := fun obj s₁ => obj = .ref s.heap.objs.size ∧ s₁ = { s with heap := s.heap.push { cls := .type "list", data := .seq #[] } }) F.called_list (F.typeCall_list_1 _) F.entry_list_init
    (code_list_new _ ⟨rfl, rfl⟩) fun obj s₁ h₁ => ?_
  obtain ⟨rfl, rfl⟩ := h₁
  have hS : (s.heap.push { cls := .type "list", data := .seq #[] }).get? s.heap.objs.size = some { cls := .type "list", data := .seq #[] } := Heap.get?_push_size _ rfl
  refine ⟨⟨_, hS, rfl⟩, F.args_list_init_2 _ _, list_init_rev (A := A.in1) (s := { s with heap := s.heap.push { cls := .type "list", data := .seq #[] } }) hh ⟨oi, Heap.get?_push_of_some _ hoi, ri⟩ ⟨ol, Heap.get?_push_of_some _ hol, rl⟩ hne hn _ hS (Nat.ne_of_gt (Heap.lt_size hoi)) (Nat.ne_of_gt (Heap.lt_size hol)) fun h' tk acc' c' hk hS' hacc => ?_⟩
  exact ⟨rfl, hQ h' tk acc' c' (fun b o hb e => hk b o (Nat.ne_of_lt (Heap.lt_size e)) hb (Heap.get?_push_of_some _ e)) hS' hacc⟩
end
def tListRev (K : PySem.W.Frag) (te : TE) : TE := fun σ H Q => te σ H fun v H1 => ∃ (a : Addr) (xs : List V), v = .ref a ∧ SqL K H1 a xs ∧ ∀ q, H1 q = none → Q (.ref q) (upd H1 q (.lst xs.reverse))
theorem pe_listRev {X : Cx} {e : Expr} {te : TE} {p p2 pos pos2 : Pos} (hc : X.calm = true) (hg : Gl X "list") (hm : X.mg "list" = none) (hg2 : Gl X "reversed") (hm2 : X.mg "reversed" = none) (he : PE X e te)
    (hs : starEach [e] X.env = (false, eval e X.env) :: starEach [] X.env := by rfl)
    (hs2 : starEach [.Call (.Name "reversed" p2) [e] [] pos2] X.env = (false, eval (.Call (.Name "reversed" p2) [e] [] pos2) X.env) :: starEach [] X.env := by rfl) :
    PE X (.Call (.Name "list" p) [.Call (.Name "reversed" p2) [e] [] pos2] [] pos) (tListRev X.K te) := by
  refine ⟨fun pins s σ H Q I h => ?_⟩
  refine Call_ (ld_blt I hg hm boot_list (PyProof.Rows.callWith_type1 (args_cons (Call_ (ld_blt I hg2 hm2 PyProof.Rows.boot_reversed (PyProof.Rows.callWith_type1 (args_cons (thn (he.run pins s σ H _ I h) fun u s1 ⟨v, H1, I1, r1, q1⟩ => args_nil ?_) hs) hs rfl))) hs2) hs2 rfl))
  obtain ⟨a, xs, ev, hq, q⟩ := q1
  subst ev
  obtain rfl : u = Value.ref a := r1
  obtain ⟨its, rv, p', hz⟩ := I1.list hq
  refine call_reversed_list p'.isList (args_nil ?_)
  have k0 : ∀ b o, s1.heap.get? b = some o → (s1.heap.push (revObj a ((its.toArray.size : Int) - 1))).get? b = some o := fun b o e => Heap.get?_push_of_some _ e
  have I2 : Inv X pins σ H1 { s1 with heap := s1.heap.push (revObj a ((its.toArray.size : Int) - 1)) } := I1.kept (t' := s1.toks) k0
  obtain ⟨f0, f1, f2, f3, f4, f5⟩ := I1.fpOk (H' := H1) (b := s1.heap.objs.size) (Nat.le_refl _) (I1.hok.fresh (Nat.le_refl _))
  have hl := p'.isList
  obtain ⟨ol, hol, _⟩ := id hl
  have hne : a ≠ s1.heap.objs.size := Nat.ne_of_lt (Heap.lt_size hol)
  have hn : its.toArray.size ≤ sizeLine := by rw [List.size_toArray, ← rv.length]; exact hz
  refine call_list_rev (s := { s1 with heap := s1.heap.push (revObj a ((its.toArray.size : Int) - 1)) }) (I1.ok.hd hc) ⟨_, Heap.get?_push_size _ rfl, rfl, rfl⟩ (hl.push _) hne hn fun h' tk acc c' hk hD hi => ?_
  have hD0 : H1 (s1.heap.push (revObj a ((its.toArray.size : Int) - 1))).objs.size = none := I2.hok.fresh (Nat.le_refl _)
  have nit : ∀ b u, H1 b = some u → b ≠ s1.heap.objs.size := fun b u e z => by rw [z, f0] at e; cases e
  have nD : ∀ b o, (s1.heap.push (revObj a ((its.toArray.size : Int) - 1))).get? b = some o → b ≠ (s1.heap.push (revObj a ((its.toArray.size : Int) - 1))).objs.size := fun b o e => Nat.ne_of_lt (Heap.lt_size e)
  have I3 : Inv X pins σ (upd H1 (s1.heap.push (revObj a ((its.toArray.size : Int) - 1))).objs.size (.lst xs.reverse)) { s1 with heap := h', toks := tk } := by
    refine L2.Inv.step (s := { s1 with heap := s1.heap.push (revObj a ((its.toArray.size : Int) - 1)) }) (h' := h') (t' := tk) (g' := s1.gens) (d' := s1.drawn) (ch := [s1.heap.objs.size]) I2 (fun b hb => ?_) (fun b o _ _ hc e _ => hk b o (fun z => hc (by simp [z])) e) (fun b o _ _ hc e _ => ⟨o.slots, hk b o (fun z => hc (by simp [z])) e⟩)
      (fun b o _ e n => by rw [upd_ne (nD b o e)]; exact n) (fun b o hc e => ⟨o, hk b o (fun z => hc (by simp [z])) e⟩) (fun b ys e => by rw [upd_ne (ne_of_none e hD0)]; exact e) (fun b o u e => by rw [upd_ne (ne_of_none e hD0)]; exact e)
      (fun b ps e => ⟨#[], by rw [upd_ne (ne_of_none e hD0), e]; simp⟩) (fun m hm => ?_) (fun b u e => ?_) I1.bare
    · have e : b = s1.heap.objs.size := by simpa using hb
      subst e
      exact ⟨f3, f1, f4, f5⟩
    · obtain ⟨o, es, ep, ho, r⟩ := hm
      exact ⟨o, es, ep, hk _ o (Ne.symm f1) ho, r⟩
    · by_cases hb : b = (s1.heap.push (revObj a ((its.toArray.size : Int) - 1))).objs.size
      · subst hb
        rw [upd_same] at e
        cases e
        refine ⟨by rw [List.length_reverse]; exact hz, acc.toList, c', RT.vals_rev rv hi, ?_⟩
        rw [Array.toArray_toList]
        exact hD
      · rw [upd_ne hb] at e
        refine (I2.hok b u e).stay (fun c v hc q => hk c v ?_ q) (fun c q => by rw [upd_ne (ne_of_none q hD0)]; exact q) fun c ys q => by rw [upd_ne (ne_of_none q hD0)]; exact q
        rcases hc with z | z
        · rw [z]; exact nit b u e
        · exact nit c _ z
  exact ⟨.ref _, _, I3, rfl, q _ hD0⟩
end Sh

set_option Elab.async false
set_option linter.all false
set_option maxRecDepth 100000
set_option maxHeartbeats 4000000
/-! M1: data compared, ranks, shapes: plain Lean (and what the layer's readings ask of it). -/
namespace Sh
open PySem PySem.Spec PyProof.Rows L2
/-! ### data of one form -/
structure IsD {α : Type} [DecidableEq α] (f : α → PyData) (k : Nat) : Prop where
  eqv : ∀ x y, PyData.eqv (f x) (f y) = decide (x = y)
  lay : ∀ x, (f x).canLay0 = true
  dep : ∀ x, (f x).depth ≤ k
theorem eqvAll_map {α : Type} [DecidableEq α] {f : α → PyData} {k : Nat} (h : IsD f k) : ∀ xs ys : List α, PyData.eqvAll (xs.map f) (ys.map f) = decide (xs = ys)
  | [], [] => by simp [PyData.eqvAll]
  | [], _ :: _ => by simp [PyData.eqvAll]
  | _ :: _, [] => by simp [PyData.eqvAll]
  | x :: xs, y :: ys => by
    simp only [List.map_cons, PyData.eqvAll, h.eqv, eqvAll_map h xs ys, List.cons.injEq, Bool.decide_and]
theorem layAll_map {α : Type} [DecidableEq α] {f : α → PyData} {k : Nat} (h : IsD f k) : ∀ xs : List α, PyData.canLayAll0 (xs.map f) = true
  | [] => by simp [PyData.canLayAll0]
  | x :: xs => by simp only [List.map_cons, PyData.canLayAll0, h.lay, layAll_map h xs, Bool.and_self]
theorem depAll_map {α : Type} [DecidableEq α] {f : α → PyData} {k : Nat} (h : IsD f k) : ∀ xs : List α, PyData.depthAll (xs.map f) ≤ k
  | [] => by simp [PyData.depthAll]
  | x :: xs => by
    have h1 := h.dep x
    have h2 := depAll_map h xs
    simp only [List.map_cons, PyData.depthAll]
    omega
theorem isD_int : IsD PyData.int 1 := ⟨fun x y => by simp [PyData.eqv, Bool.beq_eq_decide_eq], fun x => by simp [PyData.canLay0], fun x => by simp [PyData.depth]⟩
theorem isD_bool : IsD PyData.bool 1 := ⟨fun x y => by simp [PyData.eqv, Bool.beq_eq_decide_eq], fun x => by simp [PyData.canLay0], fun x => by simp [PyData.depth]⟩
theorem isD_list {α : Type} [DecidableEq α] {f : α → PyData} {k : Nat} (h : IsD f k) : IsD (fun xs : List α => PyData.list (xs.map f)) (k + 1) :=
  ⟨fun x y => by simp only [PyData.eqv, eqvAll_map h], fun x => by simp only [PyData.canLay0, layAll_map h], fun x => by have := depAll_map h x; simp only [PyData.depth]; omega⟩
theorem isD_tup {α : Type} [DecidableEq α] {f : α → PyData} {k : Nat} (h : IsD f k) : IsD (fun xs : List α => PyData.tuple (xs.map f)) (k + 1) :=
  ⟨fun x y => by simp only [PyData.eqv, eqvAll_map h], fun x => by simp only [PyData.canLay0, layAll_map h], fun x => by have := depAll_map h x; simp only [PyData.depth]; omega⟩
theorem shaped_of {α : Type} [DecidableEq α] {f : α → PyData} {k : Nat} (h : IsD f k) (hk : k ≤ 64) (x : α) : SeqAt.shaped (f x) = true := by
  unfold SeqAt.shaped
  rw [h.lay, decide_eq_true (Nat.le_trans (h.dep x) hk)]
  rfl
abbrev dInts : List Int → PyData := fun ns => .list (ns.map .int)
abbrev dTupI : List Int → PyData := fun ns => .tuple (ns.map .int)
abbrev dBools : List Bool → PyData := fun ns => .list (ns.map .bool)
abbrev dTupB : List Bool → PyData := fun ns => .tuple (ns.map .bool)
abbrev dLL : List (List Int) → PyData := fun xs => .list (xs.map dInts)
abbrev dLT : List (List Int) → PyData := fun xs => .list (xs.map dTupI)
theorem isD_ints : IsD dInts 2 := isD_list isD_int
theorem isD_tupI : IsD dTupI 2 := isD_tup isD_int
theorem isD_bools : IsD dBools 2 := isD_list isD_bool
theorem isD_tupB : IsD dTupB 2 := isD_tup isD_bool
theorem isD_LL : IsD dLL 3 := isD_list isD_ints
theorem isD_LT : IsD dLT 3 := isD_list isD_tupI
section
variable {K : PySem.W.Frag} {H : Hp}
theorem dpAll_int : ∀ ns : List Int, DpAll K H (ns.map V.int) (ns.map .int)
  | [] => .nil
  | n :: ns => .cons (.int n) (dpAll_int ns)
theorem dpAll_bool : ∀ ns : List Bool, DpAll K H (ns.map V.bl) (ns.map .bool)
  | [] => .nil
  | n :: ns => .cons (.bl n) (dpAll_bool ns)
theorem dp_ints {a : Addr} {ns : List Int} (h : SqL K H a (ns.map V.int)) : Dp K H (.ref a) (dInts ns) := .lst h (dpAll_int ns)
theorem dp_tupI {a : Addr} {ns : List Int} (h : SqT K H a (ns.map V.int)) : Dp K H (.ref a) (dTupI ns) := .tup h (dpAll_int ns)
theorem dp_bools {a : Addr} {ns : List Bool} (h : SqL K H a (ns.map V.bl)) : Dp K H (.ref a) (dBools ns) := .lst h (dpAll_bool ns)
theorem dp_tupB {a : Addr} {ns : List Bool} (h : SqT K H a (ns.map V.bl)) : Dp K H (.ref a) (dTupB ns) := .tup h (dpAll_bool ns)
theorem dpAll_of {α : Type} {f : α → PyData} : ∀ {vs : List V} {xs : List α}, Paired (fun v x => Dp K H v (f x)) vs xs → DpAll K H vs (xs.map f)
  | _, _, .nil => .nil
  | _, _, .cons h t => .cons h (dpAll_of t)
theorem rEq_of {α : Type} [DecidableEq α] {f : α → PyData} {k : Nat} {x y : V} {a b : α} {Q : VK} (D : IsD f k) (hk : k ≤ 64) (h1 : Dp K H x (f a)) (h2 : Dp K H y (f b)) (q : Q (.bl (decide (a = b))) H) : rEqD K x y H Q :=
  ⟨_, _, h1, h2, shaped_of D hk a, shaped_of D hk b, by rw [D.eqv]; exact q⟩
theorem rNe_of {α : Type} [DecidableEq α] {f : α → PyData} {k : Nat} {x y : V} {a b : α} {Q : VK} (D : IsD f k) (hk : k ≤ 64) (h1 : Dp K H x (f a)) (h2 : Dp K H y (f b)) (q : Q (.bl (!decide (a = b))) H) : rNeD K x y H Q :=
  ⟨_, _, h1, h2, shaped_of D hk a, shaped_of D hk b, by rw [D.eqv]; exact q⟩
theorem rEq_ints {a b : Addr} {ns ms : List Int} {Q : VK} (h1 : SqL K H a (ns.map V.int)) (h2 : SqL K H b (ms.map V.int)) (q : Q (.bl (decide (ns = ms))) H) : rEqD K (.ref a) (.ref b) H Q :=
  rEq_of isD_ints (by decide) (dp_ints h1) (dp_ints h2) q
theorem rNe_ints {a b : Addr} {ns ms : List Int} {Q : VK} (h1 : SqL K H a (ns.map V.int)) (h2 : SqL K H b (ms.map V.int)) (q : Q (.bl (!decide (ns = ms))) H) : rNeD K (.ref a) (.ref b) H Q :=
  rNe_of isD_ints (by decide) (dp_ints h1) (dp_ints h2) q
end
/-! ### x in (lists) -/
def rInDT (K : PySem.W.Frag) (neg : Bool) : R2 := fun x y H Q => ∃ d ds, Dp K H x d ∧ Dp K H y (.tuple ds) ∧ SeqAt.shaped d = true ∧ SeqAt.shaped (.list ds) = true ∧ Q (.bl (if neg then !(ds.any fun z => PyData.eqv z d) else ds.any fun z => PyData.eqv z d)) H
/-! ### the numbers 0 .. n - 1 -/
def rangeI (n : Nat) : List Int := (List.range n).map Int.ofNat
theorem rangeI_len (n : Nat) : (rangeI n).length = n := by simp [rangeI]
theorem rangeI_get {n i : Nat} (h : i < n) : (rangeI n)[i]? = some (i : Int) := by simp [rangeI, h]
theorem mem_rangeI {n : Nat} {x : Int} : x ∈ rangeI n ↔ 0 ≤ x ∧ x < n := by
  unfold rangeI
  simp only [List.mem_map, List.mem_range]
  constructor
  · rintro ⟨k, hk, rfl⟩
    exact ⟨Int.natCast_nonneg k, Int.ofNat_lt.mpr hk⟩
  · rintro ⟨h1, h2⟩
    exact ⟨x.toNat, by omega, by show ((x.toNat : Nat) : Int) = x; omega⟩
theorem rangeI_nodup (n : Nat) : (rangeI n).Nodup := by
  unfold rangeI List.Nodup
  rw [List.pairwise_map]
  exact List.Pairwise.imp (fun h e => h (Int.ofNat.inj e)) (List.nodup_range (n := n))
theorem rangeI_sorted (n : Nat) : (rangeI n).Pairwise (· ≤ ·) := by
  unfold rangeI
  rw [List.pairwise_map]
  exact List.pairwise_lt_range.imp fun h => Int.ofNat_le.mpr (Nat.le_of_lt h)
theorem rgV_range (n : Nat) : rgV 0 (n : Int) = (rangeI n).map V.int := by
  unfold rgV rangeI
  simp only [Int.sub_zero, Int.toNat_natCast, List.map_map]
  apply List.map_congr_left
  intro a _
  simp
/-! ### two ways to be sorted -/
theorem sorted_eq {ns ms : List Int} (p : ns.Perm ms) (h1 : ns.Pairwise (· ≤ ·)) (h2 : ms.Pairwise (· ≤ ·)) : ns = ms :=
  p.eq_of_pairwise (fun a b _ _ h h' => Int.le_antisymm h h') h1 h2
/-! ### ranks -/
def lessN (ns : List Int) (x : Int) : Int := ((ns.filter (· < x)).length : Int)
def rk (ns : List Int) : List Int := ns.map (lessN ns)
theorem rk_len (ns : List Int) : (rk ns).length = ns.length := by simp [rk]
theorem sorted_index : ∀ {l : List Int}, l.Pairwise (· ≤ ·) → ∀ {x : Int}, x ∈ l → l[(l.filter (· < x)).length]? = some x ∧ ∀ m y, m < (l.filter (· < x)).length → l[m]? = some y → y ≠ x
  | [], _, _, h => by simp at h
  | a :: l, hp, x, hx => by
    have h1 := (List.pairwise_cons.mp hp).1
    have h2 := (List.pairwise_cons.mp hp).2
    by_cases c : a < x
    · have hxl : x ∈ l := by
        rcases List.mem_cons.mp hx with e | e
        · omega
        · exact e
      have ih := sorted_index h2 hxl
      rw [List.filter_cons_of_pos (by simpa using c), List.length_cons]
      refine ⟨by rw [List.getElem?_cons_succ]; exact ih.1, fun m y hm hy => ?_⟩
      cases m with
      | zero =>
        have : a = y := by simpa using hy
        omega
      | succ m => exact ih.2 m y (by omega) (by simpa using hy)
    · have hall : ∀ y ∈ a :: l, ¬ y < x := fun y hy => by
        rcases List.mem_cons.mp hy with e | e
        · omega
        · have := h1 y e; omega
      have hz : (a :: l).filter (· < x) = [] := List.filter_eq_nil_iff.mpr (fun y hy => by simpa using hall y hy)
      rw [hz]
      have : a = x := by
        rcases List.mem_cons.mp hx with e | e
        · exact e.symm
        · have := h1 x e; omega
      exact ⟨by simp [this], fun m y hm => by simp at hm⟩
theorem rk_index {ns ns' : List Int} (perm : ns'.Perm ns) (ri : ns'.Pairwise (· ≤ ·)) (x : Int) (hx : x ∈ ns) : ∃ j : Nat, (j : Int) = lessN ns x ∧ ns'[j]? = some x ∧ ∀ m y, m < j → ns'[m]? = some y → y ≠ x := by
  have h := sorted_index ri (perm.mem_iff.mpr hx)
  have e : (ns'.filter (· < x)).length = (ns.filter (· < x)).length := (perm.filter _).length_eq
  exact ⟨(ns'.filter (· < x)).length, by unfold lessN; rw [e], h.1, h.2⟩
/-! ### rows and shapes -/
def rowOk (ns : List Int) : Prop := ns.length ≤ 30 ∧ ns.Nodup
def shapeOk (ns : List Int) : Prop := ns.length ≤ 30 ∧ ns.Perm (rangeI ns.length)
instance (ns : List Int) : Decidable (rowOk ns) := by unfold rowOk; infer_instance
instance (ns : List Int) : Decidable (shapeOk ns) := by unfold shapeOk; infer_instance
theorem shape_sorted {ns ns' : List Int} (p : ns'.Perm ns) (h : ns'.Pairwise (· ≤ ·)) : ns' = rangeI ns.length ↔ ns.Perm (rangeI ns.length) := by
  constructor
  · intro e; rw [← e]; exact p.symm
  · intro e; exact sorted_eq (p.trans e) h (rangeI_sorted _)
theorem shapeOk_row {ns : List Int} (h : shapeOk ns) : rowOk ns := ⟨h.1, h.2.nodup_iff.mpr (rangeI_nodup _)⟩
theorem shapeOk_mem {ns : List Int} (h : shapeOk ns) {x : Int} : x ∈ ns ↔ 0 ≤ x ∧ x < ns.length := by rw [h.2.mem_iff, mem_rangeI]
/-- flat ints within a list of values -/
theorem flat_ints (ns : List Int) : (ns.map V.int).all flatV = true := by
  rw [List.all_map]
  exact List.all_eq_true.mpr fun _ _ => rfl
theorem eqV_int (x y : Int) : eqV (.int x) (.int y) = decide (x = y) := by
  show (x == y) = _
  exact Bool.beq_eq_decide_eq _ _
theorem inV_ints (x : Int) (ns : List Int) : inV (.int x) (ns.map V.int) = decide (x ∈ ns) := by
  unfold inV
  rw [List.any_map]
  by_cases h : x ∈ ns
  · rw [decide_eq_true h]
    exact List.any_eq_true.mpr ⟨x, h, by simp [Function.comp, eqV_int]⟩
  · rw [decide_eq_false h]
    refine List.any_eq_false.mpr fun y hy => ?_
    simp only [Function.comp, eqV_int, decide_eq_true_eq]
    intro e; exact h (e ▸ hy)
end Sh

set_option Elab.async false
set_option linter.all false
set_option maxRecDepth 100000
set_option maxHeartbeats 4000000
/-! ShX: own errors caught: which class an except clause takes, isinstance of what was caught. -/
namespace Sh
open PySem PySem.Spec PyProof.Rows L2
section
variable {K : PySem.W.Frag}
theorem kit_ref {D C : Addr} {b : Bool} (hdct : PySem.W.hasDictIn K C = true) (ht : PySem.W.typeIn K (.ref C) = some (.type "type")) (h : PySem.W.subIn K (.ref D) (.ref C) = some b) (self : PySem.W.subIn K (.ref D) (.ref D) = some true) :
    PySem.W.kitOne K (.ref D) (.ref C) = some b := by
  obtain ⟨cd, hc, _⟩ := PySem.W.any_some hdct
  have e2 : ((PySem.W.clsIn K C).isSome && PySem.W.typeIn K (.ref C) == some (.type "type")) = true := by rw [hc, ht] <;> rfl
  unfold PySem.W.kitOne
  by_cases e : D = C
  · subst e
    rw [self] at h
    rw [if_pos (by simp)]
    exact h
  · rw [if_neg (by simpa using e)]
    show (if ((PySem.W.clsIn K C).isSome && PySem.W.typeIn K (.ref C) == some (.type "type")) = true then PySem.W.subIn K (.ref D) (.ref C) else none) = some b
    rw [if_pos e2]
    exact h
theorem kit_val {D : Addr} (h : PySem.W.subIn K (.ref D) (.type "ValueError") = some true) : PySem.W.kitOne K (.ref D) (.type "ValueError") = some true := by
  unfold PySem.W.kitOne
  rw [if_neg (by simp)]
  show (if PySem.W.kitMeta "ValueError" = true then PySem.W.subIn K (.ref D) (.type "ValueError") else none) = some true
  rw [if_pos (by decide +kernel)]
  exact h
end
/-- isinstance(e, c), e the error that the suite holds, of class cls -/
def rIsX (K : PySem.W.Frag) (a : Addr) (cls : Value) (d : Option Addr) : List V → Hp → VK → Prop := fun xs H Q => ∃ D, cls = .ref D ∧ d = none ∧ ExcC K D ∧ rIsE K D a xs H Q
theorem call_isX {X : Cx} {a : Addr} {oe : Obj} {pn : List (Addr × Obj)} {cls : Value} {d : Option Addr} (hz : Zc cls d oe) (hf : ∃ vs, oe.data = .fields vs) : CallR (X.suite a ((a, oe) :: pn)) (.builtin "isinstance") (rIsX X.K a cls d) := by
  intro pins s σ H xs us Q I r h
  obtain ⟨D, rfl, rfl, C, h⟩ := h
  exact call_isE C hz hf pins s σ H xs us Q I r h
theorem seq_of {t u : TS} {D : Ends} {σ : L2.St} {H : Hp} (Post : L2.St → Hp → Prop) (hu : ∀ σ H, Post σ H → u D σ H) (ht : ∀ U : L2.St → Hp → Prop, (∀ σ H, Post σ H → U σ H) → t { D with nx := U } σ H) : tSeq t u D σ H := ht _ hu
theorem seq_intro {t u : TS} {D : Ends} {σ : L2.St} {H : Hp} (h : t { D with nx := u D } σ H) : tSeq t u D σ H := h
/-! ### a loop over a list from its end -/
theorem forK_rev {K : PySem.W.Frag} {a : Addr} {g : TG} {tb : TS} {D : Ends} {σ : L2.St} {H : Hp} {α : Type} {n : Nat} (ns : List α) (h : α → V) (hn : n = ns.length) (Pv : Nat → L2.St → Hp → Prop) (h0 : Pv 0 σ H) (hl : ∀ i σ H, i ≤ ns.length → Pv i σ H → SqL K H a (ns.map h))
    (hs : ∀ (i : Nat) (x : α) σ H, i < ns.length → ns[ns.length - 1 - i]? = some x → Pv i σ H → g (h x) σ H fun σ2 H2 => tb { D with nx := Pv (i + 1), ct := Pv (i + 1), bk := D.nx } σ2 H2) (hd : ∀ σ H, Pv ns.length σ H → D.nx σ H) :
    ForK (Itv K a n) g tb D σ H := by
  subst hn
  refine ⟨fun i m σ H => m = ns.length - i ∧ i ≤ ns.length ∧ Pv i σ H, ⟨ns.length, by simp, Nat.zero_le _, h0⟩, ?_⟩
  rintro i m σ H ⟨rfl, hi, p⟩
  have q := hl i σ H hi p
  by_cases hlt : i < ns.length
  · have hx : ns[ns.length - 1 - i]? = some (ns[ns.length - 1 - i]'(by omega)) := List.getElem?_eq_getElem _
    have hy : (ns.map h)[ns.length - 1 - i]? = some (h (ns[ns.length - 1 - i]'(by omega))) := by rw [List.getElem?_map, hx]; rfl
    refine .inr ⟨⟨hlt, ns.map h, _, q, hy⟩, Pv (i + 1), fun σ' H' p' => ⟨ns.length - (i + 1), by omega, rfl, hlt, p'⟩, fun x H' y => ?_⟩
    obtain ⟨e, y⟩ := y
    subst e
    have e2 := (y _ q).symm.trans hy
    cases e2
    exact hs i _ σ _ hlt hx p
  · have e : i = ns.length := by omega
    subst e
    exact .inl ⟨Nat.le_refl _, hd σ H p⟩
end Sh

set_option Elab.async false
set_option linter.all false
set_option maxRecDepth 100000
set_option maxHeartbeats 4000000
/-! ShY: x in a written tuple of lists; sorted of lists of ints. -/
namespace Sh
open PySem PySem.Spec PyProof.Rows L2
theorem room65 {k : Nat} {A : Around} (r : Room k A) : A.units + 65 < cLine := by have := r.un; omega
theorem room66 {k : Nat} {A : Around} (r : Room k A) : A.units + 66 < cLine := by have := r.un; omega
section
variable {X : Cx}
theorem op_inDT (hu : X.A.units + 65 < cLine) : OpR X (compareOp .In) (rInDT X.K false) := by
  intro pins s σ H x y v u Q I rx ry h
  obtain ⟨d, ds, hd, he, sd, se, q⟩ := h
  obtain ⟨as, r1⟩ := Dp.reads I d x v hd rx
  obtain ⟨bs, r2⟩ := Dp.reads I (.tuple ds) y u he ry
  exact SeqAt.in_tuple_reads r2 r1 (SeqAt.canLay_of_shaped se) (SeqAt.canLay_of_shaped sd) (room_in_shaped sd hu) ⟨.bl _, H, I, rfl, q⟩
/-- sorted(xs), xs a list of lists of ints, each told by its address and its ints -/
def rSortedLL (K : PySem.W.Frag) : List V → Hp → VK → Prop := fun vs H Q => ∃ (a : Addr) (bs : List (Addr × List Int)), vs = [V.ref a] ∧ SqL K H a (bs.map fun b => V.ref b.1) ∧ (∀ b ∈ bs, H b.1 = some (.lst (b.2.map V.int))) ∧
  ∀ (rs : List (Addr × List Int)) (p : Addr), rs.Perm bs → rs.Pairwise (fun x y => x.2 ≤ y.2) → H p = none → Q (.ref p) (upd H p (.lst (rs.map fun b => V.ref b.1)))
theorem refs_vals : ∀ {bs : List (Addr × List Int)} {us : List Value}, Vals (bs.map fun b => V.ref b.1) us → us = bs.map fun b => Value.ref b.1
  | [], _, r => by cases r; rfl
  | b :: bs, us, r => by
    cases r with
    | cons r1 r2 =>
      cases r1
      rw [refs_vals r2]; rfl
theorem vals_refs : ∀ (bs : List (Addr × List Int)), Vals (bs.map fun b => V.ref b.1) (bs.map fun b => Value.ref b.1)
  | [] => .nil
  | b :: bs => .cons rfl (vals_refs bs)
theorem each_of {α β : Type} {R : Value → β → Prop} (f : β → Value) : ∀ (bs : List β), (∀ b ∈ bs, R (f b) b) → PySem.W.EachIs R (bs.map f) bs
  | [], _ => .nil
  | b :: bs, h => .cons (h b (by simp)) (each_of (α := α) f bs fun c hc => h c (by simp [hc]))
theorem each_eq {β : Type} (f : β → Value) : ∀ {vs : List Value} {bs : List β}, PySem.W.EachIs (fun v b => v = f b) vs bs → vs = bs.map f
  | _, _, .nil => rfl
  | _, _, .cons h t => by rw [h, each_eq f t]; rfl
theorem le_total_ll (a b : List Int) : a ≤ b ∨ b ≤ a := by
  by_cases h : b < a
  · exact .inr (List.le_of_lt h)
  · exact .inl (List.not_lt.mp h)
theorem cr_sortedLL (hu : X.A.units + 66 < cLine) : CallR X (.builtin "sorted") (rSortedLL X.K) := by
  intro pins s σ H vs us Q I r h
  obtain ⟨a, bs, rfl, hs, hb, q⟩ := h
  obtain ⟨its, rv, hl, hz⟩ := I.list hs
  rw [Vals.ref1 r]
  have ei := refs_vals rv
  subst ei
  rw [List.length_map] at hz
  have er : PySem.W.EachIs (fun v (b : Addr × List Int) => ∃ as, Reads s.heap v (dInts b.2) as) (bs.map fun b => Value.ref b.1) bs :=
    each_of (α := Unit) (fun b => Value.ref b.1) bs fun b hm => Dp.reads I (dInts b.2) (.ref b.1) _ (dp_ints (SqL.of (hb b hm))) rfl
  have e0 : PySem.W.EachIs (fun v (b : Addr × List Int) => v = Value.ref b.1) (bs.map fun b => Value.ref b.1) bs := each_of (α := Unit) (fun b => Value.ref b.1) bs fun b _ => rfl
  refine PySem.W.sorted_data (enc := fun b : Addr × List Int => dInts b.2) hl.isList e0 er (PySem.W.AllAlike.of fun b b' => ?_) (PySem.W.Sortable.others fun b => ⟨fun z => (nomatch z), fun xs z => (nomatch z)⟩) hz (fun b _ => ?_) fun out ho hout => ?_
  · show PySem.W.alike (.list (b.2.map .int)) (.list (b'.2.map .int)) = true
    rw [PySem.W.alike]
    exact PySem.W.alike_ints _ _
  · have := isD_ints.dep b.2
    show X.A.units + 2 + (dInts b.2).depth < cLine
    omega
  · have eo := each_eq (fun b : Addr × List Int => Value.ref b.1) hout
    rw [PySem.W.dataLe_rows (fun b : Addr × List Int => b.2)] at eo
    subst eo
    obtain ⟨ep, he'⟩ := PyProof.Rows.sortedAll_at s.heap (bs.map fun b => Value.ref b.1) ((bs.mergeSort fun p q => decide (p.2 ≤ q.2)).map fun b => Value.ref b.1).toArray
    have pm : (bs.mergeSort fun p q => decide (p.2 ≤ q.2)).Perm bs := List.mergeSort_perm _ _
    have pw : (bs.mergeSort fun p q => decide (p.2 ≤ q.2)).Pairwise (fun x y => x.2 ≤ y.2) := by
      refine (List.pairwise_mergeSort (le := fun p q : Addr × List Int => decide (p.2 ≤ q.2)) (fun x y z h1 h2 => ?_) (fun x y => ?_) bs).imp fun h => of_decide_eq_true h
      · exact decide_eq_true (List.le_trans (of_decide_eq_true h1) (of_decide_eq_true h2))
      · rcases le_total_ll x.2 y.2 with h | h
        · rw [decide_eq_true h]; rfl
        · rw [decide_eq_true h]; simp
    have hlen : ((bs.mergeSort fun p q => decide (p.2 ≤ q.2)).map fun b => V.ref b.1).length ≤ sizeLine := by
      rw [List.length_map, pm.length_eq]; exact hz
    exact ⟨.ref _, upd H (s.heap.objs.size + 1) (.lst ((bs.mergeSort fun p q => decide (p.2 ≤ q.2)).map fun b => V.ref b.1)), I.laid (t' := s.toks) (fun _ _ => PyProof.Rows.sortedAll_old) (Nat.le_succ _) ⟨hlen, _, ep, vals_refs _, he'⟩, rfl, q _ _ pm pw (I.hok.fresh (Nat.le_succ _))⟩
end
/-! ### comprehensions over a tuple -/
section
variable {K : PySem.W.Frag} {a : Addr} {g : TG} {tt : TT} {te : TE} {vs : List Nat} {σw : L2.St} {H1 : Hp} {D : Addr} {Qd : Hp → Prop}
theorem lcK_tup (xs : List V) (Pv : Nat → Hp → Prop) (h0 : Pv 0 (upd H1 D (.lst []))) (hl : ∀ i H, i ≤ xs.length → Pv i H → SqT K H a xs)
    (hs : ∀ i x H, xs[i]? = some x → Pv i H → g x σw H fun σ2 H2 => wipe σ2 vs = σw ∧ tt σ2 H2 fun b H3 =>
      if b = true then te σ2 H3 fun y H4 => ∃ acc, H4 D = some (.lst acc) ∧ acc.length < sizeLine ∧ Pv (i + 1) (upd H4 D (.lst (acc ++ [y]))) else Pv (i + 1) H3) (hd : ∀ H, Pv xs.length H → Qd H) :
    LcK (Itt K a) g tt te σw vs D Qd H1 := by
  refine ⟨fun i m H => m = xs.length - i ∧ i ≤ xs.length ∧ Pv i H, ⟨xs.length, by simp, Nat.zero_le _, h0⟩, ?_⟩
  rintro i m H ⟨rfl, hi, p⟩
  have q := hl i H hi p
  by_cases hlt : i < xs.length
  · refine .inr ⟨⟨xs, xs[i], q, by simp [hlt]⟩, Pv (i + 1), fun H' p' => ⟨xs.length - (i + 1), by omega, rfl, hlt, p'⟩, fun x H' y => ?_⟩
    obtain ⟨e, y⟩ := y
    subst e
    exact hs i x _ (y xs q) p
  · have e : i = xs.length := by omega
    subst e
    exact .inl ⟨⟨xs, q, Nat.le_refl _⟩, hd H p⟩
theorem lcK_filtT {α : Type} (ns : List α) (h : α → V) (p : α → Bool) (F : α → V) (nD : H1 D = none) (hS : SqT K H1 a (ns.map h)) (hl : ns.length ≤ 16000000)
    (hs : ∀ (i : Nat) (x : α) acc H (Qt : VK) (Qf : Hp → Prop), ns[i]? = some x → Same H1 H → H D = some (.lst acc) → (p x = true → ∀ H4, Same H1 H4 → H4 D = some (.lst acc) → Qt (F x) H4) → (p x = false → ∀ H4, Same H1 H4 → H4 D = some (.lst acc) → Qf H4) →
      g (h x) σw H fun σ2 H2 => wipe σ2 vs = σw ∧ tt σ2 H2 fun b H3 => if b = true then te σ2 H3 Qt else Qf H3)
    (hd : ∀ H, Same H1 H → H D = some (.lst ((ns.filter p).map F)) → Qd H) : LcK (Itt K a) g tt te σw vs D Qd H1 := by
  have seqt : ∀ {H}, Same H1 H → SqT K H a (ns.map h) := fun {H} s => by
    rcases hS with (q | ⟨u, q⟩) | q
    · exact .inl (.inl (s _ _ q))
    · exact .inl (.inr ⟨u, s _ _ q⟩)
    · exact .inr q
  refine lcK_tup (ns.map h) (fun i H => Same H1 H ∧ H D = some (.lst (((ns.take i).filter p).map F))) ⟨same_new nD, upd_same⟩ (fun i H _ h => seqt h.1) (fun i y H hy h => ?_) fun H h => ?_
  · obtain ⟨x, hx, rfl⟩ := at_map hy
    refine hs i x _ H _ _ hx h.1 h.2 (fun e H4 s4 h4 => ?_) (fun e H4 s4 h4 => ?_)
    · refine ⟨_, h4, ?_, same_mut s4 nD, ?_⟩
      · have hi : i < ns.length := (List.getElem?_eq_some_iff.mp hx).1
        have := List.length_filter_le p (ns.take i)
        simp only [List.length_map, List.length_take] at *
        exact lineLt (by omega)
      · rw [upd_same, take_more hx, List.filter_append, List.map_append, List.filter_cons_of_pos e]
        rfl
    · refine ⟨s4, ?_⟩
      rw [h4, take_more hx, List.filter_append, List.filter_cons_of_neg (by simp [e]), List.filter_nil, List.append_nil]
  · have e := h.2
    rw [List.length_map, List.take_length] at e
    exact hd H h.1 e
theorem lcK_mapT {α : Type} (ns : List α) (h : α → V) (F : α → V) (nD : H1 D = none) (hS : SqT K H1 a (ns.map h)) (hl : ns.length ≤ 16000000)
    (hs : ∀ (i : Nat) (x : α) acc H (Q : VK), ns[i]? = some x → Same H1 H → H D = some (.lst acc) → (∀ H4, Same H1 H4 → H4 D = some (.lst acc) → Q (F x) H4) → g (h x) σw H fun σ2 H2 => wipe σ2 vs = σw ∧ te σ2 H2 Q)
    (hd : ∀ H, Same H1 H → H D = some (.lst (ns.map F)) → Qd H) : LcK (Itt K a) g tYes te σw vs D Qd H1 := by
  refine lcK_filtT (tt := tYes) ns h (fun _ => true) F nD hS hl (fun i x acc H Qt Qf hx s d ht _ => ?_) (fun H s d => hd H s (by rw [List.filter_eq_self.mpr (fun _ _ => rfl)] at d; exact d))
  exact hs i x acc H Qt hx s d (ht rfl)
end
/-! ### comprehensions whose elements are new objects -/
section
variable {K : PySem.W.Frag} {a : Addr} {g : TG} {te : TE} {vs : List Nat} {σw : L2.St} {H1 : Hp} {D : Addr} {Qd : Hp → Prop} {β : Type}
theorem new_snoc {H1 H H4 : Hp} {D p : Addr} {bs : List (Addr × β)} {O : β → HO} {y : β} (nD : H1 D = none) (s : Same H1 H) (hD : H D = some (.lst (bs.map fun b => V.ref b.1))) (hb : ∀ b ∈ bs, H b.1 = some (O b.2)) (hn : ∀ b ∈ bs, H1 b.1 = none) (hne : ∀ b ∈ bs, b.1 ≠ D)
    (s4 : Same H H4) (np : H p = none) (hp : H4 p = some (O y)) :
    Same H1 (upd H4 D (.lst ((bs ++ [(p, y)]).map fun b => V.ref b.1))) ∧ (∀ b ∈ bs ++ [(p, y)], (upd H4 D (.lst ((bs ++ [(p, y)]).map fun b => V.ref b.1))) b.1 = some (O b.2)) ∧ (∀ b ∈ bs ++ [(p, y)], H1 b.1 = none) ∧ (∀ b ∈ bs ++ [(p, y)], b.1 ≠ D) := by
  have hpD : p ≠ D := (ne_of_none hD np).symm
  refine ⟨same_mut (s.trans s4) nD, fun b h => ?_, fun b h => ?_, fun b h => ?_⟩
  · rcases List.mem_append.mp h with z | z
    · rw [upd_ne (hne b z)]; exact s4 _ _ (hb b z)
    · have e : b = (p, y) := by simpa using z
      subst e; rw [upd_ne hpD]; exact hp
  · rcases List.mem_append.mp h with z | z
    · exact hn b z
    · have e : b = (p, y) := by simpa using z
      subst e; exact s.free np
  · rcases List.mem_append.mp h with z | z
    · exact hne b z
    · have e : b = (p, y) := by simpa using z
      subst e; exact hpD
theorem lcK_newR {lo : Int} {n : Nat} (O : β → HO) (G : Nat → β) (nD : H1 D = none) (hl : n ≤ 16000000)
    (hs : ∀ i H (Q : VK), i < n → Same H1 H → (∀ H4 p, Same H H4 → H p = none → H4 p = some (O (G i)) → Q (.ref p) H4) → g (.int (lo + i)) σw H fun σ2 H2 => wipe σ2 vs = σw ∧ te σ2 H2 Q)
    (hd : ∀ H (bs : List (Addr × β)), Same H1 H → H D = some (.lst (bs.map fun b => V.ref b.1)) → (∀ b ∈ bs, H b.1 = some (O b.2)) → (∀ b ∈ bs, H1 b.1 = none) → (∀ b ∈ bs, b.1 ≠ D) → bs.map Prod.snd = (List.range n).map G → Qd H) : LcK (Itr lo n) g tYes te σw vs D Qd H1 := by
  refine lcK_range (fun i H => Same H1 H ∧ ∃ bs : List (Addr × β), H D = some (.lst (bs.map fun b => V.ref b.1)) ∧ (∀ b ∈ bs, H b.1 = some (O b.2)) ∧ (∀ b ∈ bs, H1 b.1 = none) ∧ (∀ b ∈ bs, b.1 ≠ D) ∧ bs.map Prod.snd = (List.range i).map G)
    ⟨same_new nD, [], upd_same, fun _ h => by simp at h, fun _ h => by simp at h, fun _ h => by simp at h, rfl⟩ (fun i H hi h => ?_) fun H h => ?_
  · obtain ⟨s, bs, hD, hb, hn, hne, e⟩ := h
    refine hs i H _ hi s fun H4 p s4 np hp => ?_
    have hl2 : bs.length = i := by have := congrArg List.length e; simpa using this
    obtain ⟨k1, k2, k3, k4⟩ := new_snoc nD s hD hb hn hne s4 np hp
    refine ⟨_, s4 _ _ hD, by simp only [List.length_map]; exact lineLt (by omega), ?_⟩
    rw [show bs.map (fun b => V.ref b.1) ++ [V.ref p] = (bs ++ [(p, G i)]).map (fun b => V.ref b.1) by simp]
    exact ⟨k1, bs ++ [(p, G i)], upd_same, k2, k3, k4, by rw [List.map_append, e, List.range_succ, List.map_append]; rfl⟩
  · obtain ⟨s, bs, hD, hb, hn, hne, e⟩ := h
    exact hd H bs s hD hb hn hne e
theorem lcK_newL {α : Type} (ns : List α) (h : α → V) (O : β → HO) (G : α → β) (nD : H1 D = none) (hS : SqL K H1 a (ns.map h)) (hl : ns.length ≤ 16000000)
    (hs : ∀ (i : Nat) (x : α) H (Q : VK), ns[i]? = some x → Same H1 H → (∀ H4 p, Same H H4 → H p = none → H4 p = some (O (G x)) → Q (.ref p) H4) → g (h x) σw H fun σ2 H2 => wipe σ2 vs = σw ∧ te σ2 H2 Q)
    (hd : ∀ H (bs : List (Addr × β)), Same H1 H → H D = some (.lst (bs.map fun b => V.ref b.1)) → (∀ b ∈ bs, H b.1 = some (O b.2)) → (∀ b ∈ bs, H1 b.1 = none) → (∀ b ∈ bs, b.1 ≠ D) → bs.map Prod.snd = ns.map G → Qd H) : LcK (Itl K a) g tYes te σw vs D Qd H1 := by
  refine lcK_list (ns.map h) (fun i H => Same H1 H ∧ ∃ bs : List (Addr × β), H D = some (.lst (bs.map fun b => V.ref b.1)) ∧ (∀ b ∈ bs, H b.1 = some (O b.2)) ∧ (∀ b ∈ bs, H1 b.1 = none) ∧ (∀ b ∈ bs, b.1 ≠ D) ∧ bs.map Prod.snd = (ns.take i).map G)
    ⟨same_new nD, [], upd_same, fun _ h => by simp at h, fun _ h => by simp at h, fun _ h => by simp at h, rfl⟩ (fun i H _ h => h.1.seq hS) (fun i y H hy h => ?_) fun H h => ?_
  · obtain ⟨x, hx, rfl⟩ := at_map hy
    obtain ⟨s, bs, hD, hb, hn, hne, e⟩ := h
    refine hs i x H _ hx s fun H4 p s4 np hp => ?_
    have hi : i < ns.length := (List.getElem?_eq_some_iff.mp hx).1
    have hl2 : bs.length = i := by have := congrArg List.length e; simp at this; omega
    obtain ⟨k1, k2, k3, k4⟩ := new_snoc nD s hD hb hn hne s4 np hp
    refine ⟨_, s4 _ _ hD, by simp only [List.length_map]; exact lineLt (by omega), ?_⟩
    rw [show bs.map (fun b => V.ref b.1) ++ [V.ref p] = (bs ++ [(p, G x)]).map (fun b => V.ref b.1) by simp]
    exact ⟨k1, bs ++ [(p, G x)], upd_same, k2, k3, k4, by rw [List.map_append, e, take_more hx, List.map_append]; rfl⟩
  · obtain ⟨s, bs, hD, hb, hn, hne, e⟩ := h
    rw [List.length_map, List.take_length] at e
    exact hd H bs s hD hb hn hne e
end
/-! ### for k in reversed(range(n)) -/
theorem forK_revR {lo : Int} {n : Nat} {g : TG} {tb : TS} {D : Ends} {σ : L2.St} {H : Hp} (hlo : lo = (n : Int) - 1) (Pv : Nat → L2.St → Hp → Prop) (h0 : Pv 0 σ H)
    (hs : ∀ i σ H, i < n → Pv i σ H → g (.int (((n - 1 - i : Nat)) : Int)) σ H fun σ2 H2 => tb { D with nx := Pv (i + 1), ct := Pv (i + 1), bk := D.nx } σ2 H2) (hd : ∀ σ H, Pv n σ H → D.nx σ H) :
    ForK (Itc lo (-1) n) g tb D σ H := by
  refine ⟨fun i m σ H => m = n - i ∧ i ≤ n ∧ Pv i σ H, ⟨n, by simp, Nat.zero_le _, h0⟩, ?_⟩
  rintro i m σ H ⟨rfl, hi, p⟩
  by_cases hlt : i < n
  · refine .inr ⟨hlt, Pv (i + 1), fun σ' H' p' => ⟨n - (i + 1), by omega, rfl, hlt, p'⟩, fun x H' y => ?_⟩
    obtain ⟨e, y⟩ := y
    subst e
    rw [y, show lo + (i : Int) * (-1) = ((n - 1 - i : Nat) : Int) by omega]
    exact hs i _ _ hlt p
  · have e : i = n := by omega
    subst e
    exact .inl ⟨Nat.le_refl _, hd σ H p⟩
end Sh

set_option Elab.async false
set_option linter.all false
set_option maxRecDepth 100000
set_option maxHeartbeats 4000000
/-! M2: contrary, turned over: plain Lean. -/
namespace Sh
open PySem PySem.Spec PyProof.Rows L2
/-! ### contrary, turned over -/
def contraryL (ns : List Int) : List Int := ns.map fun x => (ns.length : Int) - 1 - x
def overL (ns : List Int) : List Int := (List.range ns.length).map fun i : Nat => ((ns.idxOf (i : Int) : Nat) : Int)
theorem idxOf_at : ∀ {ns : List Int} {x : Int}, x ∈ ns → ns[ns.idxOf x]? = some x
  | [], _, h => by simp at h
  | a :: ns, x, h => by
    by_cases e : a = x
    · subst e; simp [List.idxOf_cons]
    · have h' : x ∈ ns := by
        rcases List.mem_cons.mp h with z | z
        · exact absurd z.symm e
        · exact z
      have q : (a == x) = false := by simpa using e
      rw [List.idxOf_cons, q]
      simpa using idxOf_at h'
theorem idxOf_min : ∀ {ns : List Int} {x : Int} {m : Nat} {y : Int}, m < ns.idxOf x → ns[m]? = some y → y ≠ x
  | [], _, _, _, h, _ => by simp at h
  | a :: ns, x, m, y, h, hy => by
    by_cases e : a = x
    · subst e; simp [List.idxOf_cons] at h
    · have q : (a == x) = false := by simpa using e
      rw [List.idxOf_cons, q] at h
      cases m with
      | zero =>
        have : a = y := by simpa using hy
        rw [← this]; exact e
      | succ m => exact idxOf_min (ns := ns) (m := m) (by simpa using h) (by simpa using hy)
theorem filter_len_le {α : Type} {p q : α → Bool} (h : ∀ x, q x = true → p x = true) : ∀ l : List α, (l.filter q).length ≤ (l.filter p).length
  | [] => by simp
  | a :: l => by
    have ih := filter_len_le h l
    by_cases c : q a = true
    · rw [List.filter_cons_of_pos c, List.filter_cons_of_pos (h a c)]
      simp; omega
    · rw [List.filter_cons_of_neg c]
      by_cases d : p a = true
      · rw [List.filter_cons_of_pos d]; simp; omega
      · rw [List.filter_cons_of_neg d]; exact ih
theorem filter_len_lt {α : Type} {p q : α → Bool} (h : ∀ x, q x = true → p x = true) {x : α} (hp : p x = true) (hq : q x = false) : ∀ l : List α, x ∈ l → (l.filter q).length < (l.filter p).length
  | a :: l, hm => by
    have le := filter_len_le h l
    by_cases e : a = x
    · subst e
      rw [List.filter_cons_of_neg (by simp [hq]), List.filter_cons_of_pos hp]
      simp; omega
    · have ih := filter_len_lt h hp hq l (by rcases List.mem_cons.mp hm with z | z; exact absurd z.symm e; exact z)
      by_cases c : q a = true
      · rw [List.filter_cons_of_pos c, List.filter_cons_of_pos (h a c)]
        simp; omega
      · rw [List.filter_cons_of_neg c]
        by_cases d : p a = true
        · rw [List.filter_cons_of_pos d]; simp; omega
        · rw [List.filter_cons_of_neg d]; exact ih
theorem filter_next {row : List Int} {num : Int} (h : num ∈ row) : (row.filter (fun y => decide (num + 1 ≤ y))).length < (row.filter (fun y => decide (num ≤ y))).length :=
  filter_len_lt (x := num) (fun x hx => by simp at hx ⊢; omega) (by simp) (by simp; omega) row h
end Sh

set_option Elab.async false
set_option linter.all false
set_option maxRecDepth 100000
set_option maxHeartbeats 4000000
/-! M3: shapes of rows, and shapes turned: plain Lean. -/
namespace Sh
open PySem PySem.Spec PyProof.Rows L2
theorem perm_of_sub {α : Type} [DecidableEq α] : ∀ {l m : List α}, l.Nodup → (∀ x ∈ l, x ∈ m) → m.length ≤ l.length → l.Perm m
  | [], m, _, _, h => by
    have : m = [] := by cases m with
      | nil => rfl
      | cons a r => simp at h
    subst this; exact List.Perm.nil
  | a :: l, m, hn, hs, h => by
    have ha : a ∈ m := hs a (by simp)
    have hn' := List.nodup_cons.mp hn
    have p : m.Perm (a :: m.erase a) := List.perm_cons_erase ha
    have hs' : ∀ x ∈ l, x ∈ m.erase a := fun x hx => by
      have hx' : x ∈ a :: m.erase a := p.mem_iff.mp (hs x (by simp [hx]))
      rcases List.mem_cons.mp hx' with e | e
      · exact absurd (e ▸ hx) hn'.1
      · exact e
    have hl : (m.erase a).length ≤ l.length := by
      have := List.length_erase_of_mem ha
      simp at h; omega
    exact ((perm_of_sub hn'.2 hs' hl).cons a).trans p.symm
theorem lessN_lt {ns : List Int} {x y : Int} (hx : x ∈ ns) (h : x < y) : lessN ns x < lessN ns y := by
  unfold lessN
  have := filter_len_lt (p := fun z => decide (z < y)) (q := fun z => decide (z < x)) (fun z hz => by simp at hz ⊢; omega) (x := x) (by simpa using h) (by simp) ns hx
  omega
theorem lessN_inj {ns : List Int} {x y : Int} (hx : x ∈ ns) (hy : y ∈ ns) (e : lessN ns x = lessN ns y) : x = y := by
  rcases Int.lt_trichotomy x y with h | h | h
  · have := lessN_lt hx h; omega
  · exact h
  · have := lessN_lt hy h; omega
theorem lessN_bound {ns : List Int} {x : Int} (hx : x ∈ ns) : 0 ≤ lessN ns x ∧ lessN ns x < ns.length := by
  unfold lessN
  refine ⟨by omega, ?_⟩
  have := filter_len_lt (p := fun _ => true) (q := fun z => decide (z < x)) (fun z _ => rfl) (x := x) rfl (by simp) ns hx
  rw [List.filter_eq_self.mpr (fun _ _ => rfl)] at this
  omega
theorem nodup_map {α β : Type} {f : α → β} {l : List α} (h : l.Nodup) (inj : ∀ a ∈ l, ∀ b ∈ l, f a = f b → a = b) : (l.map f).Nodup := by
  unfold List.Nodup
  rw [List.pairwise_map]
  exact List.Pairwise.imp_of_mem (fun {a b} ha hb hne e => hne (inj a ha b hb e)) h
theorem shape_of_nodup {ns : List Int} (hl : ns.length ≤ 30) (nd : ns.Nodup) (b : ∀ x ∈ ns, 0 ≤ x ∧ x < ns.length) : shapeOk ns :=
  ⟨hl, perm_of_sub nd (fun x hx => mem_rangeI.mpr (b x hx)) (by rw [rangeI_len]; exact Nat.le_refl _)⟩
theorem rk_shape {ns : List Int} (h : rowOk ns) : shapeOk (rk ns) := by
  refine shape_of_nodup (by rw [rk_len]; exact h.1) (nodup_map h.2 fun a ha b hb e => lessN_inj ha hb e) fun x hx => ?_
  obtain ⟨y, hy, rfl⟩ := List.mem_map.mp hx
  rw [rk_len]
  exact lessN_bound hy
theorem range_less (n : Nat) : ∀ k : Nat, k ≤ n → ((List.range n).filter (fun i => decide (i < k))).length = k := by
  induction n with
  | zero => intro k hk; have : k = 0 := by omega
            subst this; rfl
  | succ n ih =>
    intro k hk
    rw [List.range_succ, List.filter_append, List.length_append]
    by_cases e : k ≤ n
    · rw [ih k e, List.filter_cons_of_neg (by simp; omega)]; simp
    · have : k = n + 1 := by omega
      subst this
      have h1 : (List.range n).filter (fun i => decide (i < n + 1)) = List.range n := List.filter_eq_self.mpr fun i hi => by have := List.mem_range.mp hi; simp; omega
      rw [h1, List.filter_cons_of_pos (by simp)]
      simp
theorem lessN_range {n : Nat} {x : Int} (h0 : 0 ≤ x) (h : x ≤ n) : lessN (rangeI n) x = x := by
  obtain ⟨k, rfl⟩ : ∃ k : Nat, x = (k : Int) := ⟨x.toNat, by omega⟩
  unfold lessN rangeI
  rw [List.filter_map, List.length_map]
  have := range_less n k (by omega)
  have e : ((fun x => decide (x < (k : Int))) ∘ Int.ofNat) = fun i : Nat => decide (i < k) := by
    funext i
    simp [Function.comp]
  rw [e, this]
theorem lessN_perm {a b : List Int} (p : a.Perm b) (x : Int) : lessN a x = lessN b x := by
  unfold lessN; rw [(p.filter _).length_eq]
theorem rk_self {ns : List Int} (h : shapeOk ns) : rk ns = ns := by
  unfold rk
  conv => rhs; rw [← List.map_id ns]
  refine List.map_congr_left fun x hx => ?_
  have := (shapeOk_mem h).mp hx
  rw [lessN_perm h.2, lessN_range this.1 (by omega)]
  rfl
theorem reverse_shape {ns : List Int} (h : shapeOk ns) : shapeOk ns.reverse := ⟨by rw [List.length_reverse]; exact h.1, by rw [List.length_reverse]; exact (List.reverse_perm ns).trans h.2⟩
theorem contrary_len (ns : List Int) : (contraryL ns).length = ns.length := by simp [contraryL]
theorem contrary_shape {ns : List Int} (h : shapeOk ns) : shapeOk (contraryL ns) := by
  refine shape_of_nodup (by rw [contrary_len]; exact h.1) (nodup_map (shapeOk_row h).2 fun a _ b _ e => by omega) fun x hx => ?_
  obtain ⟨y, hy, rfl⟩ := List.mem_map.mp hx
  rw [contrary_len]
  have := (shapeOk_mem h).mp hy
  omega
theorem contrary_back (ns : List Int) : contraryL (contraryL ns) = ns := by
  unfold contraryL
  rw [List.map_map, List.length_map]
  conv => rhs; rw [← List.map_id ns]
  refine List.map_congr_left fun x _ => ?_
  simp only [Function.comp, id]
  omega
theorem over_len (ns : List Int) : (overL ns).length = ns.length := by simp [overL]
theorem over_get {ns : List Int} {i : Nat} (h : i < ns.length) : (overL ns)[i]? = some ((ns.idxOf (i : Int) : Nat) : Int) := by simp [overL, h]
theorem idxOf_of {ns : List Int} (nd : ns.Nodup) {i : Nat} {x : Int} (h : ns[i]? = some x) : ns.idxOf x = i := by
  have hm := List.mem_of_getElem? h
  exact nd_ix nd (idxOf_at hm) h
theorem idxOf_inj {ns : List Int} {x y : Int} (hx : x ∈ ns) (hy : y ∈ ns) (e : ns.idxOf x = ns.idxOf y) : x = y := by
  have h1 := idxOf_at hx
  rw [e, idxOf_at hy] at h1
  exact (Option.some.inj h1).symm
theorem idxOf_lt {ns : List Int} {x : Int} (hx : x ∈ ns) : ns.idxOf x < ns.length := (List.getElem?_eq_some_iff.mp (idxOf_at hx)).1
theorem over_shape {ns : List Int} (h : shapeOk ns) : shapeOk (overL ns) := by
  have hm : ∀ i ∈ List.range ns.length, ((i : Nat) : Int) ∈ ns := fun i hi => (shapeOk_mem h).mpr ⟨by omega, by have := List.mem_range.mp hi; omega⟩
  refine shape_of_nodup (by rw [over_len]; exact h.1) (nodup_map List.nodup_range fun a ha b hb e => ?_) fun x hx => ?_
  · have := idxOf_inj (hm a ha) (hm b hb) (by omega)
    omega
  · obtain ⟨y, hy, rfl⟩ := List.mem_map.mp hx
    rw [over_len]
    have := idxOf_lt (hm y hy)
    omega
theorem over_back {ns : List Int} (h : shapeOk ns) : overL (overL ns) = ns := by
  apply List.ext_getElem?
  intro i
  by_cases hi : i < ns.length
  · rw [over_get (by rw [over_len]; exact hi), List.getElem?_eq_getElem hi]
    have hx : ns[i] ∈ ns := List.getElem_mem hi
    have b := (shapeOk_mem h).mp hx
    have e : (overL ns)[(ns[i]).toNat]? = some (i : Int) := by
      rw [over_get (by omega)]
      have : (((ns[i]).toNat : Nat) : Int) = ns[i] := by omega
      rw [this, idxOf_of (shapeOk_row h).2 (List.getElem?_eq_getElem hi)]
    rw [idxOf_of (shapeOk_row (over_shape h)).2 e]
    congr 1
    omega
  · rw [List.getElem?_eq_none (by rw [over_len, over_len]; omega), List.getElem?_eq_none (by omega)]
def ovAt (s : List Int) (i : Nat) : List Int := (List.range s.length).map fun j : Nat => if s.idxOf (j : Int) < i then ((s.idxOf (j : Int) : Nat) : Int) else 0
theorem ovAt_len (s : List Int) (i : Nat) : (ovAt s i).length = s.length := by simp [ovAt]
theorem ovAt_zero (s : List Int) : ovAt s 0 = List.replicate s.length 0 := by
  unfold ovAt
  apply List.ext_getElem?
  intro j
  by_cases hj : j < s.length
  · simp [hj]
  · simp [hj]
theorem ovAt_full {s : List Int} (h : shapeOk s) : ovAt s s.length = overL s := by
  unfold ovAt overL
  refine List.map_congr_left fun j hj => ?_
  rw [if_pos (idxOf_lt ((shapeOk_mem h).mpr ⟨by omega, by have := List.mem_range.mp hj; omega⟩))]
theorem ovAt_step {s : List Int} (h : shapeOk s) {i : Nat} {x : Int} (hx : s[i]? = some x) : (ovAt s i).set x.toNat (i : Int) = ovAt s (i + 1) := by
  have b := (shapeOk_mem h).mp (List.mem_of_getElem? hx)
  have e := idxOf_of (shapeOk_row h).2 hx
  apply List.ext_getElem?
  intro j
  by_cases hj : j < s.length
  · by_cases ej : j = x.toNat
    · subst ej
      rw [List.getElem?_set_self (by rw [ovAt_len]; exact hj)]
      have : ((x.toNat : Nat) : Int) = x := by omega
      simp [ovAt, hj, this, e]
    · rw [List.getElem?_set_ne (Ne.symm ej)]
      have hjm : (j : Int) ∈ s := (shapeOk_mem h).mpr ⟨by omega, by omega⟩
      have ne : s.idxOf (j : Int) ≠ i := fun z => ej (by
        have := idxOf_at hjm
        rw [z, hx] at this
        have := Option.some.inj this
        omega)
      simp only [ovAt, List.getElem?_map, List.getElem?_range hj, Option.map_some]
      congr 1
      by_cases c : s.idxOf (j : Int) < i
      · rw [if_pos c, if_pos (by omega)]
      · rw [if_neg c, if_neg (by omega)]
  · rw [List.getElem?_eq_none (by rw [List.length_set, ovAt_len]; omega), List.getElem?_eq_none (by rw [ovAt_len]; omega)]
theorem rev_range (s : List Int) : (List.range s.length).map (fun k : Nat => s.getD (s.length - 1 - k) 0) = s.reverse := by
  apply List.ext_getElem?
  intro j
  by_cases hj : j < s.length
  · rw [List.getElem?_map, List.getElem?_range hj, List.getElem?_reverse hj, List.getElem?_eq_getElem (by omega)]
    simp [List.getD_eq_getElem?_getD, List.getElem?_eq_getElem (show s.length - 1 - j < s.length by omega)]
  · rw [List.getElem?_eq_none (by simp; omega), List.getElem?_eq_none (by simp; omega)]
theorem shape_iff (s : List Int) : (s.length < 31 ∧ ∀ j : Nat, j < s.length → (j : Int) ∈ s) ↔ shapeOk s := by
  constructor
  · rintro ⟨h1, h2⟩
    refine ⟨by omega, (perm_of_sub (rangeI_nodup _) (fun x hx => ?_) (by rw [rangeI_len]; exact Nat.le_refl _)).symm⟩
    have := mem_rangeI.mp hx
    have e : ((x.toNat : Nat) : Int) = x := by omega
    rw [← e]
    exact h2 _ (by omega)
  · intro h
    exact ⟨by have := h.1; omega, fun j hj => (shapeOk_mem h).mpr ⟨by omega, by omega⟩⟩
end Sh

set_option Elab.async false
set_option linter.all false
set_option maxRecDepth 100000
set_option maxHeartbeats 4000000
/-! M4: falls and wrong pairs: plain Lean. -/
namespace Sh
open PySem PySem.Spec PyProof.Rows L2
def inv : List Int → Nat
  | [] => 0
  | x :: r => (r.filter (· < x)).length + inv r
def fallsL (ns : List Int) : List Int := ((List.range (ns.length - 1)).filter fun k => decide (ns.getD (k + 1) 0 < ns.getD k 0)).map Int.ofNat
theorem inv_snoc : ∀ (l : List Int) (x : Int), inv (l ++ [x]) = inv l + (l.filter (fun y => decide (x < y))).length
  | [], x => by simp [inv]
  | a :: l, x => by
    have ih := inv_snoc l x
    simp only [List.cons_append, inv, List.filter_append, List.length_append, ih]
    by_cases c : x < a
    · rw [List.filter_cons_of_pos (by simpa using c), List.filter_cons_of_pos (by simpa using c)]
      simp; omega
    · rw [List.filter_cons_of_neg (by simpa using c), List.filter_cons_of_neg (by simpa using c)]
      simp; omega
theorem drop_get {ns : List Int} {i : Nat} (h : i < ns.length) : ns.drop i = ns.getD i 0 :: ns.drop (i + 1) := by
  rw [List.drop_eq_getElem_cons h, List.getD_eq_getElem?_getD, List.getElem?_eq_getElem h]
  rfl
theorem take_get {ns : List Int} {i : Nat} (h : i < ns.length) : ns.take (i + 1) = ns.take i ++ [ns.getD i 0] := by
  rw [List.getD_eq_getElem?_getD, List.getElem?_eq_getElem h, take_more (List.getElem?_eq_getElem h)]
  rfl
theorem inv_drop {ns : List Int} {i : Nat} (h : i < ns.length) : inv (ns.drop i) = ((ns.drop (i + 1)).filter (· < ns.getD i 0)).length + inv (ns.drop (i + 1)) := by
  rw [drop_get h]; rfl
theorem inv_take {ns : List Int} {i : Nat} (h : i < ns.length) : inv (ns.take (i + 1)) = inv (ns.take i) + ((ns.take i).filter (fun y => decide (ns.getD i 0 < y))).length := by
  rw [take_get h, inv_snoc]
theorem cut_from (xs : List V) (k : Nat) : cutV xs (some ((k : Int))) none = xs.drop k := by
  unfold cutV
  rw [HT.sIx_nat, HT.sIx_none]
  by_cases h : k ≤ xs.length
  · rw [Nat.min_eq_left h, List.take_of_length_le (by simp)]
  · rw [Nat.min_eq_right (by omega), List.drop_eq_nil_of_le (by omega : xs.length ≤ k)]
    simp
theorem insert_perm {s : List Int} {i : Nat} (p : s.Perm (rangeI i)) (j : Nat) : (s.take j ++ [(i : Int)] ++ s.drop j).Perm (rangeI (i + 1)) := by
  have h1 : (s.take j ++ [(i : Int)] ++ s.drop j).Perm ([(i : Int)] ++ s) := by
    conv => rhs; rw [← List.take_append_drop j s]
    rw [← List.append_assoc]
    exact List.Perm.append_right _ List.perm_append_comm
  refine h1.trans ?_
  have h2 : rangeI (i + 1) = rangeI i ++ [(i : Int)] := by
    unfold rangeI; rw [List.range_succ, List.map_append]; rfl
  rw [h2]
  exact (List.Perm.append_left _ p).trans List.perm_append_comm
end Sh

set_option Elab.async false
set_option linter.all false
set_option maxRecDepth 100000
set_option maxHeartbeats 4000000
/-! M5: wrong pairs of a shape backward and turned over: plain Lean. -/
namespace Sh
open PySem PySem.Spec PyProof.Rows L2
theorem split_len (x : Int) : ∀ l : List Int, x ∉ l → (l.filter (· < x)).length + (l.filter (fun y => decide (x < y))).length = l.length
  | [], _ => rfl
  | a :: l, h => by
    have h1 : x ≠ a := fun e => h (by simp [e])
    have ih := split_len x l (fun z => h (by simp [z]))
    by_cases c : a < x
    · rw [List.filter_cons_of_pos (by simpa using c), List.filter_cons_of_neg (by simp; omega)]
      simp; omega
    · rw [List.filter_cons_of_neg (by simpa using c), List.filter_cons_of_pos (by simp; omega)]
      simp; omega
theorem inv_reverse : ∀ l : List Int, l.Nodup → 2 * (inv l.reverse + inv l) = l.length * (l.length - 1)
  | [], _ => by simp [inv]
  | x :: l, h => by
    have hn := List.nodup_cons.mp h
    have ih := inv_reverse l hn.2
    have e := split_len x l hn.1
    have er : (l.reverse.filter (fun y => decide (x < y))).length = (l.filter (fun y => decide (x < y))).length := ((List.reverse_perm l).filter _).length_eq
    rw [List.reverse_cons, inv_snoc, er]
    simp only [inv, List.length_cons, Nat.add_sub_cancel]
    have e2 : (l.length + 1) * l.length = l.length * (l.length - 1) + 2 * l.length := by
      cases hl : l.length with
      | zero => rfl
      | succ n =>
        simp only [Nat.add_sub_cancel]
        generalize hm : (n + 1) * n = m
        have h3 : (n + 1 + 1) * (n + 1) = (n + 1) * n + 2 * (n + 1) := by
          rw [show n + 1 + 1 = n + 2 from rfl, Nat.mul_comm (n + 2) (n + 1), Nat.mul_add, Nat.mul_comm (n + 1) 2]
        omega
    rw [e2, ← ih]
    omega
theorem perm_sum {l m : List Nat} (p : l.Perm m) : l.sum = m.sum := by
  induction p with
  | nil => rfl
  | cons x _ ih => simp [ih]
  | swap x y l => simp; omega
  | trans _ _ h1 h2 => rw [h1, h2]
theorem fubini {α β : Type} (p : α → β → Bool) : ∀ (l : List α) (m : List β), (l.map fun x => m.countP (p x)).sum = (m.map fun y => l.countP (fun x => p x y)).sum
  | [], m => by
    induction m with
    | nil => rfl
    | cons a m ih => simp only [List.map_cons, List.sum_cons, ← ih]; rfl
  | a :: l, m => by
    have ih := fubini p l m
    simp only [List.map_cons, List.sum_cons, ih]
    clear ih
    induction m with
    | nil => rfl
    | cons b m ih =>
      simp only [List.countP_cons] at ih ⊢
      simp only [List.map_cons, List.sum_cons]
      omega
theorem count_below (p : Nat → Bool) (j : Nat) : ∀ n, j ≤ n → (List.range n).countP (fun i => decide (i < j) && p i) = (List.range j).countP p := by
  intro n
  induction n with
  | zero => intro h; have : j = 0 := by omega
            subst this; rfl
  | succ n ih =>
    intro h
    by_cases e : j ≤ n
    · rw [List.range_succ, List.countP_append, ih e, List.countP_cons_of_neg (by simp; omega)]; rfl
    · have : j = n + 1 := by omega
      subst this
      refine List.countP_congr fun i hi => ?_
      have := List.mem_range.mp hi
      simp [this]
theorem filter_take (ns : List Int) (x : Int) : ∀ m, m ≤ ns.length → ((ns.take m).filter (fun y => decide (x < y))).length = (List.range m).countP (fun i => decide (x < ns.getD i 0)) := by
  intro m
  induction m with
  | zero => intro _; rfl
  | succ m ih =>
    intro h
    rw [take_get (by omega), List.filter_append, List.length_append, ih (by omega), List.range_succ, List.countP_append]
    congr 1
    by_cases c : x < ns.getD m 0
    · rw [List.filter_cons_of_pos (by simpa using c), List.countP_cons_of_pos (by simpa using c)]; rfl
    · rw [List.filter_cons_of_neg (by simpa using c), List.countP_cons_of_neg (by simpa using c)]; rfl
theorem inv_sum (ns : List Int) : ∀ m, m ≤ ns.length → inv (ns.take m) = ((List.range m).map fun j => (List.range j).countP (fun i => decide (ns.getD j 0 < ns.getD i 0))).sum := by
  intro m
  induction m with
  | zero => intro _; rfl
  | succ m ih =>
    intro h
    rw [inv_take (by omega), ih (by omega), filter_take _ _ _ (by omega), List.range_succ, List.map_append, List.sum_append]
    simp
theorem inv_pairs (ns : List Int) : inv ns = ((List.range ns.length).map fun j => (List.range ns.length).countP (fun i => decide (i < j) && decide (ns.getD j 0 < ns.getD i 0))).sum := by
  have h := inv_sum ns ns.length (Nat.le_refl _)
  rw [List.take_length] at h
  rw [h]
  congr 1
  refine List.map_congr_left fun j hj => ?_
  have := List.mem_range.mp hj
  rw [count_below _ j _ (by omega)]
theorem getD_at {s : List Int} {i : Nat} (h : i < s.length) : s[i]? = some (s.getD i 0) := by
  rw [List.getD_eq_getElem?_getD, List.getElem?_eq_getElem h]; rfl
theorem map_getD (s : List Int) : (List.range s.length).map (fun i => s.getD i 0) = s := by
  apply List.ext_getElem?
  intro i
  by_cases h : i < s.length
  · rw [List.getElem?_map, List.getElem?_range h, getD_at h]; rfl
  · rw [List.getElem?_eq_none (by simp; omega), List.getElem?_eq_none (by omega)]
theorem shape_perm_nat {s : List Int} (h : shapeOk s) : ((List.range s.length).map (fun i => (s.getD i 0).toNat)).Perm (List.range s.length) := by
  have h1 : (s.map Int.toNat).Perm ((rangeI s.length).map Int.toNat) := h.2.map _
  have h2 : (rangeI s.length).map Int.toNat = List.range s.length := by
    unfold rangeI
    rw [List.map_map]
    conv => rhs; rw [← List.map_id (List.range s.length)]
    exact List.map_congr_left fun i _ => by simp
  rw [h2] at h1
  have h3 : (List.range s.length).map (fun i => (s.getD i 0).toNat) = s.map Int.toNat := by
    conv => rhs; rw [← map_getD s]
    rw [List.map_map]; rfl
  rw [h3]; exact h1
theorem inv_over {s : List Int} (h : shapeOk s) : inv (overL s) = inv s := by
  rw [inv_pairs (overL s), inv_pairs s, over_len]
  have P := shape_perm_nat h
  have at' : ∀ i, i < s.length → (overL s).getD (s.getD i 0).toNat 0 = (i : Int) := fun i hi => by
    have b := (shapeOk_mem h).mp (List.mem_of_getElem? (getD_at hi))
    have e : (((s.getD i 0).toNat : Nat) : Int) = s.getD i 0 := by omega
    rw [List.getD_eq_getElem?_getD, over_get (by omega), e, idxOf_of (shapeOk_row h).2 (getD_at hi)]
    rfl
  have pos : ∀ i, i < s.length → 0 ≤ s.getD i 0 := fun i hi => ((shapeOk_mem h).mp (List.mem_of_getElem? (getD_at hi))).1
  rw [perm_sum (P.map _).symm, List.map_map]
  rw [fubini (fun j i => decide (i < j) && decide (s.getD j 0 < s.getD i 0)) (List.range s.length) (List.range s.length)]
  congr 1
  refine List.map_congr_left fun i hi => ?_
  have hi' := List.mem_range.mp hi
  simp only [Function.comp]
  rw [← P.countP_eq, List.countP_map]
  refine List.countP_congr fun j hj => ?_
  have hj' := List.mem_range.mp hj
  simp only [Function.comp, at' i hi', at' j hj']
  have p1 := pos i hi'
  have p2 := pos j hj'
  simp only [Bool.and_eq_true, decide_eq_true_eq]
  omega
theorem eraseIdx_map {α β : Type} (f : α → β) : ∀ (l : List α) (i : Nat), (l.map f).eraseIdx i = (l.eraseIdx i).map f
  | [], _ => rfl
  | _ :: _, 0 => rfl
  | a :: l, i + 1 => by simp [eraseIdx_map f l i]
end Sh

set_option Elab.async false
set_option linter.all false
set_option maxRecDepth 100000
set_option maxHeartbeats 4000000
/-! M6: rows parted and exchanged: what the text computes. -/
namespace Sh
open PySem PySem.Spec PyProof.Rows L2
def pstep (b : Int → Bool) (s : List (List Int) × List Int) (x : Int) : List (List Int) × List Int := if b x = true then (s.1 ++ [s.2 ++ [x]], []) else (s.1, s.2 ++ [x])
def pfold (b : Int → Bool) (l : List Int) : List (List Int) × List Int := l.foldl (pstep b) ([], [])
def sideOf (row : List Int) (number : Int) : Int → Bool := fun x => decide (decide (x < number) = decide (row.getLastD 0 < number))
def partedL (row : List Int) (number : Int) : List (List Int) := (pfold (sideOf row number) row).1
def rotR (xs : List Int) : List Int := xs.drop (xs.length - 1) ++ xs.take (xs.length - 1)
def rotL (xs : List Int) : List Int := xs.drop 1 ++ xs.take 1
def exRow (row : List Int) (number : Int) : List Int := if 0 < row.length then ((partedL row number).map rotR).flatten else []
def exStep (row : List Int) (number : Int) : List Int := exRow row number ++ [number]
def exL (shape : List Int) : List Int := shape.foldl exStep []
theorem pfold_snoc (b : Int → Bool) (l : List Int) (x : Int) : pfold b (l ++ [x]) = pstep b (pfold b l) x := by simp [pfold, List.foldl_append]
theorem pfold_flat (b : Int → Bool) (l : List Int) : (pfold b l).1.flatten ++ (pfold b l).2 = l := by
  suffices h : ∀ (l : List Int) (s : List (List Int) × List Int), (l.foldl (pstep b) s).1.flatten ++ (l.foldl (pstep b) s).2 = s.1.flatten ++ s.2 ++ l by
    simpa [pfold] using h l ([], [])
  intro l
  induction l with
  | nil => intro s; simp
  | cons x l ih =>
    intro s
    rw [List.foldl_cons, ih]
    unfold pstep
    split <;> simp
theorem flatten_len_le {α : Type} (x : List α) : ∀ xss : List (List α), x ∈ xss → x.length ≤ xss.flatten.length
  | a :: r, h => by
    rw [List.flatten_cons, List.length_append]
    rcases List.mem_cons.mp h with e | e
    · subst e; omega
    · have := flatten_len_le x r e; omega
theorem parted_flat_len (row : List Int) (number : Int) : (partedL row number).flatten.length ≤ row.length := by
  have := congrArg List.length (pfold_flat (sideOf row number) row)
  rw [List.length_append] at this
  unfold partedL
  omega
theorem rotR_len (xs : List Int) : (rotR xs).length = xs.length := by unfold rotR; rw [List.length_append, List.length_drop, List.length_take]; omega
theorem rotL_len (xs : List Int) : (rotL xs).length = xs.length := by unfold rotL; rw [List.length_append, List.length_drop, List.length_take]; omega
theorem flat_map_len (f : List Int → List Int) (hf : ∀ xs, (f xs).length = xs.length) : ∀ xss : List (List Int), ((xss.map f).flatten).length = xss.flatten.length
  | [] => rfl
  | a :: r => by simp only [List.map_cons, List.flatten_cons, List.length_append, hf, flat_map_len f hf r]
theorem exRow_len (row : List Int) (number : Int) : (exRow row number).length ≤ row.length := by
  unfold exRow
  split
  · rw [flat_map_len _ rotR_len]; exact parted_flat_len row number
  · simp
theorem exL_len (l : List Int) : (exL l).length ≤ l.length := by
  suffices h : ∀ (l : List Int) (r : List Int), (l.foldl exStep r).length ≤ r.length + l.length by simpa [exL] using h l []
  intro l
  induction l with
  | nil => intro r; simp
  | cons x l ih =>
    intro r
    have h1 := ih (exStep r x)
    have h2 := exRow_len r x
    have h3 : (exStep r x).length = (exRow r x).length + 1 := by simp [exStep]
    rw [List.foldl_cons, List.length_cons]
    omega
theorem exL_snoc (l : List Int) (x : Int) : exL (l ++ [x]) = exStep (exL l) x := by simp [exL, List.foldl_append]
/-! ### cuts -/
theorem cut_last (xs : List V) : cutV xs (some (-1)) none = xs.drop (xs.length - 1) := by
  unfold cutV
  have e : HT.sIx xs.length 0 (some (-1)) = xs.length - 1 := by
    unfold HT.sIx
    simp only []
    split <;> omega
  rw [e, HT.sIx_none, List.take_of_length_le (by simp)]
theorem cut_init (xs : List V) : cutV xs none (some (-1)) = xs.take (xs.length - 1) := by
  unfold cutV
  have e : HT.sIx xs.length xs.length (some (-1)) = xs.length - 1 := by
    unfold HT.sIx
    simp only []
    split <;> omega
  rw [e, HT.sIx_none, List.drop_zero, Nat.sub_zero]
theorem cut_to (xs : List V) (k : Nat) : cutV xs none (some (k : Int)) = xs.take k := by
  unfold cutV
  rw [HT.sIx_nat, HT.sIx_none, List.drop_zero, Nat.sub_zero]
  by_cases h : k ≤ xs.length
  · rw [Nat.min_eq_left h]
  · rw [Nat.min_eq_right (by omega), List.take_of_length_le (Nat.le_refl _), List.take_of_length_le (by omega)]
theorem cut_mid (xs : List V) (i j : Nat) (hj : j ≤ xs.length) : cutV xs (some (i : Int)) (some (j : Int)) = (xs.take j).drop i := by
  unfold cutV
  rw [HT.sIx_nat, HT.sIx_nat, Nat.min_eq_left hj, List.drop_take]
  by_cases h : i ≤ xs.length
  · rw [Nat.min_eq_left h]
  · rw [Nat.min_eq_right (by omega)]
    rw [List.drop_eq_nil_of_le (Nat.le_refl _), List.drop_eq_nil_of_le (by omega : xs.length ≤ i)]
    simp
/-! ### a list of lists, each of its own -/
structure Own2 (H0 H : Hp) (qs : List Addr) (xss : List (List Int)) : Prop where
  at_ : Paired (fun q xs => H q = some (.lst (xs.map V.int))) qs xss
  nd : qs.Nodup
  new : ∀ q ∈ qs, H0 q = none
theorem paired_snoc {α β : Type} {R : α → β → Prop} : ∀ {xs : List α} {ys : List β} {x : α} {y : β}, Paired R xs ys → R x y → Paired R (xs ++ [x]) (ys ++ [y])
  | _, _, _, _, .nil, r => .cons r .nil
  | _, _, _, _, .cons a t, r => .cons a (paired_snoc t r)
theorem paired_imp {α β : Type} {R S : α → β → Prop} : ∀ {xs : List α} {ys : List β}, Paired R xs ys → (∀ x y, x ∈ xs → R x y → S x y) → Paired S xs ys
  | _, _, .nil, _ => .nil
  | _, _, .cons a t, f => .cons (f _ _ (by simp) a) (paired_imp t fun x y hx r => f x y (by simp [hx]) r)
theorem paired_get {α β : Type} {R : α → β → Prop} : ∀ {xs : List α} {ys : List β} {i : Nat} {x : α}, Paired R xs ys → xs[i]? = some x → ∃ y, ys[i]? = some y ∧ R x y
  | _, _, _, _, .nil, h => by simp at h
  | _, _, 0, _, .cons r _, h => by simp at h; subst h; exact ⟨_, rfl, r⟩
  | _, _, i + 1, x, .cons _ t, h => by
    obtain ⟨y, h1, h2⟩ := paired_get (i := i) (x := x) t (by simpa using h)
    exact ⟨y, by simpa using h1, h2⟩
theorem paired_len {α β : Type} {R : α → β → Prop} : ∀ {xs : List α} {ys : List β}, Paired R xs ys → xs.length = ys.length
  | _, _, .nil => rfl
  | _, _, .cons _ t => by simp [paired_len t]
theorem paired_at {α β : Type} {R : α → β → Prop} : ∀ {xs : List α} {ys : List β} {x : α}, Paired R xs ys → x ∈ xs → ∃ y, R x y
  | _, _, _, .nil, h => by simp at h
  | _, _, x, .cons r t, h => by
    rcases List.mem_cons.mp h with e | e
    · subst e; exact ⟨_, r⟩
    · exact paired_at t e
theorem Own2.mut {H0 H : Hp} {qs : List Addr} {xss : List (List Int)} {r : Addr} {o : HO} (h : Own2 H0 H qs xss) (hr : r ∉ qs) : Own2 H0 (upd H r o) qs xss :=
  ⟨paired_imp h.at_ fun q xs hq e => by rw [upd_ne (fun z : q = r => hr (z ▸ hq))]; exact e, h.nd, h.new⟩
theorem Own2.same {H0 H H' : Hp} {qs : List Addr} {xss : List (List Int)} (h : Own2 H0 H qs xss) (s : Same H H') : Own2 H0 H' qs xss :=
  ⟨paired_imp h.at_ fun q xs hq e => s _ _ e, h.nd, h.new⟩
theorem Own2.there {H0 H : Hp} {qs : List Addr} {xss : List (List Int)} (h : Own2 H0 H qs xss) {r : Addr} (hr : H r = none) : r ∉ qs := fun z => by
  obtain ⟨y, e⟩ := paired_at h.at_ z
  rw [hr] at e; cases e
theorem Own2.snoc {H0 H : Hp} {qs : List Addr} {xss : List (List Int)} {r : Addr} {xs : List Int} (h : Own2 H0 H qs xss) (hr : r ∉ qs) (h0 : H0 r = none) (e : H r = some (.lst (xs.map V.int))) : Own2 H0 H (qs ++ [r]) (xss ++ [xs]) :=
  ⟨paired_snoc h.at_ e, by
    rw [List.nodup_append]
    refine ⟨h.nd, by simp, fun a ha b hb z => hr ?_⟩
    have hb' : b = r := by simpa using hb
    rw [← hb', ← z]; exact ha, fun q hq => by
    rcases List.mem_append.mp hq with z | z
    · exact h.new q z
    · have hz : q = r := by simpa using z
      rw [hz]; exact h0⟩
theorem snoc_ind {α : Type} {P : List α → Prop} (h0 : P []) (h : ∀ l x, P l → P (l ++ [x])) : ∀ l, P l := by
  intro l
  rw [← List.reverse_reverse l]
  induction l.reverse with
  | nil => exact h0
  | cons a r ih => rw [List.reverse_cons]; exact h _ _ ih
theorem pfold_cur_len (b : Int → Bool) (l : List Int) : (pfold b l).2.length ≤ l.length := by
  have := congrArg List.length (pfold_flat b l)
  rw [List.length_append] at this; omega
theorem pfold_ne (b : Int → Bool) : ∀ l : List Int, ∀ p ∈ (pfold b l).1, p ≠ [] := by
  refine snoc_ind ?_ ?_
  · intro p hp; simp [pfold] at hp
  · intro l x ih p hp
    rw [pfold_snoc] at hp
    unfold pstep at hp
    split at hp
    · rcases List.mem_append.mp hp with z | z
      · exact ih p z
      · have hz : p = (pfold b l).2 ++ [x] := by simpa using z
        subst hz; simp
    · exact ih p hp
theorem pfold_count (b : Int → Bool) (l : List Int) : (pfold b l).1.length ≤ l.length := by
  have h : ∀ xss : List (List Int), (∀ p ∈ xss, p ≠ []) → xss.length ≤ xss.flatten.length := by
    intro xss
    induction xss with
    | nil => intro _; simp
    | cons a r ih =>
      intro hh
      have h1 := ih fun p hp => hh p (by simp [hp])
      have h2 : 0 < a.length := by
        have := hh a (by simp)
        exact List.length_pos_iff.mpr this
      simp only [List.length_cons, List.flatten_cons, List.length_append]; omega
  have h1 := h _ (pfold_ne b l)
  have := congrArg List.length (pfold_flat b l)
  rw [List.length_append] at this; omega
theorem drop_of_append {α : Type} {a b l : List α} (h : a ++ b = l) : l.drop a.length = b := by rw [← h, List.drop_left]
end Sh

set_option Elab.async false
set_option linter.all false
set_option maxRecDepth 100000
set_option maxHeartbeats 4000000
/-! M10: all shapes of a size: plain Lean. -/
namespace Sh
open PySem PySem.Spec PyProof.Rows L2
def insAt (k : Nat) (row : List Int) (p : Nat) : List Int := row.take p ++ [(k : Int)] ++ row.drop p
def insAll (k : Nat) (row : List Int) : List (List Int) := (List.range (k + 1)).map (insAt k row)
def allU : Nat → List (List Int)
  | 0 => [[]]
  | k + 1 => ((allU k).map (insAll k)).flatten
theorem allU_len : ∀ k, k ≤ 6 → (allU k).length ≤ 720 := by decide +kernel
theorem insAt_len (k : Nat) (row : List Int) (p : Nat) : (insAt k row p).length = row.length + 1 := by
  unfold insAt
  rw [List.length_append, List.length_append, List.length_take, List.length_drop, List.length_singleton]; omega
theorem allU_mem : ∀ (k : Nat) (x : List Int), x ∈ allU k → x.length = k
  | 0, x, h => by have : x = [] := by simpa [allU] using h
                  subst this; rfl
  | k + 1, x, h => by
    rw [allU] at h
    obtain ⟨l, hl, hx⟩ := List.mem_flatten.mp h
    obtain ⟨r, hr, rfl⟩ := List.mem_map.mp hl
    obtain ⟨p, hp, rfl⟩ := List.mem_map.mp hx
    rw [insAt_len, allU_mem k r hr]
theorem flat_prefix_len {α β : Type} (f : α → List β) (l : List α) (i : Nat) : (((l.take i).map f).flatten).length ≤ ((l.map f).flatten).length := by
  conv => rhs; rw [← List.take_append_drop i l]
  rw [List.map_append, List.flatten_append, List.length_append]; omega
/-! ### lists of lists, by address and ints -/
def LLs (H : Hp) (bs : List (Addr × List Int)) : Prop := ∀ b ∈ bs, H b.1 = some (.lst (b.2.map V.int))
theorem LLs.same {H H' : Hp} {bs : List (Addr × List Int)} (h : LLs H bs) (s : Same H H') : LLs H' bs := fun b hb => s _ _ (h b hb)
theorem LLs.mut {H : Hp} {bs : List (Addr × List Int)} {r : Addr} {o : HO} (h : LLs H bs) (hr : ∀ b ∈ bs, b.1 ≠ r) : LLs (upd H r o) bs := fun b hb => by rw [upd_ne (hr b hb)]; exact h b hb
theorem LLs.snoc {H : Hp} {bs : List (Addr × List Int)} {r : Addr} {xs : List Int} (h : LLs H bs) (e : H r = some (.lst (xs.map V.int))) : LLs H (bs ++ [(r, xs)]) := fun b hb => by
  rcases List.mem_append.mp hb with z | z
  · exact h b z
  · have e2 : b = (r, xs) := by simpa using z
    subst e2; exact e
theorem LLs.ne {H : Hp} {bs : List (Addr × List Int)} {r : Addr} (h : LLs H bs) (hr : H r = none) : ∀ b ∈ bs, b.1 ≠ r := fun b hb z => by
  have := h b hb
  rw [z, hr] at this; cases this
theorem LLs.dp {K : PySem.W.Frag} {H : Hp} {bs : List (Addr × List Int)} (h : LLs H bs) : DpAll K H (bs.map fun b => V.ref b.1) ((bs.map Prod.snd).map dInts) := by
  induction bs with
  | nil => exact .nil
  | cons b bs ih => exact .cons (dp_ints (SqL.of (h b (by simp)))) (ih fun c hc => h c (by simp [hc]))
theorem dp_LLs {K : PySem.W.Frag} {H : Hp} {a : Addr} {bs : List (Addr × List Int)} (h : LLs H bs) (hs : SqL K H a (bs.map fun b => V.ref b.1)) : Dp K H (.ref a) (dLL (bs.map Prod.snd)) := .lst hs h.dp
theorem snd_get {bs : List (Addr × List Int)} {xss : List (List Int)} (e : bs.map Prod.snd = xss) {i : Nat} {b : Addr × List Int} (h : bs[i]? = some b) : xss[i]? = some b.2 := by
  rw [← e, List.getElem?_map, h]; rfl
end Sh

set_option Elab.async false
set_option linter.all false
set_option maxRecDepth 100000
set_option maxHeartbeats 4000000
/-! M12: places at which an order stands: plain Lean. -/
namespace Sh
open PySem PySem.Spec PyProof.Rows L2
abbrev nV : Nat → V := fun i => V.int (i : Int)
def sel (row : List Int) (t : List Nat) : List Int := t.map fun i => row.getD i 0
def fitsB (row order : List Int) (t : List Nat) : Bool := decide (rk (sel row t) = rk (order.take t.length))
def startN (t : List Nat) : Nat := if t = [] then 0 else t.getLastD 0 + 1
def growN (n : Nat) (t : List Nat) : List (List Nat) := (List.range (n - startN t)).map fun i => t ++ [startN t + i]
def grownL (row order : List Int) (t : List Nat) : List (List Nat) := (growN row.length t).filter (fitsB row order)
def tupsN (n : Nat) : Nat → List (List Nat)
  | 0 => [[]]
  | s + 1 => ((tupsN n s).map (growN n)).flatten
def allP (row order : List Int) : Nat → List (List Nat)
  | 0 => [[]]
  | s + 1 => ((allP row order s).map (grownL row order)).flatten
def placesL (row order : List Int) : List (List Nat) := (tupsN row.length order.length).filter (fitsB row order)
/-! ### ranks tell how numbers stand to one another, and nothing else -/
theorem lessN_le {ns : List Int} {x y : Int} (h : x ≤ y) : lessN ns x ≤ lessN ns y := by
  unfold lessN
  have := filter_len_le (p := fun z => decide (z < y)) (q := fun z => decide (z < x)) (fun z hz => by simp at hz ⊢; omega) ns
  omega
theorem lessN_iff {ns : List Int} {x y : Int} (hx : x ∈ ns) : lessN ns x < lessN ns y ↔ x < y := by
  constructor
  · intro h
    by_cases c : x < y
    · exact c
    · have := lessN_le (ns := ns) (show y ≤ x by omega); omega
  · exact lessN_lt hx
theorem rk_get {a : List Int} {i : Nat} (h : i < a.length) : (rk a).getD i 0 = lessN a (a.getD i 0) := by
  rw [List.getD_eq_getElem?_getD, rk, List.getElem?_map, getD_at h]; rfl
theorem getD_mem {a : List Int} {i : Nat} (h : i < a.length) : a.getD i 0 ∈ a := List.mem_of_getElem? (getD_at h)
def iso (a b : List Int) : Prop := a.length = b.length ∧ ∀ i j, i < a.length → j < a.length → (a.getD i 0 < a.getD j 0 ↔ b.getD i 0 < b.getD j 0)
theorem lessN_count (a : List Int) (x : Int) : lessN a x = (((List.range a.length).countP fun i => decide (a.getD i 0 < x) : Nat) : Int) := by
  unfold lessN
  conv => lhs; rw [← map_getD a]
  rw [← List.countP_eq_length_filter, List.countP_map]
  rfl
theorem list_ext_getD {a b : List Int} (hl : a.length = b.length) (h : ∀ i, i < a.length → a.getD i 0 = b.getD i 0) : a = b := by
  rw [← map_getD a, ← map_getD b, ← hl]
  exact List.map_congr_left fun i hi => h i (List.mem_range.mp hi)
theorem rk_iso {a b : List Int} : rk a = rk b ↔ iso a b := by
  constructor
  · intro e
    have hl : a.length = b.length := by have := congrArg List.length e; rwa [rk_len, rk_len] at this
    refine ⟨hl, fun i j hi hj => ?_⟩
    rw [← lessN_iff (getD_mem hi), ← lessN_iff (getD_mem (hl ▸ hi)), ← rk_get hi, ← rk_get hj, ← rk_get (hl ▸ hi), ← rk_get (hl ▸ hj), e]
  · intro h
    refine list_ext_getD (by rw [rk_len, rk_len]; exact h.1) fun i hi => ?_
    rw [rk_len] at hi
    rw [rk_get hi, rk_get (h.1 ▸ hi), lessN_count, lessN_count, ← h.1]
    congr 1
    refine List.countP_congr fun j hj => ?_
    have := h.2 j i (List.mem_range.mp hj) hi
    simp only [decide_eq_true_eq]
    exact this
theorem getD_append_left {α : Type} [Inhabited α] {a b : List Int} {i : Nat} (h : i < a.length) : (a ++ b).getD i 0 = a.getD i 0 := by
  simp only [List.getD_eq_getElem?_getD]
  rw [List.getElem?_append_left h]
theorem getD_take {a : List Int} {n i : Nat} (h : i < n) : (a.take n).getD i 0 = a.getD i 0 := by
  simp only [List.getD_eq_getElem?_getD]
  rw [List.getElem?_take_of_lt h]
theorem fits_pre {row order : List Int} {t : List Nat} {p : Nat} (ht : t.length < order.length) (h : fitsB row order (t ++ [p]) = true) : fitsB row order t = true := by
  have h1 := rk_iso.mp (of_decide_eq_true h)
  refine decide_eq_true (rk_iso.mpr ⟨by simp [sel]; omega, fun i j hi hj => ?_⟩)
  have l1 : (sel row t).length = t.length := by simp [sel]
  have l2 : (sel row (t ++ [p])).length = t.length + 1 := by simp [sel]
  have es : sel row (t ++ [p]) = sel row t ++ [row.getD p 0] := by simp [sel]
  have := h1.2 i j (by omega) (by omega)
  rw [es, getD_append_left (α := Nat) hi, getD_append_left (α := Nat) hj, getD_take (by simp; omega), getD_take (by simp; omega)] at this
  rw [getD_take (by omega), getD_take (by omega)]
  exact this
theorem fits_nil (row order : List Int) : fitsB row order [] = true := by
  unfold fitsB sel
  simp
theorem growN_len {n : Nat} {t x : List Nat} (h : x ∈ growN n t) : ∃ p, x = t ++ [p] ∧ startN t ≤ p ∧ p < n := by
  obtain ⟨i, hi, rfl⟩ := List.mem_map.mp h
  have := List.mem_range.mp hi
  exact ⟨_, rfl, by omega, by omega⟩
theorem tupsN_mem (n : Nat) : ∀ (s : Nat) (t : List Nat), t ∈ tupsN n s → t.length = s ∧ (∀ i ∈ t, i < n)
  | 0, t, h => by
    have : t = [] := by simpa [tupsN] using h
    subst this; exact ⟨rfl, fun i hi => by simp at hi⟩
  | s + 1, t, h => by
    obtain ⟨l, hl, ht⟩ := List.mem_flatten.mp h
    obtain ⟨r, hr, rfl⟩ := List.mem_map.mp hl
    obtain ⟨p, rfl, _, hp⟩ := growN_len ht
    obtain ⟨h1, h2⟩ := tupsN_mem n s r hr
    refine ⟨by simp [h1], fun i hi => ?_⟩
    rcases List.mem_append.mp hi with z | z
    · exact h2 i z
    · have : i = p := by simpa using z
      omega
theorem filter_flat {α β : Type} (f : α → List β) (p : β → Bool) (g : α → Bool) : ∀ l : List α, (∀ x ∈ l, ∀ y ∈ f x, p y = true → g x = true) → ((l.map f).flatten).filter p = (((l.filter g).map fun x => (f x).filter p)).flatten
  | [], _ => rfl
  | x :: l, h => by
    have ih := filter_flat f p g l fun y hy => h y (by simp [hy])
    rw [List.map_cons, List.flatten_cons, List.filter_append, ih]
    by_cases c : g x = true
    · rw [List.filter_cons_of_pos c, List.map_cons, List.flatten_cons]
    · rw [List.filter_cons_of_neg c]
      have : (f x).filter p = [] := List.filter_eq_nil_iff.mpr fun y hy hp => c (h x (by simp) y hy hp)
      rw [this, List.nil_append]
theorem allP_eq (row order : List Int) : ∀ s, s ≤ order.length → allP row order s = (tupsN row.length s).filter (fitsB row order)
  | 0, _ => by
    show [[]] = List.filter (fitsB row order) [[]]
    rw [List.filter_cons_of_pos (fits_nil row order)]
    rfl
  | s + 1, h => by
    have ih := allP_eq row order s (by omega)
    rw [allP, ih, tupsN, filter_flat (growN row.length) (fitsB row order) (fitsB row order)]
    · rfl
    · intro t ht y hy hp
      obtain ⟨p, rfl, _, _⟩ := growN_len hy
      exact fits_pre (by rw [(tupsN_mem _ _ _ ht).1]; omega) hp
theorem tupsN_few : ∀ n, n ≤ 12 → ∀ s, s ≤ 4 → (tupsN n s).length ≤ 1000 := by decide +kernel
theorem fitsB_shape {row order : List Int} (h : shapeOk order) {t : List Nat} (ht : t.length = order.length) : fitsB row order t = decide (rk (sel row t) = order) := by
  unfold fitsB
  rw [ht, List.take_length, rk_self h]
theorem placesL_len {row order : List Int} (h1 : row.length ≤ 12) (h2 : order.length ≤ 4) : (placesL row order).length ≤ 1000 := by
  have h3 := List.length_filter_le (fitsB row order) (tupsN row.length order.length)
  have h4 := tupsN_few _ h1 _ h2
  unfold placesL; omega
theorem atI_nV {t : List Nat} {i : Nat} (h : i < t.length) : atI (t.map nV) (i : Int) = some (nV (t.getD i 0)) := by
  refine atI_nat ?_
  rw [List.getElem?_map, List.getD_eq_getElem?_getD, List.getElem?_eq_getElem h]; rfl
theorem atI_lastN {t : List Nat} (h : t ≠ []) : atI (t.map nV) (-1) = some (nV (t.getLastD 0)) := by
  obtain ⟨r, z, rfl⟩ : ∃ r z, t = r ++ [z] := ⟨t.dropLast, t.getLast h, (List.dropLast_concat_getLast _).symm⟩
  rw [List.map_append, List.getLastD_concat]
  exact atI_last _ _
theorem last_mem {t : List Nat} (h : t ≠ []) : t.getLastD 0 ∈ t := by
  obtain ⟨r, z, rfl⟩ : ∃ r z, t = r ++ [z] := ⟨t.dropLast, t.getLast h, (List.dropLast_concat_getLast _).symm⟩
  rw [List.getLastD_concat]; simp
theorem nV_ints (t : List Nat) : t.map nV = (t.map fun i : Nat => (i : Int)).map V.int := by rw [List.map_map]; rfl
/-! ### tuples of places as data -/
theorem isD_nat : IsD (fun i : Nat => PyData.int (i : Int)) 1 := ⟨fun x y => by simp [PyData.eqv, Bool.beq_eq_decide_eq, Int.ofNat_inj], fun x => by simp [PyData.canLay0], fun x => by simp [PyData.depth]⟩
abbrev dTupN : List Nat → PyData := fun t => .tuple (t.map fun i : Nat => .int (i : Int))
abbrev dLTN : List (List Nat) → PyData := fun ts => .list (ts.map dTupN)
theorem isD_tupN : IsD dTupN 2 := isD_tup isD_nat
theorem isD_LTN : IsD dLTN 3 := isD_list isD_tupN
section
variable {K : PySem.W.Frag} {H : Hp}
theorem dpAll_nat : ∀ t : List Nat, DpAll K H (t.map nV) (t.map fun i : Nat => .int (i : Int))
  | [] => .nil
  | n :: ns => .cons (.int n) (dpAll_nat ns)
theorem dp_tupN {a : Addr} {t : List Nat} (h : SqT K H a (t.map nV)) : Dp K H (.ref a) (dTupN t) := .tup h (dpAll_nat t)
theorem dp_LTN {a : Addr} {bs : List (Addr × List Nat)} (h : ∀ b ∈ bs, H b.1 = some (.tup (b.2.map nV))) (hs : SqL K H a (bs.map fun b => V.ref b.1)) : Dp K H (.ref a) (dLTN (bs.map Prod.snd)) := by
  refine .lst hs ?_
  clear hs
  induction bs with
  | nil => exact .nil
  | cons b bs ih => exact .cons (dp_tupN (SqT.of (h b (by simp)))) (ih fun c hc => h c (by simp [hc]))
end
/-! ### the first places, deep first -/
def dfs (row order : List Int) : Nat → List Nat → Option (List Nat)
  | 0, _ => none
  | d + 1, t => if t.length = order.length then some t else (grownL row order t).findSome? (dfs row order d)
def tupsF (n : Nat) : Nat → List Nat → List (List Nat)
  | 0, t => [t]
  | s + 1, t => ((growN n t).map (tupsF n s)).flatten
theorem flatten_map_map {α β γ : Type} (f : α → List β) (g : β → List γ) (l : List α) : (((l.map f).flatten).map g).flatten = (l.map fun x => ((f x).map g).flatten).flatten := by
  induction l with
  | nil => rfl
  | cons a l ih => simp only [List.map_cons, List.flatten_cons, List.map_append, List.flatten_append, ih]
theorem flat_single {α : Type} : ∀ l : List α, (l.map fun x => [x]).flatten = l
  | [] => rfl
  | a :: l => by rw [List.map_cons, List.flatten_cons, flat_single l]; rfl
theorem tupsF_succ (n : Nat) : ∀ (s : Nat) (t : List Nat), tupsF n (s + 1) t = ((tupsF n s t).map (growN n)).flatten
  | 0, t => by
    show ((growN n t).map fun x => [x]).flatten = (([t]).map (growN n)).flatten
    rw [flat_single]; simp
  | s + 1, t => by
    rw [tupsF, show tupsF n (s + 1) t = ((growN n t).map (tupsF n s)).flatten from rfl, flatten_map_map]
    congr 1
    exact List.map_congr_left fun x _ => tupsF_succ n s x
theorem tupsN_F (n : Nat) : ∀ s, tupsN n s = tupsF n s []
  | 0 => rfl
  | s + 1 => by rw [tupsF_succ, ← tupsN_F n s, tupsN]
theorem head_flat {α β : Type} (f : α → List β) : ∀ l : List α, ((l.map f).flatten).head? = l.findSome? fun x => (f x).head?
  | [] => rfl
  | x :: l => by
    rw [List.map_cons, List.flatten_cons, List.findSome?_cons, List.head?_append, head_flat f l]
    cases (f x).head? <;> rfl
theorem findSome_congr {α β : Type} {f g : α → Option β} : ∀ {l : List α}, (∀ x ∈ l, f x = g x) → l.findSome? f = l.findSome? g
  | [], _ => rfl
  | x :: l, h => by
    rw [List.findSome?_cons, List.findSome?_cons, h x (by simp), findSome_congr fun y hy => h y (by simp [hy])]
theorem tupsF_pre {row order : List Int} : ∀ (s : Nat) (t y : List Nat), t.length + s ≤ order.length → y ∈ tupsF row.length s t → fitsB row order y = true → fitsB row order t = true
  | 0, t, y, _, hy, h => by
    have : y = t := by simpa [tupsF] using hy
    rw [← this]; exact h
  | s + 1, t, y, hl, hy, h => by
    obtain ⟨l, hl', hy'⟩ := List.mem_flatten.mp hy
    obtain ⟨r, hr, rfl⟩ := List.mem_map.mp hl'
    obtain ⟨p, rfl, _, _⟩ := growN_len hr
    exact fits_pre (by omega) (tupsF_pre s _ y (by simp; omega) hy' h)
theorem dfs_eq (row order : List Int) : ∀ (s d : Nat) (t : List Nat), t.length + s = order.length → s < d → fitsB row order t = true → dfs row order d t = ((tupsF row.length s t).filter (fitsB row order)).head?
  | 0, d + 1, t, hl, _, hf => by
    rw [dfs, if_pos (by omega), tupsF, List.filter_cons_of_pos hf]; rfl
  | s + 1, d + 1, t, hl, hd, hf => by
    rw [dfs, if_neg (by omega), tupsF, filter_flat (tupsF row.length s) (fitsB row order) (fitsB row order) _ (fun x hx y hy hp => by
      obtain ⟨p, rfl, _, _⟩ := growN_len hx
      exact tupsF_pre s _ y (by simp; omega) hy hp), head_flat]
    refine findSome_congr fun x hx => ?_
    have hx' := List.mem_filter.mp hx
    obtain ⟨p, rfl, _, _⟩ := growN_len hx'.1
    exact dfs_eq row order s d _ (by simp; omega) (by omega) hx'.2
theorem dfs_first {row order : List Int} {d : Nat} (h : order.length < d) : dfs row order d [] = (placesL row order).head? := by
  rw [dfs_eq row order order.length d [] (by simp) h (fits_nil row order), ← tupsN_F]; rfl
theorem findSome_at {α β : Type} {f : α → Option β} {l : List α} {i : Nat} {x : α} {r : β} (hno : (l.take i).findSome? f = none) (hx : l[i]? = some x) (h : f x = some r) : l.findSome? f = some r := by
  conv => lhs; rw [← List.take_append_drop (i + 1) l]
  rw [take_more hx, List.findSome?_append, List.findSome?_append, hno]; simp [h]
theorem findSome_step {α β : Type} {f : α → Option β} {l : List α} {i : Nat} {x : α} (hno : (l.take i).findSome? f = none) (hx : l[i]? = some x) (h : f x = none) : (l.take (i + 1)).findSome? f = none := by
  rw [take_more hx, List.findSome?_append, hno]; simp [h]
theorem dp_two {K : PySem.W.Frag} {H : Hp} {a p q : Addr} {xs ys : List Int} (h : H a = some (.lst [V.ref p, V.ref q])) (h1 : SqL K H p (xs.map V.int)) (h2 : SqL K H q (ys.map V.int)) : Dp K H (.ref a) (dLL [xs, ys]) := .lst (SqL.of h) (.cons (dp_ints h1) (.cons (dp_ints h2) .nil))
theorem placesL_filter {row order : List Int} (h : shapeOk order) : placesL row order = (tupsN row.length order.length).filter (fun t => decide (rk (sel row t) = order)) := by
  unfold placesL
  exact List.filter_congr fun t ht => fitsB_shape h (tupsN_mem _ _ _ ht).1
end Sh

set_option Elab.async false
set_option linter.all false
set_option maxRecDepth 100000
set_option maxHeartbeats 4000000
/-! M13: the law's own way to the first places: plain Lean. -/
namespace Sh
open PySem PySem.Spec PyProof.Rows L2
def lowL (row : List Int) (t : List Nat) (p : Nat) : List Bool := t.map fun k => decide (row.getD k 0 < row.getD p 0)
def dueL (order : List Int) (m : Nat) : List Bool := (List.range m).map fun k => decide (order.getD k 0 < order.getD m 0)
def P2 (row order : List Int) (t : List Nat) (p : Nat) : Bool := decide (lowL row t p = dueL order t.length)
def dfs2 (row order : List Int) : Nat → List Nat → Option (List Nat)
  | 0, _ => none
  | d + 1, t => if t.length = order.length then some t else (List.range (row.length - startN t)).findSome? fun i => if P2 row order t (startN t + i) = true then dfs2 row order d (t ++ [startN t + i]) else none
theorem getD_append_at {a : List Int} {x : Int} : (a ++ [x]).getD a.length 0 = x := by
  simp only [List.getD_eq_getElem?_getD]
  rw [List.getElem?_append_right (Nat.le_refl _)]
  simp
theorem nodup_getD {l : List Int} (h : l.Nodup) {i j : Nat} (hi : i < l.length) (hj : j < l.length) (e : l.getD i 0 = l.getD j 0) : i = j := by
  have h1 := getD_at hi
  have h2 := getD_at hj
  rw [e, ← h2] at h1
  exact nd_ix h (h1.trans h2) h2
theorem sel_getD {row : List Int} {t : List Nat} {i : Nat} (h : i < t.length) : (sel row t).getD i 0 = row.getD (t.getD i 0) 0 := by
  unfold sel
  rw [List.getD_eq_getElem?_getD, List.getElem?_map, List.getD_eq_getElem?_getD (l := t), List.getElem?_eq_getElem h]
  rfl
theorem getD_memN {t : List Nat} {i : Nat} (h : i < t.length) : t.getD i 0 ∈ t := by
  rw [List.getD_eq_getElem?_getD, List.getElem?_eq_getElem h]
  exact List.getElem_mem h
theorem P2_iff {row order : List Int} {t : List Nat} {p : Nat} : P2 row order t p = true ↔ ∀ i, i < t.length → (row.getD (t.getD i 0) 0 < row.getD p 0 ↔ order.getD i 0 < order.getD t.length 0) := by
  unfold P2 lowL dueL
  rw [decide_eq_true_iff]
  constructor
  · intro e i hi
    have := congrArg (fun l : List Bool => l[i]?) e
    simp only [List.getElem?_map, List.getElem?_range hi] at this
    rw [List.getElem?_eq_getElem hi] at this
    have h2 := decide_eq_decide.mp (Option.some.inj this)
    rw [List.getD_eq_getElem?_getD (l := t), List.getElem?_eq_getElem hi]
    exact h2
  · intro h
    apply List.ext_getElem?
    intro i
    by_cases hi : i < t.length
    · simp only [List.getElem?_map, List.getElem?_range hi]
      rw [List.getElem?_eq_getElem hi]
      have := h i hi
      rw [List.getD_eq_getElem?_getD (l := t), List.getElem?_eq_getElem hi] at this
      exact congrArg some (decide_eq_decide.mpr this)
    · rw [List.getElem?_eq_none (by simp; omega), List.getElem?_eq_none (by simp; omega)]
theorem fits_step {row order : List Int} (hr : row.Nodup) (ho : order.Nodup) {t : List Nat} {p : Nat} (ht : t.length < order.length) (hb : ∀ i ∈ t, i < p) (hp : p < row.length) (hf : fitsB row order t = true) :
    fitsB row order (t ++ [p]) = P2 row order t p := by
  have h1 := rk_iso.mp (of_decide_eq_true hf)
  have l1 : (sel row t).length = t.length := by simp [sel]
  have es : sel row (t ++ [p]) = sel row t ++ [row.getD p 0] := by simp [sel]
  have hl : (sel row t ++ [row.getD p 0]).length = t.length + 1 := by rw [List.length_append, l1]; rfl
  have hl2 : (order.take (t ++ [p]).length).length = t.length + 1 := by simp; omega
  have last : (sel row t ++ [row.getD p 0]).getD t.length 0 = row.getD p 0 := by rw [← l1]; exact getD_append_at
  have old : ∀ i, i < t.length → (sel row t ++ [row.getD p 0]).getD i 0 = row.getD (t.getD i 0) 0 := fun i hi => by rw [getD_append_left (α := Nat) (by omega), sel_getD hi]
  have oo : ∀ i, i < t.length + 1 → (order.take (t ++ [p]).length).getD i 0 = order.getD i 0 := fun i hi => getD_take (by simp; omega)
  have key : iso (sel row (t ++ [p])) (order.take (t ++ [p]).length) ↔ P2 row order t p = true := by
    rw [P2_iff, es]
    constructor
    · intro h i hi
      have := h.2 i t.length (by omega) (by omega)
      rw [old i hi, last, oo i (by omega), oo _ (by omega)] at this
      exact this
    · intro h
      refine ⟨by omega, fun i j hi hj => ?_⟩
      rw [hl] at hi hj
      rw [oo i hi, oo j hj]
      by_cases ci : i < t.length
      · by_cases cj : j < t.length
        · rw [old i ci, old j cj]
          have := h1.2 i j (by omega) (by omega)
          rw [sel_getD ci, sel_getD cj, getD_take (by omega), getD_take (by omega)] at this
          exact this
        · have ej : j = t.length := by omega
          subst ej
          rw [old i ci, last]
          exact h i ci
      · have ei : i = t.length := by omega
        subst ei
        by_cases cj : j < t.length
        · rw [old j cj, last]
          have a1 := h j cj
          have m1 := hb _ (getD_memN cj)
          have a2 : row.getD (t.getD j 0) 0 ≠ row.getD p 0 := fun e => by have := nodup_getD hr (by omega) hp e; omega
          have a3 : order.getD j 0 ≠ order.getD t.length 0 := fun e => by have := nodup_getD ho (by omega) ht e; omega
          omega
        · have ej : j = t.length := by omega
          subst ej
          omega
  unfold fitsB
  by_cases c : P2 row order t p = true
  · rw [c, decide_eq_true (rk_iso.mpr (key.mpr c))]
  · rw [decide_eq_false (fun z => c (key.mp (rk_iso.mp z)))]
    simpa using c
theorem findSome_map {α β γ : Type} (f : α → β) (g : β → Option γ) : ∀ l : List α, (l.map f).findSome? g = l.findSome? fun x => g (f x)
  | [] => rfl
  | x :: l => by rw [List.map_cons, List.findSome?_cons, List.findSome?_cons, findSome_map f g l]
theorem findSome_filter {α β : Type} (p : α → Bool) (g : α → Option β) : ∀ l : List α, (l.filter p).findSome? g = l.findSome? fun x => if p x = true then g x else none
  | [] => rfl
  | x :: l => by
    rw [List.findSome?_cons]
    by_cases c : p x = true
    · rw [List.filter_cons_of_pos c, List.findSome?_cons, if_pos c, findSome_filter p g l]
    · rw [List.filter_cons_of_neg c, if_neg c, findSome_filter p g l]
theorem startN_snoc (t : List Nat) (p : Nat) : startN (t ++ [p]) = p + 1 := by
  unfold startN
  rw [if_neg (by simp), List.getLastD_concat]
theorem dfs2_eq {row order : List Int} (hr : row.Nodup) (ho : order.Nodup) : ∀ (d : Nat) (t : List Nat), t.length ≤ order.length → order.length < t.length + d → (∀ i ∈ t, i < startN t) → fitsB row order t = true → dfs2 row order d t = dfs row order d t
  | 0, _, _, _, _, _ => rfl
  | d + 1, t, h1, h2, hb, hf => by
    rw [dfs2, dfs]
    by_cases c : t.length = order.length
    · rw [if_pos c, if_pos c]
    · rw [if_neg c, if_neg c, grownL, growN, findSome_filter, findSome_map]
      refine findSome_congr fun i hi => ?_
      have hi' := List.mem_range.mp hi
      have hbp : ∀ j ∈ t, j < startN t + i := fun j hj => by have := hb j hj; omega
      have fs := fits_step hr ho (by omega) hbp (by omega) hf
      rw [fs]
      by_cases c2 : P2 row order t (startN t + i) = true
      · rw [if_pos c2, if_pos c2]
        refine dfs2_eq hr ho d _ (by simp; omega) (by simp; omega) (fun j hj => ?_) (by rw [fs]; exact c2)
        rw [startN_snoc]
        rcases List.mem_append.mp hj with z | z
        · have := hbp j z; omega
        · have : j = startN t + i := by simpa using z
          omega
      · rw [if_neg c2, if_neg c2]
theorem dfs2_first {row order : List Int} (hr : row.Nodup) (ho : order.Nodup) {d : Nat} (h : order.length < d) : dfs2 row order d [] = (placesL row order).head? := by
  rw [dfs2_eq hr ho d [] (by simp) (by simpa using h) (by simp) (fits_nil row order), dfs_first h]
theorem findSome_ext {β : Type} {f : Nat → Option β} {n i : Nat} {r : β} (hno : (List.range i).findSome? f = none) (hi : i < n) (h : f i = some r) : (List.range n).findSome? f = some r := by
  refine findSome_at (i := i) (x := i) ?_ (List.getElem?_range hi) h
  rw [List.take_range, Nat.min_eq_left (by omega)]
  exact hno
theorem findSome_next {β : Type} {f : Nat → Option β} {i : Nat} (hno : (List.range i).findSome? f = none) (h : f i = none) : (List.range (i + 1)).findSome? f = none := by
  rw [List.range_succ, List.findSome?_append, hno]
  simp [h]
def threes : List (List Int) := [[0, 1, 2], [0, 2, 1], [1, 0, 2], [1, 2, 0], [2, 0, 1], [2, 1, 0]]
def three (c : Int) : List Int := threes.getD (c % 6).toNat []
theorem three_mem (c : Int) : three c ∈ threes := by
  unfold three
  have h : (c % 6).toNat < threes.length := by show (c % 6).toNat < 6; omega
  rw [List.getD_eq_getElem?_getD, List.getElem?_eq_getElem h]
  exact List.getElem_mem h
theorem three_ok : ∀ o ∈ threes, shapeOk o ∧ o.length = 3 := by decide
theorem P2_one {row order : List Int} {i p : Nat} : P2 row order [i] p = true ↔ decide (row.getD i 0 < row.getD p 0) = decide (order.getD 0 0 < order.getD 1 0) := by
  unfold P2 lowL dueL
  rw [decide_eq_true_iff]
  show [decide (row.getD i 0 < row.getD p 0)] = [decide (order.getD 0 0 < order.getD 1 0)] ↔ _
  simp
theorem P2_two {row order : List Int} {i j p : Nat} : P2 row order [i, j] p = true ↔ decide (row.getD i 0 < row.getD p 0) = decide (order.getD 0 0 < order.getD 2 0) ∧ decide (row.getD j 0 < row.getD p 0) = decide (order.getD 1 0 < order.getD 2 0) := by
  unfold P2 lowL dueL
  rw [decide_eq_true_iff]
  show [decide (row.getD i 0 < row.getD p 0), decide (row.getD j 0 < row.getD p 0)] = [decide (order.getD 0 0 < order.getD 2 0), decide (order.getD 1 0 < order.getD 2 0)] ↔ _
  simp
/-! ### a tuple of places, or None -/
def OptT (H : Hp) (v : V) : Option (List Nat) → Prop
  | none => v = .non
  | some r => ∃ p, v = .ref p ∧ H p = some (.tup (r.map nV))
def dOpt : Option (List Nat) → PyData
  | none => .none
  | some r => dTupN r
theorem isD_opt : IsD dOpt 2 := ⟨fun x y => by
    cases x with
    | none => cases y with
      | none => simp [dOpt, PyData.eqv]
      | some s => simp [dOpt, PyData.eqv]
    | some r => cases y with
      | none => simp [dOpt, PyData.eqv]
      | some s => simpa [dOpt] using isD_tupN.eqv r s, fun x => by
    cases x with
    | none => simp [dOpt, PyData.canLay0]
    | some r => exact isD_tupN.lay r, fun x => by
    cases x with
    | none => simp [dOpt, PyData.depth]
    | some r => exact isD_tupN.dep r⟩
theorem dp_opt {K : PySem.W.Frag} {H : Hp} {v : V} {o : Option (List Nat)} (h : OptT H v o) : Dp K H v (dOpt o) := by
  cases o with
  | none => cases h; exact .non
  | some r => obtain ⟨p, rfl, hp⟩ := h; exact dp_tupN (SqT.of hp)
theorem OptT.same {H H' : Hp} {v : V} {o : Option (List Nat)} (h : OptT H v o) (s : Same H H') : OptT H' v o := by
  cases o with
  | none => exact h
  | some r => obtain ⟨p, e, hp⟩ := h; exact ⟨p, e, s _ _ hp⟩
end Sh

set_option Elab.async false
set_option linter.all false
set_option maxRecDepth 100000
set_option maxHeartbeats 4000000
/-! M14: orders seen from each side: plain Lean. -/
namespace Sh
open PySem PySem.Spec PyProof.Rows L2
/-! ### the tuples -/
theorem growN_get {n : Nat} {t x : List Nat} : x ∈ growN n t ↔ ∃ p, x = t ++ [p] ∧ startN t ≤ p ∧ p < n := by
  refine ⟨growN_len, ?_⟩
  rintro ⟨p, rfl, h1, h2⟩
  refine List.mem_map.mpr ⟨p - startN t, List.mem_range.mpr (by omega), ?_⟩
  rw [show startN t + (p - startN t) = p by omega]
theorem flatten_nodup {α β : Type} (f : α → List β) (g : β → α) : ∀ l : List α, l.Nodup → (∀ x ∈ l, (f x).Nodup) → (∀ x ∈ l, ∀ y ∈ f x, g y = x) → ((l.map f).flatten).Nodup
  | [], _, _, _ => by simp
  | x :: l, h, h1, h2 => by
    have hn := List.nodup_cons.mp h
    rw [List.map_cons, List.flatten_cons, List.nodup_append]
    refine ⟨h1 x (by simp), flatten_nodup f g l hn.2 (fun y hy => h1 y (by simp [hy])) (fun y hy => h2 y (by simp [hy])), fun a ha b hb e => ?_⟩
    obtain ⟨l', hl', hb'⟩ := List.mem_flatten.mp hb
    obtain ⟨y, hy, rfl⟩ := List.mem_map.mp hl'
    have e1 := h2 x (by simp) a ha
    have e2 := h2 y (by simp [hy]) b hb'
    rw [e, e2] at e1
    exact hn.1 (e1 ▸ hy)
theorem nodup_mapN {α β : Type} {f : α → β} {l : List α} (h : l.Nodup) (inj : ∀ a ∈ l, ∀ b ∈ l, f a = f b → a = b) : (l.map f).Nodup := nodup_map h inj
theorem tupsN_nodup (n : Nat) : ∀ s, (tupsN n s).Nodup
  | 0 => by simp [tupsN]
  | s + 1 => by
    rw [tupsN]
    refine flatten_nodup (growN n) List.dropLast _ (tupsN_nodup n s) (fun t _ => ?_) (fun t _ x hx => ?_)
    · refine nodup_mapN List.nodup_range fun a _ b _ e => ?_
      have := List.append_cancel_left e
      simp at this
      omega
    · obtain ⟨p, rfl, _, _⟩ := growN_len hx
      exact List.dropLast_concat
theorem pw_start {t : List Nat} (h : t.Pairwise (· < ·)) : ∀ i ∈ t, i < startN t := by
  intro i hi
  have h0 : t ≠ [] := fun z => by rw [z] at hi; simp at hi
  obtain ⟨r, z, rfl⟩ : ∃ r z, t = r ++ [z] := ⟨t.dropLast, t.getLast h0, (List.dropLast_concat_getLast _).symm⟩
  rw [startN_snoc]
  rcases List.mem_append.mp hi with w | w
  · have := (List.pairwise_append.mp h).2.2 i w z (by simp); omega
  · have : i = z := by simpa using w
    omega
theorem mem_tupsN {n : Nat} : ∀ {s : Nat} {t : List Nat}, t ∈ tupsN n s ↔ t.length = s ∧ t.Pairwise (· < ·) ∧ ∀ i ∈ t, i < n
  | 0, t => by
    constructor
    · intro h
      have : t = [] := by simpa [tupsN] using h
      subst this; simp
    · rintro ⟨h, _⟩
      have : t = [] := List.length_eq_zero_iff.mp h
      subst this; simp [tupsN]
  | s + 1, t => by
    rw [tupsN]
    constructor
    · intro h
      obtain ⟨l, hl, hx⟩ := List.mem_flatten.mp h
      obtain ⟨r, hr, rfl⟩ := List.mem_map.mp hl
      obtain ⟨p, rfl, h1, h2⟩ := growN_len hx
      obtain ⟨k1, k2, k3⟩ := mem_tupsN.mp hr
      refine ⟨by simp [k1], List.pairwise_append.mpr ⟨k2, by simp, fun a ha b hb => ?_⟩, fun i hi => ?_⟩
      · have : b = p := by simpa using hb
        have := pw_start k2 a ha
        omega
      · rcases List.mem_append.mp hi with z | z
        · exact k3 i z
        · have : i = p := by simpa using z
          omega
    · rintro ⟨h1, h2, h3⟩
      have h0 : t ≠ [] := fun z => by rw [z] at h1; simp at h1
      obtain ⟨r, z, rfl⟩ : ∃ r z, t = r ++ [z] := ⟨t.dropLast, t.getLast h0, (List.dropLast_concat_getLast _).symm⟩
      have hp := List.pairwise_append.mp h2
      have hr : r ∈ tupsN n s := mem_tupsN.mpr ⟨by simpa using h1, hp.1, fun i hi => h3 i (by simp [hi])⟩
      refine List.mem_flatten.mpr ⟨growN n r, List.mem_map.mpr ⟨r, hr, rfl⟩, growN_get.mpr ⟨z, rfl, ?_, h3 z (by simp)⟩⟩
      by_cases e : r = []
      · subst e; simp [startN]
      · have h4 := last_mem e
        have := hp.2.2 _ h4 z (by simp)
        unfold startN
        rw [if_neg e]
        omega
/-! ### counting by a way there -/
theorem len_le_of_sub {α : Type} [DecidableEq α] {l m : List α} (h : l.Nodup) (s : ∀ x ∈ l, x ∈ m) : l.length ≤ m.length := by
  by_cases c : l.length ≤ m.length
  · exact c
  · have := (perm_of_sub h s (by omega)).length_eq; omega
theorem cnt_le {α β : Type} [DecidableEq β] {A : List α} {B : List β} {p : α → Bool} {q : β → Bool} (f : α → β) (nA : A.Nodup) (h : ∀ x ∈ A, p x = true → f x ∈ B ∧ q (f x) = true) (inj : ∀ x ∈ A, ∀ y ∈ A, p x = true → p y = true → f x = f y → x = y) :
    (A.filter p).length ≤ (B.filter q).length := by
  have hn : ((A.filter p).map f).Nodup := by
    refine nodup_map (List.Nodup.sublist List.filter_sublist nA) fun a ha b hb e => ?_
    exact inj a (List.mem_filter.mp ha).1 b (List.mem_filter.mp hb).1 (List.mem_filter.mp ha).2 (List.mem_filter.mp hb).2 e
  have := len_le_of_sub hn (m := B.filter q) fun y hy => by
    obtain ⟨x, hx, rfl⟩ := List.mem_map.mp hy
    have hx' := List.mem_filter.mp hx
    have := h x hx'.1 hx'.2
    exact List.mem_filter.mpr this
  rwa [List.length_map] at this
def cnt (row order : List Int) : Nat := (placesL row order).length
theorem cnt_def {row order : List Int} (h : shapeOk order) : cnt row order = ((tupsN row.length order.length).filter (fun t => decide (rk (sel row t) = order))).length := by
  unfold cnt; rw [placesL_filter h]
theorem sel_len (row : List Int) (t : List Nat) : (sel row t).length = t.length := by simp [sel]
theorem pw_nodup {t : List Nat} (h : t.Pairwise (· < ·)) : t.Nodup := h.imp fun h => Nat.ne_of_lt h
theorem sel_nodup {row : List Int} (hr : row.Nodup) {t : List Nat} (ht : t.Nodup) (hb : ∀ i ∈ t, i < row.length) : (sel row t).Nodup :=
  nodup_map ht fun a ha b hb' e => nodup_getD hr (hb a ha) (hb b hb') e
/-! ### backward -/
theorem rk_reverse (l : List Int) : rk l.reverse = (rk l).reverse := by
  unfold rk
  rw [List.map_reverse]
  congr 1
  exact List.map_congr_left fun x _ => lessN_perm (List.reverse_perm l) x
theorem getD_reverse {l : List Int} {i : Nat} (h : i < l.length) : l.reverse.getD (l.length - 1 - i) 0 = l.getD i 0 := by
  simp only [List.getD_eq_getElem?_getD]
  rw [List.getElem?_reverse (by omega), show l.length - 1 - (l.length - 1 - i) = i by omega]
theorem back_le {row order : List Int} (ho : shapeOk order) : cnt row order ≤ cnt row.reverse order.reverse := by
  rw [cnt_def ho, cnt_def (reverse_shape ho), List.length_reverse, List.length_reverse]
  refine cnt_le (fun t => (t.map fun i => row.length - 1 - i).reverse) (tupsN_nodup _ _) (fun t ht hp => ?_) (fun t ht u hu _ _ e => ?_)
  · obtain ⟨h1, h2, h3⟩ := mem_tupsN.mp ht
    refine ⟨mem_tupsN.mpr ⟨by simp [h1], ?_, fun i hi => ?_⟩, ?_⟩
    · rw [List.pairwise_reverse, List.pairwise_map]
      refine List.Pairwise.imp_of_mem (fun {a b} ha hb hab => ?_) h2
      have := h3 a ha
      have := h3 b hb
      omega
    · obtain ⟨j, hj, rfl⟩ := List.mem_map.mp (List.mem_reverse.mp hi)
      have := h3 j hj
      omega
    · have e : sel row.reverse (t.map fun i => row.length - 1 - i).reverse = (sel row t).reverse := by
        unfold sel
        rw [List.map_reverse, List.map_map]
        congr 1
        exact List.map_congr_left fun i hi => getD_reverse (h3 i hi)
      refine decide_eq_true ?_
      rw [e, rk_reverse, of_decide_eq_true hp]
  · obtain ⟨h1, h2, h3⟩ := mem_tupsN.mp ht
    obtain ⟨g1, g2, g3⟩ := mem_tupsN.mp hu
    have e2 := List.reverse_inj.mp e
    apply List.ext_getElem?
    intro i
    have e3 := congrArg (fun l : List Nat => l[i]?) e2
    simp only [List.getElem?_map] at e3
    by_cases hi : i < t.length
    · have hi2 : i < u.length := by omega
      rw [List.getElem?_eq_getElem hi, List.getElem?_eq_getElem hi2] at e3 ⊢
      have := h3 _ (List.getElem_mem hi)
      have := g3 _ (List.getElem_mem hi2)
      simp at e3
      congr 1
      omega
    · rw [List.getElem?_eq_none (by omega), List.getElem?_eq_none (by omega)]
theorem cnt_back {row order : List Int} (ho : shapeOk order) : cnt row.reverse order.reverse = cnt row order := by
  have h1 := back_le (row := row) ho
  have h2 := back_le (row := row.reverse) (reverse_shape ho)
  rw [List.reverse_reverse, List.reverse_reverse] at h2
  omega
/-! ### contrary -/
theorem less_more (x : Int) : ∀ l : List Int, l.Nodup → x ∈ l → (l.filter (· < x)).length + (l.filter (fun y => decide (x < y))).length + 1 = l.length
  | [], _, h => by simp at h
  | a :: l, hn, h => by
    have hn' := List.nodup_cons.mp hn
    by_cases e : x = a
    · subst e
      have := split_len x l hn'.1
      rw [List.filter_cons_of_neg (by simp), List.filter_cons_of_neg (by simp)]
      simp; omega
    · have hm : x ∈ l := by rcases List.mem_cons.mp h with z | z; exact absurd z e; exact z
      have ih := less_more x l hn'.2 hm
      by_cases c : a < x
      · rw [List.filter_cons_of_pos (by simpa using c), List.filter_cons_of_neg (by simp; omega)]; simp; omega
      · rw [List.filter_cons_of_neg (by simpa using c), List.filter_cons_of_pos (by simp; omega)]; simp; omega
theorem rk_contrary {l : List Int} (h : l.Nodup) (c : Int) : rk (l.map fun x => c - x) = contraryL (rk l) := by
  unfold contraryL
  rw [rk_len]
  unfold rk
  rw [List.map_map, List.map_map]
  refine List.map_congr_left fun x hx => ?_
  have e := less_more x l h hx
  simp only [Function.comp, lessN, List.filter_map, List.length_map]
  have e2 : (l.filter ((fun z => decide (z < c - x)) ∘ fun x => c - x)).length = (l.filter (fun y => decide (x < y))).length := by
    congr 1
    refine List.filter_congr fun y _ => ?_
    simp only [Function.comp]
    exact decide_eq_decide.mpr ⟨fun _ => by omega, fun _ => by omega⟩
  rw [e2]
  omega
theorem sel_contrary {row : List Int} {t : List Nat} (hb : ∀ i ∈ t, i < row.length) : sel (contraryL row) t = (sel row t).map fun x => ((row.length : Int) - 1) - x := by
  unfold sel contraryL
  rw [List.map_map]
  refine List.map_congr_left fun i hi => ?_
  simp only [Function.comp, List.getD_eq_getElem?_getD, List.getElem?_map, List.getElem?_eq_getElem (hb i hi)]
  rfl
theorem contrary_le {row order : List Int} (hr : row.Nodup) (ho : shapeOk order) : cnt row order ≤ cnt (contraryL row) (contraryL order) := by
  rw [cnt_def ho, cnt_def (contrary_shape ho), contrary_len, contrary_len]
  refine cnt_le (fun t => t) (tupsN_nodup _ _) (fun t ht hp => ⟨ht, ?_⟩) (fun t ht u hu _ _ e => e)
  obtain ⟨h1, h2, h3⟩ := mem_tupsN.mp ht
  refine decide_eq_true ?_
  rw [sel_contrary h3, rk_contrary (sel_nodup hr (pw_nodup h2) h3), of_decide_eq_true hp]
theorem cnt_contrary {row order : List Int} (hr : shapeOk row) (ho : shapeOk order) : cnt (contraryL row) (contraryL order) = cnt row order := by
  have h1 := contrary_le (shapeOk_row hr).2 ho
  have h2 := contrary_le (shapeOk_row (contrary_shape hr)).2 (contrary_shape ho)
  rw [contrary_back, contrary_back] at h2
  omega
/-! ### turned over -/
theorem over_getD {s : List Int} {i : Nat} (h : i < s.length) : (overL s).getD i 0 = ((s.idxOf (i : Int) : Nat) : Int) := by
  rw [List.getD_eq_getElem?_getD, over_get h]; rfl
def valN (row : List Int) (t : List Nat) (i : Nat) : Nat := (row.getD (t.getD i 0) 0).toNat
def turnT (row order : List Int) (t : List Nat) : List Nat := (List.range order.length).map fun j : Nat => valN row t (order.idxOf (j : Int))
theorem lessN_sorted {t : List Nat} (h : t.Pairwise (· < ·)) {i : Nat} (hi : i < t.length) : lessN (t.map fun i : Nat => (i : Int)) ((t.getD i 0 : Nat) : Int) = (i : Int) := by
  unfold lessN
  rw [List.filter_map, List.length_map]
  have e : ((fun z : Int => decide (z < ((t.getD i 0 : Nat) : Int))) ∘ fun i : Nat => (i : Int)) = fun j : Nat => decide (j < t.getD i 0) := by
    funext j; simp [Function.comp]
  rw [e]
  have e2 : t.filter (fun j => decide (j < t.getD i 0)) = t.take i := by
    have hx : t.getD i 0 = t[i] := by rw [List.getD_eq_getElem?_getD, List.getElem?_eq_getElem hi]; rfl
    have hd : t.drop i = t[i] :: t.drop (i + 1) := List.drop_eq_getElem_cons hi
    rw [hx]
    generalize t[i] = v at hd
    conv => lhs; rw [← List.take_append_drop i t]
    rw [List.filter_append]
    have hp : (t.take i ++ t.drop i).Pairwise (· < ·) := by rw [List.take_append_drop]; exact h
    obtain ⟨p1, p2, p3⟩ := List.pairwise_append.mp hp
    have a1 : (t.take i).filter (fun j => decide (j < v)) = t.take i := List.filter_eq_self.mpr fun j hj => by
      have := p3 j hj v (by rw [hd]; simp)
      simpa using this
    have a2 : (t.drop i).filter (fun j => decide (j < v)) = [] := List.filter_eq_nil_iff.mpr fun j hj => by
      rw [hd] at hj p2
      rcases List.mem_cons.mp hj with z | z
      · subst z; simp
      · have := (List.pairwise_cons.mp p2).1 j z
        simp; omega
    rw [a1, a2, List.append_nil]
  rw [e2, List.length_take, Nat.min_eq_left (by omega)]
theorem getD_mapN {β : Type} {f : Nat → β} {n i : Nat} (h : i < n) (d : β) : ((List.range n).map f).getD i d = f i := by
  rw [List.getD_eq_getElem?_getD, List.getElem?_map, List.getElem?_range h]; rfl
section
variable {row order : List Int} {t : List Nat}
theorem turn_facts (hr : shapeOk row) (ho : shapeOk order) (ht : t ∈ tupsN row.length order.length) (hp : rk (sel row t) = order) :
    turnT row order t ∈ tupsN row.length order.length ∧ rk (sel (overL row) (turnT row order t)) = overL order ∧ ∀ i, i < order.length → (turnT row order t).getD (order.getD i 0).toNat 0 = valN row t i := by
  obtain ⟨h1, h2, h3⟩ := mem_tupsN.mp ht
  have l1 := sel_len row t
  have on := (shapeOk_row ho).2
  have rn := (shapeOk_row hr).2
  have ix : ∀ j, j < order.length → order.idxOf (j : Int) < order.length ∧ order.getD (order.idxOf (j : Int)) 0 = (j : Int) := fun j hj => by
    have hm : (j : Int) ∈ order := (shapeOk_mem ho).mpr ⟨by omega, by omega⟩
    refine ⟨idxOf_lt hm, ?_⟩
    rw [List.getD_eq_getElem?_getD, idxOf_at hm]; rfl
  -- the value at place i has rank order i
  have rank : ∀ i, i < order.length → lessN (sel row t) (row.getD (t.getD i 0) 0) = order.getD i 0 := fun i hi => by
    have := rk_get (a := sel row t) (i := i) (by omega)
    rw [hp, sel_getD (by omega)] at this
    exact this.symm
  have vpos : ∀ i, i < order.length → 0 ≤ row.getD (t.getD i 0) 0 ∧ row.getD (t.getD i 0) 0 < row.length := fun i hi =>
    (shapeOk_mem hr).mp (getD_mem (h3 _ (getD_memN (by omega))))
  have mem : ∀ i, i < order.length → row.getD (t.getD i 0) 0 ∈ sel row t := fun i hi => by
    rw [← sel_getD (row := row) (by omega : i < t.length)]; exact getD_mem (by omega)
  have pw : (turnT row order t).Pairwise (· < ·) := by
    unfold turnT
    rw [List.pairwise_map]
    refine List.Pairwise.imp_of_mem (fun {a b} ha hb hab => ?_) List.pairwise_lt_range
    have ha' := ix a (List.mem_range.mp ha)
    have hb' := ix b (List.mem_range.mp hb)
    have ra := rank _ ha'.1
    have rb := rank _ hb'.1
    rw [ha'.2] at ra
    rw [hb'.2] at rb
    have := (lessN_iff (ns := sel row t) (y := row.getD (t.getD (order.idxOf (b : Int)) 0) 0) (mem _ ha'.1)).mp (by rw [ra, rb]; omega)
    have v1 := vpos _ ha'.1
    have v2 := vpos _ hb'.1
    unfold valN
    omega
  refine ⟨mem_tupsN.mpr ⟨by simp [turnT], pw, fun i hi => ?_⟩, ?_, fun i hi => ?_⟩
  · obtain ⟨j, hj, rfl⟩ := List.mem_map.mp hi
    have := vpos _ (ix j (List.mem_range.mp hj)).1
    unfold valN; omega
  · -- places of the sorted values are the places of t, turned over
    have e : sel (overL row) (turnT row order t) = (List.range order.length).map fun j : Nat => ((t.getD (order.idxOf (j : Int)) 0 : Nat) : Int) := by
      unfold sel turnT
      rw [List.map_map]
      refine List.map_congr_left fun j hj => ?_
      have hj' := ix j (List.mem_range.mp hj)
      have v := vpos _ hj'.1
      have hb := h3 _ (getD_memN (t := t) (i := order.idxOf (j : Int)) (by omega))
      simp only [Function.comp]
      rw [over_getD (by unfold valN; omega)]
      unfold valN
      rw [show (((row.getD (t.getD (order.idxOf (j : Int)) 0) 0).toNat : Nat) : Int) = row.getD (t.getD (order.idxOf (j : Int)) 0) 0 by omega, idxOf_of rn (getD_at hb)]
    have pm : (sel (overL row) (turnT row order t)).Perm (t.map fun i : Nat => (i : Int)) := by
      rw [e]
      have p1 := (shape_perm_nat (over_shape ho))
      rw [over_len] at p1
      have p2 := p1.map fun i : Nat => ((t.getD i 0 : Nat) : Int)
      rw [List.map_map] at p2
      have e1 : (List.range order.length).map ((fun i : Nat => ((t.getD i 0 : Nat) : Int)) ∘ fun i => ((overL order).getD i 0).toNat) = (List.range order.length).map fun j : Nat => ((t.getD (order.idxOf (j : Int)) 0 : Nat) : Int) := by
        refine List.map_congr_left fun j hj => ?_
        simp only [Function.comp]
        rw [over_getD (List.mem_range.mp hj), Int.toNat_natCast]
      have e2 : (List.range order.length).map (fun i : Nat => ((t.getD i 0 : Nat) : Int)) = t.map fun i : Nat => (i : Int) := by
        apply List.ext_getElem?
        intro i
        by_cases hi : i < order.length
        · rw [List.getElem?_map, List.getElem?_range hi, List.getElem?_map, List.getElem?_eq_getElem (by omega : i < t.length)]
          show some ((t.getD i 0 : Nat) : Int) = some ((t[i] : Nat) : Int)
          rw [List.getD_eq_getElem?_getD, List.getElem?_eq_getElem (by omega : i < t.length)]; rfl
        · rw [List.getElem?_eq_none (by simp; omega), List.getElem?_eq_none (by simp; omega)]
      rw [e1, e2] at p2
      exact p2
    show _ = (List.range order.length).map fun i : Nat => ((order.idxOf (i : Int) : Nat) : Int)
    have e3 : rk (sel (overL row) (turnT row order t)) = (sel (overL row) (turnT row order t)).map (lessN (t.map fun i : Nat => (i : Int))) := by
      unfold rk
      exact List.map_congr_left fun x _ => lessN_perm pm x
    rw [e3, e, List.map_map]
    refine List.map_congr_left fun j hj => ?_
    have hj' := ix j (List.mem_range.mp hj)
    simp only [Function.comp]
    rw [lessN_sorted h2 (by omega)]
  · have hm := (shapeOk_mem ho).mp (getD_mem hi)
    unfold turnT
    rw [getD_mapN (by omega), show ((order.getD i 0).toNat : Int) = order.getD i 0 by omega, idxOf_of on (getD_at hi)]
end
theorem over_le {row order : List Int} (hr : shapeOk row) (ho : shapeOk order) : cnt row order ≤ cnt (overL row) (overL order) := by
  rw [cnt_def ho, cnt_def (over_shape ho), over_len, over_len]
  refine cnt_le (turnT row order) (tupsN_nodup _ _) (fun t ht hp => ?_) (fun t ht u hu hp hq e => ?_)
  · obtain ⟨k1, k2, _⟩ := turn_facts hr ho ht (of_decide_eq_true hp)
    exact ⟨k1, decide_eq_true k2⟩
  · obtain ⟨h1, h2, h3⟩ := mem_tupsN.mp ht
    obtain ⟨g1, g2, g3⟩ := mem_tupsN.mp hu
    obtain ⟨_, _, k3⟩ := turn_facts hr ho ht (of_decide_eq_true hp)
    obtain ⟨_, _, k4⟩ := turn_facts hr ho hu (of_decide_eq_true hq)
    apply List.ext_getElem?
    intro i
    by_cases hi : i < t.length
    · have hi2 : i < u.length := by omega
      have a := k3 i (by omega)
      have b := k4 i (by omega)
      rw [e, b] at a
      have m1 := h3 _ (getD_memN hi)
      have m2 := g3 _ (getD_memN hi2)
      have b1 := (shapeOk_mem hr).mp (getD_mem m1)
      have b2 := (shapeOk_mem hr).mp (getD_mem m2)
      unfold valN at a
      have := nodup_getD (shapeOk_row hr).2 m2 m1 (by omega)
      rw [List.getD_eq_getElem?_getD, List.getElem?_eq_getElem hi2, List.getD_eq_getElem?_getD, List.getElem?_eq_getElem hi] at this
      rw [List.getElem?_eq_getElem hi, List.getElem?_eq_getElem hi2]
      congr 1
      exact this.symm
    · rw [List.getElem?_eq_none (by omega), List.getElem?_eq_none (by omega)]
theorem cnt_over {row order : List Int} (hr : shapeOk row) (ho : shapeOk order) : cnt (overL row) (overL order) = cnt row order := by
  have h1 := over_le hr ho
  have h2 := over_le (over_shape hr) (over_shape ho)
  rw [over_back hr, over_back ho] at h2
  omega
/-! ### the six orders of three -/
theorem three_all {o : List Int} (h : shapeOk o) (hl : o.length = 3) : o ∈ threes := by
  match o, hl with
  | [x, y, z], _ =>
    have b := fun w hw => (shapeOk_mem h (x := w)).mp hw
    have bx := b x (by simp)
    have by' := b y (by simp)
    have bz := b z (by simp)
    have nd := (shapeOk_row h).2
    simp only [List.length_cons, List.length_nil] at bx by' bz
    have n1 : x ≠ y := fun e => by rw [e] at nd; simp at nd
    have n2 : x ≠ z := fun e => by rw [e] at nd; simp at nd
    have n3 : y ≠ z := fun e => by rw [e] at nd; simp at nd
    have hx : x = 0 ∨ x = 1 ∨ x = 2 := by omega
    have hy : y = 0 ∨ y = 1 ∨ y = 2 := by omega
    have hz : z = 0 ∨ z = 1 ∨ z = 2 := by omega
    rcases hx with rfl | rfl | rfl <;> rcases hy with rfl | rfl | rfl <;> rcases hz with rfl | rfl | rfl <;> first | decide | omega
theorem threes_one : ∀ o ∈ threes, threes.countP (fun p => decide (o = p)) = 1 := by decide
theorem tups3_len : ∀ n : Nat, n ≤ 12 → ((tupsN n 3).length : Int) = (n : Int) * ((n : Int) - 1) * ((n : Int) - 2) / 6 := by decide +kernel
theorem sum_ones {α : Type} (f : α → Nat) : ∀ l : List α, (∀ x ∈ l, f x = 1) → (l.map f).sum = l.length
  | [], _ => rfl
  | x :: l, h => by rw [List.map_cons, List.sum_cons, h x (by simp), sum_ones f l fun y hy => h y (by simp [hy])]; simp; omega
theorem six_sum {row : List Int} (hr : row.Nodup) (hl : row.length ≤ 12) : (threes.map (cnt row)).sum = (tupsN row.length 3).length := by
  have e1 : threes.map (cnt row) = threes.map fun o => (tupsN row.length 3).countP (fun t => decide (rk (sel row t) = o)) := by
    refine List.map_congr_left fun o ho => ?_
    have h := three_ok o ho
    rw [cnt_def h.1, h.2, List.countP_eq_length_filter]
  rw [e1, fubini (fun o t => decide (rk (sel row t) = o)) threes (tupsN row.length 3)]
  refine sum_ones _ _ fun t ht => ?_
  obtain ⟨h1, h2, h3⟩ := mem_tupsN.mp ht
  have hn := sel_nodup hr (pw_nodup h2) h3
  have hs : shapeOk (rk (sel row t)) := rk_shape ⟨by rw [sel_len]; omega, hn⟩
  exact threes_one _ (three_all hs (by rw [rk_len, sel_len, h1]))
end Sh

set_option Elab.async false
set_option linter.all false
set_option maxRecDepth 100000
set_option maxHeartbeats 4000000
/-! M15: shapes without an order of three: what the text computes. -/
namespace Sh
open PySem PySem.Spec PyProof.Rows L2
/-! ### ways -/
def Wy : Nat → Nat → Nat
  | 0, h => if h = 0 then 1 else 0
  | l + 1, h => Wy l (h + 1) + if 0 < h then Wy l (h - 1) else 0
theorem Wy_big : ∀ l h, l < h → Wy l h = 0
  | 0, h, z => by rw [Wy, if_neg (by omega)]
  | l + 1, h, z => by rw [Wy, Wy_big l (h + 1) (by omega), if_pos (by omega), Wy_big l (h - 1) (by omega)]
/-- one row: its first 2 n + 2 numbers -/
def wayN (n l : Nat) : List Int := (List.range (2 * n + 2)).map fun h : Nat => ((Wy l h : Nat) : Int)
theorem wayN_len (n l : Nat) : (wayN n l).length = 2 * n + 2 := by simp [wayN]
theorem wayN_get {n l h : Nat} (z : h < 2 * n + 2) : (wayN n l).getD h 0 = ((Wy l h : Nat) : Int) := getD_mapN z 0
theorem wayN_zero (n : Nat) : wayN n 0 = 1 :: List.replicate (2 * n + 1) 0 := by
  unfold wayN
  rw [List.range_succ_eq_map, List.map_cons, List.map_map]
  congr 1
  apply List.ext_getElem?
  intro i
  by_cases h : i < 2 * n + 1
  · rw [List.getElem?_map, List.getElem?_range h, List.getElem?_replicate, if_pos h]
    simp [Wy]
  · rw [List.getElem?_eq_none (by simp; omega), List.getElem?_eq_none (by simp; omega)]
theorem wayN_succ {n l : Nat} (hl : l < 2 * n) : wayN n (l + 1) = ((List.range (2 * n + 1)).map fun h : Nat => (wayN n l).getD (h + 1) 0 + if 0 < h then (wayN n l).getD (h - 1) 0 else 0) ++ [0] := by
  have e : wayN n (l + 1) = ((List.range (2 * n + 1)).map fun h : Nat => ((Wy (l + 1) h : Nat) : Int)) ++ [((Wy (l + 1) (2 * n + 1) : Nat) : Int)] := by
    unfold wayN
    rw [List.range_succ, List.map_append]; rfl
  rw [e, Wy_big (l + 1) (2 * n + 1) (by omega)]
  congr 1
  refine List.map_congr_left fun h hh => ?_
  have hh' := List.mem_range.mp hh
  rw [wayN_get (by omega), Wy]
  split
  · rw [wayN_get (by omega)]; omega
  · omega
/-! ### the pile -/
def pl : Nat → List Nat → Nat → Nat → List Nat
  | 0, _, _, _ => []
  | l + 1, P, t, m => if m < Wy l (P.length + 1) then pl l (t :: P) (t + 1) m else match P with
    | [] => []
    | x :: P' => x :: pl l P' t (m - Wy l (P.length + 1))
def pn : Nat → Nat → Nat → List Nat → Nat
  | 0, _, _, _ => 0
  | _ + 1, _, _, [] => 0
  | l + 1, h, t, w :: ws => if t ≤ w then pn l (h + 1) (t + 1) (w :: ws) else Wy l (h + 1) + pn l (h - 1) t ws
def nI (t : List Nat) : List Int := t.map fun i : Nat => (i : Int)
def pileL (n m : Nat) : List Int := nI (pl (2 * n) [] 0 m)
def pnum (s : List Int) : Nat := pn (2 * s.length) 0 0 (s.map Int.toNat)
theorem pl_push {l t m : Nat} {P : List Nat} (h : m < Wy l (P.length + 1)) : pl (l + 1) P t m = pl l (t :: P) (t + 1) m := by
  cases P <;> simp only [pl] <;> rw [if_pos h]
theorem pl_pop {l t m x : Nat} {P : List Nat} (h : ¬ m < Wy l ((x :: P).length + 1)) : pl (l + 1) (x :: P) t m = x :: pl l P t (m - Wy l ((x :: P).length + 1)) := by
  simp only [pl]; rw [if_neg h]
theorem pl_junk {l t m : Nat} (h : ¬ m < Wy l (([] : List Nat).length + 1)) : pl (l + 1) [] t m = [] := by
  simp only [pl]; rw [if_neg h]
theorem pl_len : ∀ (l : Nat) (P : List Nat) (t m : Nat), (pl l P t m).length ≤ l
  | 0, P, t, m => by simp [pl]
  | l + 1, P, t, m => by
    by_cases h : m < Wy l (P.length + 1)
    · rw [pl_push h]
      have := pl_len l (t :: P) (t + 1) m; omega
    · cases P with
      | nil => rw [pl_junk h]; simp
      | cons x P' =>
        rw [pl_pop h]
        have := pl_len l P' t (m - Wy l ((x :: P').length + 1))
        rw [List.length_cons]; omega
/-! ### turned -/
def RISE : List Int := [0, 1, 2]
def FALL : List Int := [2, 1, 0]
def turnL (s o : List Int) : List Int :=
  let f := if o = [1, 0, 2] ∨ o = [1, 2, 0] then s.reverse else s
  if o = [0, 2, 1] ∨ o = [1, 2, 0] then contraryL f else f
theorem turnL_len (s o : List Int) : (turnL s o).length = s.length := by
  unfold turnL
  simp only []
  split <;> split <;> simp [contrary_len]
/-! ### lows, and rows filled -/
def isLow (s : List Int) (k : Nat) : Bool := (s.take (k + 1)).all fun y => decide (s.getD k 0 ≤ y)
def lowsN (s : List Int) : List Nat := (List.range s.length).filter (isLow s)
def nonl (s : List Int) : List Int := ((List.range s.length).filter fun k => !isLow s k).map fun k => s.getD k 0
def srt (l : List Int) : List Int := l.mergeSort fun a b => decide (a ≤ b)
theorem srt_perm (l : List Int) : (srt l).Perm l := List.mergeSort_perm _ _
theorem srt_sorted (l : List Int) : (srt l).Pairwise (· ≤ ·) := by
  refine (List.pairwise_mergeSort (le := fun a b : Int => decide (a ≤ b)) (fun x y z h1 h2 => ?_) (fun x y => ?_) l).imp fun h => of_decide_eq_true h
  · have := of_decide_eq_true h1
    have := of_decide_eq_true h2
    exact decide_eq_true (by omega)
  · by_cases c : x ≤ y
    · rw [decide_eq_true c]; rfl
    · rw [decide_eq_true (show y ≤ x by omega)]; simp
theorem srt_of {l m : List Int} (p : m.Perm l) (h : m.Pairwise (· ≤ ·)) : m = srt l := sorted_eq (p.trans (srt_perm l).symm) h (srt_sorted l)
def cN (s : List Int) (i : Nat) : Nat := ((List.range i).filter fun k => !isLow s k).length
theorem cN_succ (s : List Int) (i : Nat) : cN s (i + 1) = cN s i + if isLow s i = true then 0 else 1 := by
  unfold cN
  rw [List.range_succ, List.filter_append, List.length_append]
  congr 1
  by_cases c : isLow s i = true
  · rw [if_pos c, List.filter_cons_of_neg (by simp [c])]; rfl
  · rw [if_neg c, List.filter_cons_of_pos (by simpa using c)]; rfl
theorem cN_mono (s : List Int) {i j : Nat} (h : i ≤ j) : cN s i ≤ cN s j := by
  induction j with
  | zero => have : i = 0 := by omega
            subst this; exact Nat.le_refl _
  | succ j ih =>
    by_cases e : i = j + 1
    · subst e; exact Nat.le_refl _
    · have := ih (by omega)
      rw [cN_succ]; omega
theorem nonl_len (s : List Int) : (nonl s).length = cN s s.length := by simp [nonl, cN]
/-- the others falling -/
def fillT (s : List Int) : List Int := (List.range s.length).map fun k => if isLow s k = true then s.getD k 0 else (srt (nonl s)).getD ((srt (nonl s)).length - 1 - cN s k) 0
def lowAt (s : List Int) : Nat → Int
  | 0 => 0
  | k + 1 => if isLow s k = true then s.getD k 0 else lowAt s k
/-- what is left of the others, each taken as little as it can be -/
def lft (s : List Int) : Nat → List Int
  | 0 => srt (nonl s)
  | k + 1 => if isLow s k = true then lft s k else (lft s k).erase (((lft s k).filter fun y => decide (lowAt s k < y)).headD 0)
def pick (s : List Int) (k : Nat) : Int := ((lft s k).filter fun y => decide (lowAt s k < y)).headD 0
def fillU (s : List Int) : List Int := (List.range s.length).map fun k => if isLow s k = true then s.getD k 0 else pick s k
/-! ### what is made, and its number -/
def madeL (n : Nat) (o : List Int) (m : Nat) : List Int :=
  if o ≠ RISE ∧ o ≠ FALL then turnL (pileL n m) o
  else if o = FALL then (fillT (turnL (pileL n m) [0, 2, 1])).map (fun x => (n : Int) - 1 - x) else fillT (turnL (pileL n m) [0, 2, 1])
def numL (s o : List Int) : Nat :=
  if o ≠ RISE ∧ o ≠ FALL then pnum (turnL s o)
  else pnum (turnL (fillU (if o = FALL then contraryL s else s)) [0, 2, 1])
theorem fillT_len (s : List Int) : (fillT s).length = s.length := by simp [fillT]
theorem fillU_len (s : List Int) : (fillU s).length = s.length := by simp [fillU]
/-- a shape that can be numbered -/
def numOk (s : List Int) : Prop := shapeOk s ∧ shapeOk (fillU s) ∧ shapeOk (fillU (contraryL s))
theorem turn_shape {s : List Int} (h : shapeOk s) (o : List Int) : shapeOk (turnL s o) := by
  unfold turnL
  simp only []
  split <;> split
  · exact contrary_shape (reverse_shape h)
  · exact contrary_shape h
  · exact reverse_shape h
  · exact h
/-! ### that a number can be picked -/
theorem take_succ_mem {s : List Int} {k : Nat} (h : k < s.length) {y : Int} : y ∈ s.take (k + 1) ↔ y ∈ s.take k ∨ y = s.getD k 0 := by
  rw [take_get h, List.mem_append]; simp
theorem isLow_iff {s : List Int} {k : Nat} : isLow s k = true ↔ ∀ y ∈ s.take (k + 1), s.getD k 0 ≤ y := by unfold isLow; rw [List.all_eq_true]; simp only [decide_eq_true_iff]
theorem lowAt_min {s : List Int} : ∀ k, k < s.length → lowAt s (k + 1) ∈ s.take (k + 1) ∧ ∀ y ∈ s.take (k + 1), lowAt s (k + 1) ≤ y
  | 0, h => by
    have hl : isLow s 0 = true := isLow_iff.mpr fun y hy => by
      rcases (take_succ_mem h).mp hy with z | z
      · simp at z
      · omega
    rw [lowAt, if_pos hl]
    exact ⟨(take_succ_mem h).mpr (.inr rfl), isLow_iff.mp hl⟩
  | k + 1, h => by
    obtain ⟨h1, h2⟩ := lowAt_min (s := s) k (by omega)
    rw [lowAt]
    by_cases c : isLow s (k + 1) = true
    · rw [if_pos c]
      exact ⟨(take_succ_mem h).mpr (.inr rfl), isLow_iff.mp c⟩
    · rw [if_neg c]
      refine ⟨(take_succ_mem h).mpr (.inl h1), fun y hy => ?_⟩
      rcases (take_succ_mem h).mp hy with z | z
      · exact h2 y z
      · subst z
        by_cases d : lowAt s (k + 1) ≤ s.getD (k + 1) 0
        · exact d
        · exfalso
          refine c (isLow_iff.mpr fun y hy => ?_)
          rcases (take_succ_mem h).mp hy with w | w
          · have := h2 y w; omega
          · omega
theorem low_lt {s : List Int} {k : Nat} (h : k < s.length) (c : ¬ isLow s k = true) : 0 < k ∧ lowAt s k < s.getD k 0 := by
  cases k with
  | zero =>
    exfalso
    refine c (isLow_iff.mpr fun y hy => ?_)
    rcases (take_succ_mem h).mp hy with z | z
    · simp at z
    · omega
  | succ k =>
    refine ⟨by omega, ?_⟩
    obtain ⟨h1, h2⟩ := lowAt_min (s := s) k (by omega)
    by_cases d : lowAt s (k + 1) < s.getD (k + 1) 0
    · exact d
    · exfalso
      refine c (isLow_iff.mpr fun y hy => ?_)
      rcases (take_succ_mem h).mp hy with w | w
      · have := h2 y w; omega
      · omega
theorem lowAt_anti {s : List Int} {j k : Nat} (hj : 0 < j) (h : j ≤ k) (hk : k ≤ s.length) : lowAt s k ≤ lowAt s j := by
  obtain ⟨j', rfl⟩ : ∃ j', j = j' + 1 := ⟨j - 1, by omega⟩
  obtain ⟨k', rfl⟩ : ∃ k', k = k' + 1 := ⟨k - 1, by omega⟩
  have h1 := (lowAt_min (s := s) j' (by omega)).1
  refine (lowAt_min (s := s) k' (by omega)).2 _ ?_
  have : s.take (j' + 1) = (s.take (k' + 1)).take (j' + 1) := by rw [List.take_take, Nat.min_eq_left (by omega)]
  rw [this] at h1
  exact List.mem_of_mem_take h1
theorem countP_erase_ge (p : Int → Bool) (x : Int) (l : List Int) : l.countP p ≤ (l.erase x).countP p + 1 := by
  by_cases h : x ∈ l
  · have := (List.perm_cons_erase h).countP_eq p
    rw [this, List.countP_cons]
    split <;> omega
  · rw [List.erase_of_not_mem h]; omega
theorem lft_count (s : List Int) (p : Int → Bool) : ∀ k, (srt (nonl s)).countP p ≤ (lft s k).countP p + cN s k
  | 0 => by rw [lft]; exact Nat.le_add_right _ _
  | k + 1 => by
    have ih := lft_count s p k
    rw [lft, cN_succ]
    by_cases c : isLow s k = true
    · rw [if_pos c, if_pos c]; omega
    · rw [if_neg c, if_neg c]
      have := countP_erase_ge p (((lft s k).filter fun y => decide (lowAt s k < y)).headD 0) (lft s k)
      omega
theorem pick_ok {s : List Int} {k : Nat} (h : k < s.length) (c : ¬ isLow s k = true) : pick s k ∈ (lft s k).filter fun y => decide (lowAt s k < y) := by
  have hne : (lft s k).filter (fun y => decide (lowAt s k < y)) ≠ [] := by
    intro e
    have h0 : (lft s k).countP (fun y => decide (lowAt s k < y)) = 0 := by rw [List.countP_eq_length_filter, e]; rfl
    have h1 := lft_count s (fun y => decide (lowAt s k < y)) k
    rw [h0, (srt_perm (nonl s)).countP_eq] at h1
    have h2 : cN s (k + 1) ≤ (nonl s).countP (fun y => decide (lowAt s k < y)) := by
      unfold nonl cN
      rw [List.countP_map, List.countP_eq_length_filter, List.filter_filter]
      have : List.range s.length = List.range (k + 1) ++ (List.range' (k + 1) (s.length - (k + 1))) := by
        rw [List.range_eq_range', List.range_eq_range']
        have := List.range'_append_1 (s := 0) (m := k + 1) (n := s.length - (k + 1))
        rw [show k + 1 + (s.length - (k + 1)) = s.length by omega, Nat.zero_add] at this
        exact this.symm
      rw [this, List.filter_append, List.length_append]
      refine Nat.le_trans ?_ (Nat.le_add_right _ _)
      refine Nat.le_of_eq ?_
      congr 1
      refine List.filter_congr fun j hj => ?_
      have hj' := List.mem_range.mp hj
      by_cases d : isLow s j = true
      · simp [d]
      · have d' : isLow s j = false := by simpa using d
        obtain ⟨g1, g2⟩ := low_lt (s := s) (by omega : j < s.length) d
        have := lowAt_anti (s := s) g1 (show j ≤ k by omega) (by omega)
        simp [Function.comp, d', show lowAt s k < s.getD j 0 by omega]
        have : lowAt s k < s.getD j 0 := by omega
        simpa [List.getD_eq_getElem?_getD] using this
    rw [cN_succ, if_neg c] at h2
    omega
  unfold pick
  cases e : (lft s k).filter (fun y => decide (lowAt s k < y)) with
  | nil => exact absurd e hne
  | cons y r => simp
theorem lft_len (s : List Int) : ∀ k, k ≤ s.length → (lft s k).length + cN s k = (srt (nonl s)).length
  | 0, _ => by simp [lft, cN]
  | k + 1, h => by
    have ih := lft_len s k (by omega)
    rw [lft, cN_succ]
    by_cases c : isLow s k = true
    · rw [if_pos c, if_pos c]; omega
    · rw [if_neg c, if_neg c]
      have hm := (List.mem_filter.mp (pick_ok (s := s) (by omega) c)).1
      have := List.length_erase_of_mem hm
      have hp : 0 < (lft s k).length := List.length_pos_of_mem hm
      unfold pick at this
      omega
theorem flat_nV (t : List Nat) : (t.map nV).all flatV = true := by rw [nV_ints]; exact flat_ints _
theorem inV_low {s : List Int} {k : Nat} (h : k < s.length) : inV (.int (k : Int)) ((lowsN s).map nV) = isLow s k := by
  rw [nV_ints, inV_ints]
  by_cases c : isLow s k = true
  · rw [c]
    exact decide_eq_true (List.mem_map.mpr ⟨k, List.mem_filter.mpr ⟨List.mem_range.mpr h, c⟩, rfl⟩)
  · rw [show isLow s k = false by simpa using c]
    refine decide_eq_false fun z => c ?_
    obtain ⟨j, hj, e⟩ := List.mem_map.mp z
    have : j = k := by omega
    subst this
    exact (List.mem_filter.mp hj).2
theorem last_snd {bs : List (Addr × List Int)} {f : Nat → List Int} {i : Nat} (e : bs.map Prod.snd = (List.range (i + 1)).map f) : ∃ r b, bs = r ++ [b] ∧ b.2 = f i := by
  have hl : bs.length = i + 1 := by have := congrArg List.length e; simpa using this
  have h0 : bs ≠ [] := fun z => by rw [z] at hl; simp at hl
  refine ⟨bs.dropLast, bs.getLast h0, (List.dropLast_concat_getLast _).symm, ?_⟩
  rw [← List.dropLast_concat_getLast h0, List.map_append, List.range_succ, List.map_append] at e
  have e2 := List.append_inj_right' e (by simp)
  simpa using e2
theorem snd_at {bs : List (Addr × List Int)} {f : Nat → List Int} {n i : Nat} (e : bs.map Prod.snd = (List.range n).map f) (h : i < n) : ∃ b, bs[i]? = some b ∧ b ∈ bs ∧ b.2 = f i := by
  have hl : bs.length = n := by have := congrArg List.length e; simpa using this
  have hi : bs[i]? = some (bs[i]'(by omega)) := List.getElem?_eq_getElem _
  refine ⟨_, hi, List.mem_of_getElem? hi, ?_⟩
  have := congrArg (fun l : List (List Int) => l[i]?) e
  simp only [List.getElem?_map, hi, List.getElem?_range h] at this
  exact Option.some.inj this
theorem pick_first {s : List Int} {k : Nat} (h : k < s.length) (c : ¬ isLow s k = true) : ∃ j, (lft s k)[j]? = some (pick s k) ∧ (∀ m, m < j → (lft s k)[m]? ≠ some (pick s k)) ∧ (lft s k).eraseIdx j = lft s (k + 1) := by
  have hm := (List.mem_filter.mp (pick_ok h c)).1
  refine ⟨(lft s k).idxOf (pick s k), idxOf_at hm, fun m hlt e => idxOf_min hlt e rfl, ?_⟩
  rw [lft, if_neg c]
  show _ = (lft s k).erase (pick s k)
  rw [List.erase_eq_eraseIdx_of_idxOf rfl]
end Sh

set_option Elab.async false
set_option linter.all false
set_option maxRecDepth 100000
set_option maxHeartbeats 4000000
/-! M16: orders of three as patterns; what comes out of a pile: plain Lean. -/
namespace Sh
open PySem PySem.Spec PyProof.Rows L2
/-! ### an order of three stands nowhere -/
theorem fits_three {s o : List Int} (hs : s.Nodup) (ho : o.Nodup) (hl : o.length = 3) {i j k : Nat} (h1 : i < j) (h2 : j < k) (h3 : k < s.length) : fitsB s o [i, j, k] = true ↔ P2 s o [i] j = true ∧ P2 s o [i, j] k = true := by
  have f1 : fitsB s o [i] = true := by
    have := fits_step hs ho (t := []) (p := i) (by simp; omega) (by simp) (by omega) (fits_nil s o)
    rw [show ([] : List Nat) ++ [i] = [i] from rfl] at this
    rw [this]
    simp [P2, lowL, dueL]
  have f2 : fitsB s o [i, j] = P2 s o [i] j := fits_step hs ho (t := [i]) (p := j) (by simp; omega) (by simp; omega) (by omega) f1
  constructor
  · intro h
    have g : fitsB s o [i, j] = true := fits_pre (t := [i, j]) (p := k) (by simp; omega) h
    have f3 := fits_step hs ho (t := [i, j]) (p := k) (by simp; omega) (by simp; omega) (by omega) g
    exact ⟨by rw [← f2]; exact g, by rw [← f3]; exact h⟩
  · rintro ⟨g1, g2⟩
    have f3 := fits_step hs ho (t := [i, j]) (p := k) (by simp; omega) (by simp; omega) (by omega) (by rw [f2]; exact g1)
    exact f3.trans g2
theorem av_iff {s o : List Int} (hs : s.Nodup) (ho : o.Nodup) (hl : o.length = 3) : placesL s o = [] ↔ ∀ i j k, i < j → j < k → k < s.length → ¬ (P2 s o [i] j = true ∧ P2 s o [i, j] k = true) := by
  unfold placesL
  rw [List.filter_eq_nil_iff]
  constructor
  · intro h i j k h1 h2 h3 hp
    refine h [i, j, k] (mem_tupsN.mpr ⟨by rw [hl]; rfl, ?_, fun x hx => ?_⟩) ((fits_three hs ho hl h1 h2 h3).mpr hp)
    · simp; omega
    · simp at hx; omega
  · intro h t ht hf
    obtain ⟨g1, g2, g3⟩ := mem_tupsN.mp ht
    rw [hl] at g1
    match t, g1 with
    | [i, j, k], _ =>
      simp at g2
      have := g3 k (by simp)
      exact h i j k (by omega) (by omega) this ((fits_three hs ho hl (by omega) (by omega) this).mp hf)
theorem av201 {s : List Int} (hs : s.Nodup) : placesL s [2, 0, 1] = [] ↔ ∀ i j k, i < j → j < k → k < s.length → ¬ (s.getD j 0 < s.getD k 0 ∧ s.getD k 0 < s.getD i 0) := by
  rw [av_iff hs (by decide) rfl]
  refine forall_congr' fun i => forall_congr' fun j => forall_congr' fun k => ?_
  refine forall_congr' fun h1 => forall_congr' fun h2 => forall_congr' fun h3 => ?_
  have n1 : s.getD i 0 ≠ s.getD j 0 := fun e => by have := nodup_getD hs (by omega) (by omega) e; omega
  have n2 : s.getD i 0 ≠ s.getD k 0 := fun e => by have := nodup_getD hs (by omega) (by omega) e; omega
  rw [P2_one, P2_two]
  simp only [show ([2, 0, 1] : List Int).getD 0 0 = 2 from rfl, show ([2, 0, 1] : List Int).getD 1 0 = 0 from rfl, show ([2, 0, 1] : List Int).getD 2 0 = 1 from rfl]
  rw [decide_eq_decide, decide_eq_decide, decide_eq_decide]
  omega
theorem av012 {s : List Int} (hs : s.Nodup) : placesL s [0, 1, 2] = [] ↔ ∀ i j k, i < j → j < k → k < s.length → ¬ (s.getD i 0 < s.getD j 0 ∧ s.getD j 0 < s.getD k 0) := by
  rw [av_iff hs (by decide) rfl]
  refine forall_congr' fun i => forall_congr' fun j => forall_congr' fun k => ?_
  refine forall_congr' fun h1 => forall_congr' fun h2 => forall_congr' fun h3 => ?_
  rw [P2_one, P2_two]
  simp only [show ([0, 1, 2] : List Int).getD 0 0 = 0 from rfl, show ([0, 1, 2] : List Int).getD 1 0 = 1 from rfl, show ([0, 1, 2] : List Int).getD 2 0 = 2 from rfl]
  rw [decide_eq_decide, decide_eq_decide, decide_eq_decide]
  omega
theorem av021 {s : List Int} (hs : s.Nodup) : placesL s [0, 2, 1] = [] ↔ ∀ i j k, i < j → j < k → k < s.length → ¬ (s.getD i 0 < s.getD k 0 ∧ s.getD k 0 < s.getD j 0) := by
  rw [av_iff hs (by decide) rfl]
  refine forall_congr' fun i => forall_congr' fun j => forall_congr' fun k => ?_
  refine forall_congr' fun h1 => forall_congr' fun h2 => forall_congr' fun h3 => ?_
  have n1 : s.getD j 0 ≠ s.getD k 0 := fun e => by have := nodup_getD hs (by omega) (by omega) e; omega
  rw [P2_one, P2_two]
  simp only [show ([0, 2, 1] : List Int).getD 0 0 = 0 from rfl, show ([0, 2, 1] : List Int).getD 1 0 = 2 from rfl, show ([0, 2, 1] : List Int).getD 2 0 = 1 from rfl]
  rw [decide_eq_decide, decide_eq_decide, decide_eq_decide]
  omega
theorem av_cnt {s o : List Int} : placesL s o = [] ↔ cnt s o = 0 := by
  unfold cnt; exact List.length_eq_zero_iff.symm
/-! ### out of a pile -/
def av201N : List Nat → Prop
  | [] => True
  | w :: ws => ws.Pairwise (fun a b => a < w → b < w → b < a) ∧ av201N ws
theorem av201N_of : ∀ {l : List Nat}, l.Nodup → (∀ i j k, i < j → j < k → k < l.length → ¬ (l.getD j 0 < l.getD k 0 ∧ l.getD k 0 < l.getD i 0)) → av201N l
  | [], _, _ => trivial
  | w :: ws, hn, h => by
    have hn' := List.nodup_cons.mp hn
    refine ⟨?_, av201N_of hn'.2 fun i j k h1 h2 h3 => ?_⟩
    · rw [List.pairwise_iff_getElem]
      intro i j hi hj hij ha hb
      have h1 := h 0 (i + 1) (j + 1) (by omega) (by omega) (by simp; omega)
      simp only [List.getD_eq_getElem?_getD, List.getElem?_cons_succ, List.getElem?_cons_zero, List.getElem?_eq_getElem hi, List.getElem?_eq_getElem hj, Option.getD_some] at h1
      have h2 : ws[i] ≠ ws[j] := fun e => by
        have := (List.pairwise_iff_getElem.mp hn'.2) i j hi hj hij
        exact this e
      omega
    · have := h (i + 1) (j + 1) (k + 1) (by omega) (by omega) (by simp; omega)
      simpa [List.getD_eq_getElem?_getD] using this
theorem of_av201N : ∀ {l : List Nat}, av201N l → ∀ i j k, i < j → j < k → k < l.length → ¬ (l.getD j 0 < l.getD k 0 ∧ l.getD k 0 < l.getD i 0)
  | [], _, i, j, k, _, _, h => by simp at h
  | w :: ws, h, i, j, k, h1, h2, h3 => by
    obtain ⟨j', rfl⟩ : ∃ j', j = j' + 1 := ⟨j - 1, by omega⟩
    obtain ⟨k', rfl⟩ : ∃ k', k = k' + 1 := ⟨k - 1, by omega⟩
    rw [List.length_cons] at h3
    cases i with
    | zero =>
      have := (List.pairwise_iff_getElem.mp h.1) j' k' (by omega) (by omega) (by omega)
      simp only [List.getD_eq_getElem?_getD, List.getElem?_cons_succ, List.getElem?_cons_zero, List.getElem?_eq_getElem (show j' < ws.length by omega), List.getElem?_eq_getElem (show k' < ws.length by omega), Option.getD_some]
      omega
    | succ i =>
      have := of_av201N h.2 i j' k' (by omega) (by omega) (by omega)
      simpa [List.getD_eq_getElem?_getD] using this
theorem Wy_zero {h : Nat} : Wy 0 (h + 1) = 0 := rfl
theorem Wy_succ (l h : Nat) : Wy (l + 1) h = Wy l (h + 1) + if 0 < h then Wy l (h - 1) else 0 := rfl
theorem pl_first : ∀ (l : Nat) (P : List Nat) (x t m : Nat), m < Wy l (P.length + 1) → x < t → ∃ w ws, pl l (x :: P) t m = w :: ws ∧ x ≤ w
  | 0, P, x, t, m, h, _ => by rw [Wy_zero] at h; omega
  | l + 1, P, x, t, m, h, hx => by
    by_cases c : m < Wy l ((x :: P).length + 1)
    · rw [pl_push c]
      obtain ⟨w, ws, e, hw⟩ := pl_first l (x :: P) t (t + 1) m c (by omega)
      exact ⟨w, ws, e, by omega⟩
    · rw [pl_pop c]
      exact ⟨x, _, rfl, Nat.le_refl _⟩
theorem pop_lt {l m x : Nat} {P : List Nat} (h : m < Wy (l + 1) (x :: P).length) (c : ¬ m < Wy l ((x :: P).length + 1)) : m - Wy l ((x :: P).length + 1) < Wy l P.length := by
  rw [Wy_succ, if_pos (by simp)] at h
  rw [List.length_cons] at h c ⊢
  rw [Nat.add_sub_cancel] at h
  omega
theorem pop_nil {l m : Nat} (h : m < Wy (l + 1) ([] : List Nat).length) : m < Wy l (([] : List Nat).length + 1) := by
  rw [Wy_succ, if_neg (by simp)] at h
  exact h
theorem pn_pl : ∀ (l : Nat) (P : List Nat) (t m : Nat), m < Wy l P.length → (∀ x ∈ P, x < t) → pn l P.length t (pl l P t m) = m
  | 0, P, t, m, h, _ => by
    cases P with
    | nil => simp [Wy] at h; rw [pn]; omega
    | cons x P => rw [List.length_cons, Wy_zero] at h; omega
  | l + 1, P, t, m, h, hP => by
    by_cases c : m < Wy l (P.length + 1)
    · rw [pl_push c]
      obtain ⟨w, ws, e, hw⟩ := pl_first l P t (t + 1) m c (by omega)
      have ih := pn_pl l (t :: P) (t + 1) m c (fun x hx => by
        rcases List.mem_cons.mp hx with z | z
        · omega
        · have := hP x z; omega)
      rw [e] at ih ⊢
      rw [pn, if_pos hw]
      exact ih
    · cases P with
      | nil => exact absurd (pop_nil h) c
      | cons x P' =>
        rw [pl_pop c]
        have hx := hP x (by simp)
        have ih := pn_pl l P' t _ (pop_lt h c) fun y hy => hP y (by simp [hy])
        rw [pn, if_neg (by omega), show (x :: P').length - 1 = P'.length by simp, ih]
        omega
theorem pl_filter : ∀ (l : Nat) (P : List Nat) (t m : Nat), m < Wy l P.length → (∀ x ∈ P, x < t) → (pl l P t m).filter (fun x => decide (x < t)) = P
  | 0, P, t, m, h, _ => by
    cases P with
    | nil => rfl
    | cons x P => rw [List.length_cons, Wy_zero] at h; omega
  | l + 1, P, t, m, h, hP => by
    by_cases c : m < Wy l (P.length + 1)
    · rw [pl_push c]
      have ih := pl_filter l (t :: P) (t + 1) m c (fun x hx => by
        rcases List.mem_cons.mp hx with z | z
        · omega
        · have := hP x z; omega)
      have e : (pl l (t :: P) (t + 1) m).filter (fun x => decide (x < t)) = ((pl l (t :: P) (t + 1) m).filter (fun x => decide (x < t + 1))).filter (fun x => decide (x < t)) := by
        rw [List.filter_filter]
        refine List.filter_congr fun x _ => ?_
        by_cases z : x < t
        · simp [z, show x < t + 1 by omega]
        · simp [z]
      rw [e, ih, List.filter_cons_of_neg (by simp)]
      exact List.filter_eq_self.mpr fun x hx => by simpa using hP x hx
    · cases P with
      | nil => exact absurd (pop_nil h) c
      | cons x P' =>
        rw [pl_pop c, List.filter_cons_of_pos (by simpa using hP x (by simp)), pl_filter l P' t _ (pop_lt h c) fun y hy => hP y (by simp [hy])]
theorem pl_perm : ∀ (l : Nat) (P : List Nat) (t m : Nat), m < Wy l P.length → ∃ p, l = P.length + 2 * p ∧ (pl l P t m).Perm (P ++ (List.range p).map fun i => t + i)
  | 0, P, t, m, h => by
    cases P with
    | nil => exact ⟨0, rfl, List.Perm.refl _⟩
    | cons x P => rw [List.length_cons, Wy_zero] at h; omega
  | l + 1, P, t, m, h => by
    by_cases c : m < Wy l (P.length + 1)
    · rw [pl_push c]
      obtain ⟨p, e, pm⟩ := pl_perm l (t :: P) (t + 1) m c
      refine ⟨p + 1, by rw [List.length_cons] at e; omega, pm.trans ?_⟩
      rw [List.range_succ_eq_map, List.map_cons, List.map_map, List.cons_append]
      have e2 : (List.range p).map ((fun i => t + i) ∘ Nat.succ) = (List.range p).map fun i => t + 1 + i := List.map_congr_left fun i _ => by simp [Function.comp]; omega
      rw [e2, Nat.add_zero]
      exact (List.perm_middle (l₁ := P)).symm
    · cases P with
      | nil => exact absurd (pop_nil h) c
      | cons x P' =>
        rw [pl_pop c]
        obtain ⟨p, e, pm⟩ := pl_perm l P' t _ (pop_lt h c)
        exact ⟨p, by rw [List.length_cons]; omega, pm.cons x⟩
theorem pl_av : ∀ (l : Nat) (P : List Nat) (t m : Nat), m < Wy l P.length → (∀ x ∈ P, x < t) → P.Pairwise (fun a b => b < a) → av201N (pl l P t m)
  | 0, P, t, m, h, _, _ => trivial
  | l + 1, P, t, m, h, hP, hd => by
    by_cases c : m < Wy l (P.length + 1)
    · rw [pl_push c]
      exact pl_av l (t :: P) (t + 1) m c (fun x hx => by
        rcases List.mem_cons.mp hx with z | z
        · omega
        · have := hP x z; omega) (List.pairwise_cons.mpr ⟨fun x hx => hP x hx, hd⟩)
    · cases P with
      | nil => exact absurd (pop_nil h) c
      | cons x P' =>
        have hd' := List.pairwise_cons.mp hd
        have hP' : ∀ y ∈ P', y < t := fun y hy => hP y (by simp [hy])
        have hx := hP x (by simp)
        have hm := pop_lt h c
        rw [pl_pop c]
        refine ⟨?_, pl_av l P' t _ hm hP' hd'.2⟩
        have hf := pl_filter l P' t _ hm hP'
        generalize pl l P' t (m - Wy l ((x :: P').length + 1)) = o' at hf ⊢
        have hp2 : (o'.filter fun y => decide (y < t)).Pairwise (fun a b => b < a) := by rw [hf]; exact hd'.2
        have := List.pairwise_filter.mp hp2
        exact this.imp fun {a b} h1 h2 h3 => h1 (by simp; omega) (by simp; omega)
theorem desc_eq {l m : List Nat} (p : l.Perm m) (h1 : l.Pairwise (fun a b => b < a)) (h2 : m.Pairwise (fun a b => b < a)) : l = m :=
  p.eq_of_pairwise (fun a b _ _ h h' => by omega) h1 h2
theorem pl_pn (n : Nat) : ∀ (l : Nat) (P : List Nat) (t : Nat) (ws : List Nat), ws.Nodup → av201N ws → ws.filter (fun x => decide (x < t)) = P → P.Pairwise (fun a b => b < a) → (∀ x ∈ ws, x < n) → (∀ x, t ≤ x → x < n → x ∈ ws) → l = ws.length + (n - t) → t ≤ n →
    pn l P.length t ws < Wy l P.length ∧ pl l P t (pn l P.length t ws) = ws
  | 0, P, t, ws, _, _, hf, _, _, _, hl, _ => by
    have : ws = [] := List.length_eq_zero_iff.mp (by omega)
    subst this
    have : P = [] := by rw [← hf]; rfl
    subst this
    exact ⟨by simp [pn, Wy], rfl⟩
  | l + 1, P, t, [], _, _, _, _, _, ha, hl, ht => by
    exfalso
    have := ha t (Nat.le_refl _) (by simp at hl; omega)
    simp at this
  | l + 1, P, t, w :: ws, hn, hav, hf, hd, hb, ha, hl, ht => by
    have hw := hb w (by simp)
    by_cases c : t ≤ w
    · have hPt : ∀ x ∈ P, x < t := fun x hx => by
        rw [← hf] at hx
        simpa using (List.mem_filter.mp hx).2
      have htn : t < n := by omega
      have hdt : (t :: P).Pairwise (fun a b => b < a) := List.pairwise_cons.mpr ⟨fun x hx => hPt x hx, hd⟩
      have hf2 : (w :: ws).filter (fun x => decide (x < t + 1)) = t :: P := by
        refine desc_eq ?_ ?_ hdt
        · -- the same numbers
          refine (List.perm_ext_iff_of_nodup (List.Nodup.sublist List.filter_sublist hn) (hdt.imp fun h e => by omega)).mpr fun x => ?_
          rw [← hf]
          simp only [List.mem_filter, List.mem_cons, decide_eq_true_eq]
          constructor
          · rintro ⟨h1, h2⟩
            by_cases e : x = t
            · exact .inl e
            · exact .inr ⟨h1, by omega⟩
          · rintro (h | ⟨h1, h2⟩)
            · subst h
              have := ha x (Nat.le_refl _) htn
              exact ⟨List.mem_cons.mp this, by omega⟩
            · exact ⟨h1, by omega⟩
        · -- falling
          by_cases e : w = t
          · subst e
            rw [List.filter_cons_of_pos (by simp)]
            refine List.pairwise_cons.mpr ⟨fun x hx => ?_, ?_⟩
            · have h1 := List.mem_filter.mp hx
              have h2 : x ≠ w := fun z => (List.nodup_cons.mp hn).1 (z ▸ h1.1)
              have := h1.2
              simp at this; omega
            · refine List.pairwise_filter.mpr (List.Pairwise.imp_of_mem (fun {a b} hma hmb h => ?_) hav.1)
              intro h1 h2
              have n1 : a ≠ w := fun z => (List.nodup_cons.mp hn).1 (z ▸ hma)
              have n2 : b ≠ w := fun z => (List.nodup_cons.mp hn).1 (z ▸ hmb)
              simp at h1 h2
              exact h (by omega) (by omega)
          · rw [List.filter_cons_of_neg (by simp; omega)]
            refine List.pairwise_filter.mpr (hav.1.imp fun {a b} h h1 h2 => ?_)
            simp at h1 h2
            exact h (by omega) (by omega)
      have ih := pl_pn n l (t :: P) (t + 1) (w :: ws) hn hav hf2 hdt hb (fun x h1 h2 => ha x (by omega) h2) (by omega) (by omega)
      rw [pn, if_pos c]
      have e : (t :: P).length = P.length + 1 := rfl
      rw [e] at ih
      refine ⟨?_, ?_⟩
      · rw [Wy_succ]; omega
      · rw [pl_push ih.1]; exact ih.2
    · have hwt : w < t := by omega
      rw [List.filter_cons_of_pos (by simpa using hwt)] at hf
      subst hf
      have hd' := List.pairwise_cons.mp hd
      have ih := pl_pn n l _ t ws (List.nodup_cons.mp hn).2 hav.2 rfl hd'.2 (fun x hx => hb x (by simp [hx])) (fun x h1 h2 => by
        rcases List.mem_cons.mp (ha x h1 h2) with z | z
        · omega
        · exact z) (by rw [List.length_cons] at hl; omega) ht
      rw [pn, if_neg c, List.length_cons, Nat.add_sub_cancel]
      refine ⟨?_, ?_⟩
      · rw [Wy_succ, if_pos (by omega), Nat.add_sub_cancel]; omega
      · rw [pl_pop (by rw [List.length_cons]; omega), List.length_cons, Nat.add_sub_cancel_left, ih.2]
/-! ### shapes out of a pile -/
theorem nI_toNat (t : List Nat) : (nI t).map Int.toNat = t := by
  unfold nI
  rw [List.map_map]
  conv => rhs; rw [← List.map_id t]
  exact List.map_congr_left fun i _ => by simp [Function.comp]
theorem nI_of {s : List Int} (h : ∀ x ∈ s, 0 ≤ x) : nI (s.map Int.toNat) = s := by
  unfold nI
  rw [List.map_map]
  conv => rhs; rw [← List.map_id s]
  refine List.map_congr_left fun x hx => ?_
  have := h x hx
  simp only [Function.comp, id]
  omega
theorem nI_getD (t : List Nat) (i : Nat) : (nI t).getD i 0 = ((t.getD i 0 : Nat) : Int) := by
  unfold nI
  simp only [List.getD_eq_getElem?_getD, List.getElem?_map]
  cases t[i]? <;> rfl
theorem nI_nodup {t : List Nat} (h : t.Nodup) : (nI t).Nodup := nodup_map h fun a _ b _ e => by omega
theorem av_nI {t : List Nat} (h : t.Nodup) : placesL (nI t) [2, 0, 1] = [] ↔ av201N t := by
  rw [av201 (nI_nodup h)]
  have hl : (nI t).length = t.length := by simp [nI]
  constructor
  · intro g
    refine av201N_of h fun i j k h1 h2 h3 z => g i j k h1 h2 (by omega) ?_
    simp only [nI_getD]
    omega
  · intro g i j k h1 h2 h3 z
    simp only [nI_getD] at z
    exact of_av201N g i j k h1 h2 (by omega) (by omega)
theorem pile_facts {n m : Nat} (hn : n ≤ 30) (hm : m < Wy (2 * n) 0) : shapeOk (pileL n m) ∧ (pileL n m).length = n ∧ placesL (pileL n m) [2, 0, 1] = [] ∧ pnum (pileL n m) = m := by
  obtain ⟨p, e, pm⟩ := pl_perm (2 * n) [] 0 m hm
  have ep : p = n := by simp at e; omega
  subst ep
  have pm' : (pl (2 * p) [] 0 m).Perm (List.range p) := by
    refine pm.trans ?_
    rw [List.nil_append]
    have : (List.range p).map (fun i => 0 + i) = List.range p := by
      conv => rhs; rw [← List.map_id (List.range p)]
      exact List.map_congr_left fun i _ => by simp
    rw [this]
  have hl : (pileL p m).length = p := by
    have := pm'.length_eq
    simp only [pileL, nI, List.length_map]
    simpa using this
  have hs : (pileL p m).Perm (rangeI p) := by
    have := pm'.map (fun i : Nat => (i : Int))
    exact this
  refine ⟨⟨by omega, by rw [hl]; exact hs⟩, hl, ?_, ?_⟩
  · exact (av_nI (pm'.nodup_iff.mpr List.nodup_range)).mpr (pl_av (2 * p) [] 0 m hm (by simp) (by simp))
  · unfold pnum
    rw [hl]
    unfold pileL
    rw [nI_toNat]
    exact pn_pl (2 * p) [] 0 m hm (by simp)
theorem pile_back {s : List Int} (h : shapeOk s) (hav : placesL s [2, 0, 1] = []) : pnum s < Wy (2 * s.length) 0 ∧ pileL s.length (pnum s) = s := by
  have hp : ∀ x ∈ s, 0 ≤ x := fun x hx => ((shapeOk_mem h).mp hx).1
  have e := nI_of hp
  have nd : (s.map Int.toNat).Nodup := nodup_map (shapeOk_row h).2 fun a ha b hb z => by
    have := hp a ha
    have := hp b hb
    omega
  have hav' : av201N (s.map Int.toNat) := (av_nI nd).mp (by rw [e]; exact hav)
  have := pl_pn s.length (2 * s.length) [] 0 (s.map Int.toNat) nd hav' (List.filter_eq_nil_iff.mpr fun x _ => by simp) (by simp) (fun x hx => by
    obtain ⟨y, hy, rfl⟩ := List.mem_map.mp hx
    have := (shapeOk_mem h).mp hy
    omega) (fun x _ hx => List.mem_map.mpr ⟨(x : Int), (shapeOk_mem h).mpr ⟨by omega, by omega⟩, by simp⟩) (by rw [List.length_map]; omega) (by omega)
  refine ⟨this.1, ?_⟩
  unfold pileL pnum
  rw [show ([] : List Nat).length = 0 from rfl] at this
  rw [this.2, e]
end Sh

set_option Elab.async false
set_option linter.all false
set_option maxRecDepth 100000
set_option maxHeartbeats 4000000
/-! M17: rows filled above their lows: plain Lean. -/
namespace Sh
open PySem PySem.Spec PyProof.Rows L2
theorem non_count {s : List Int} {k : Nat} (h : k < s.length) : cN s (k + 1) ≤ (srt (nonl s)).countP (fun y => decide (lowAt s (k + 1) < y)) := by
  rw [(srt_perm (nonl s)).countP_eq]
  unfold nonl cN
  rw [List.countP_map, List.countP_eq_length_filter, List.filter_filter]
  have : List.range s.length = List.range (k + 1) ++ (List.range' (k + 1) (s.length - (k + 1))) := by
    rw [List.range_eq_range', List.range_eq_range']
    have := List.range'_append_1 (s := 0) (m := k + 1) (n := s.length - (k + 1))
    rw [show k + 1 + (s.length - (k + 1)) = s.length by omega, Nat.zero_add] at this
    exact this.symm
  rw [this, List.filter_append, List.length_append]
  refine Nat.le_trans ?_ (Nat.le_add_right _ _)
  refine Nat.le_of_eq ?_
  congr 1
  refine List.filter_congr fun j hj => ?_
  have hj' := List.mem_range.mp hj
  by_cases d : isLow s j = true
  · simp [d]
  · have d' : isLow s j = false := by simpa using d
    obtain ⟨g1, g2⟩ := low_lt (s := s) (by omega : j < s.length) d
    have := lowAt_anti (s := s) g1 (show j ≤ k + 1 by omega) (by omega)
    have : lowAt s (k + 1) < s.getD j 0 := by omega
    simp [Function.comp, d']
    simpa [List.getD_eq_getElem?_getD] using this
/-! ### the same lows -/
structure SameLow (s q : List Int) : Prop where
  len : q.length = s.length
  low : ∀ k, k < s.length → isLow q k = isLow s k
  val : ∀ k, k < s.length → isLow s k = true → q.getD k 0 = s.getD k 0
theorem mem_take_get {s : List Int} {k : Nat} {y : Int} (h : y ∈ s.take k) : ∃ i, i < k ∧ i < s.length ∧ s.getD i 0 = y := by
  obtain ⟨i, hi⟩ := List.mem_iff_getElem?.mp h
  have hlt : i < (s.take k).length := (List.getElem?_eq_some_iff.mp hi).1
  rw [List.length_take] at hlt
  rw [List.getElem?_take_of_lt (by omega)] at hi
  exact ⟨i, by omega, by omega, by rw [List.getD_eq_getElem?_getD, hi]; rfl⟩
theorem get_mem_take {s : List Int} {i k : Nat} (h : i < k) (hs : i < s.length) : s.getD i 0 ∈ s.take k := by
  refine List.mem_iff_getElem?.mpr ⟨i, ?_⟩
  rw [List.getElem?_take_of_lt h, getD_at hs]
theorem low_le {s : List Int} {i k : Nat} (hk : k ≤ s.length) (h : i < k) : lowAt s k ≤ s.getD i 0 := by
  obtain ⟨k', rfl⟩ : ∃ k', k = k' + 1 := ⟨k - 1, by omega⟩
  exact (lowAt_min (s := s) k' (by omega)).2 _ (get_mem_take h (by omega))
theorem low_at {s : List Int} {k : Nat} (h0 : 0 < k) (hk : k ≤ s.length) : ∃ i, i < k ∧ s.getD i 0 = lowAt s k := by
  obtain ⟨k', rfl⟩ : ∃ k', k = k' + 1 := ⟨k - 1, by omega⟩
  obtain ⟨i, h1, _, h3⟩ := mem_take_get (lowAt_min (s := s) k' (by omega)).1
  exact ⟨i, h1, h3⟩
theorem sameLow_of {s q : List Int} (hl : q.length = s.length) (h1 : ∀ k, k < s.length → isLow s k = true → q.getD k 0 = s.getD k 0) (h2 : ∀ k, k < s.length → ¬ isLow s k = true → lowAt s k < q.getD k 0) : SameLow s q := by
  -- the least of q's first numbers is the least of s's
  have key : ∀ k, k < s.length → (∀ y ∈ q.take (k + 1), lowAt s (k + 1) ≤ y) ∧ lowAt s (k + 1) ∈ q.take (k + 1) := by
    intro k
    induction k with
    | zero =>
      intro hk
      have c : isLow s 0 = true := Classical.byContradiction fun z => absurd (low_lt hk z).1 (by omega)
      rw [lowAt, if_pos c]
      have e := h1 0 hk c
      refine ⟨fun y hy => ?_, ?_⟩
      · rcases (take_succ_mem (s := q) (by omega)).mp hy with z | z
        · simp at z
        · omega
      · exact (take_succ_mem (s := q) (by omega)).mpr (.inr e.symm)
    | succ k ih =>
      intro hk
      obtain ⟨g1, g2⟩ := ih (by omega)
      by_cases c : isLow s (k + 1) = true
      · have e := h1 (k + 1) hk c
        have lt : lowAt s (k + 2) = s.getD (k + 1) 0 := by rw [lowAt, if_pos c]
        have hle : s.getD (k + 1) 0 ≤ lowAt s (k + 1) := isLow_iff.mp c _ ((take_succ_mem hk).mpr (.inl (lowAt_min (s := s) k (by omega)).1))
        rw [lt]
        refine ⟨fun y hy => ?_, (take_succ_mem (s := q) (by omega)).mpr (.inr e.symm)⟩
        rcases (take_succ_mem (s := q) (by omega)).mp hy with z | z
        · have := g1 y z; omega
        · omega
      · have lt : lowAt s (k + 2) = lowAt s (k + 1) := by rw [lowAt, if_neg c]
        have := h2 (k + 1) hk c
        rw [lt]
        refine ⟨fun y hy => ?_, (take_succ_mem (s := q) (by omega)).mpr (.inl g2)⟩
        rcases (take_succ_mem (s := q) (by omega)).mp hy with z | z
        · exact g1 y z
        · omega
  refine ⟨hl, fun k hk => ?_, h1⟩
  by_cases c : isLow s k = true
  · rw [c]
    refine isLow_iff.mpr fun y hy => ?_
    have := (key k hk).1 y hy
    rw [lowAt, if_pos c] at this
    rw [h1 k hk c]
    exact this
  · rw [show isLow s k = false by simpa using c, Bool.eq_false_iff]
    intro z
    obtain ⟨g1, g2⟩ := low_lt hk c
    obtain ⟨k', rfl⟩ : ∃ k', k = k' + 1 := ⟨k - 1, by omega⟩
    have h3 := (key k' (by omega)).2
    have := isLow_iff.mp z _ ((take_succ_mem (s := q) (by omega)).mpr (.inl h3))
    have := h2 _ hk c
    omega
theorem sorted_above {S : List Int} (hs : S.Pairwise (· ≤ ·)) {i : Nat} (hi : i < S.length) {x : Int} (h : S.getD i 0 ≤ x) : S.countP (fun y => decide (x < y)) ≤ S.length - 1 - i := by
  conv => lhs; rw [← List.take_append_drop (i + 1) S]
  rw [List.countP_append]
  have e : (S.take (i + 1)).countP (fun y => decide (x < y)) = 0 := List.countP_eq_zero.mpr fun y hy => by
    obtain ⟨j, h1, h2, rfl⟩ := mem_take_get hy
    have : S.getD j 0 ≤ S.getD i 0 := by
      by_cases e : j = i
      · rw [e]; exact Int.le_refl _
      · have := (List.pairwise_iff_getElem.mp hs) j i h2 hi (by omega)
        simpa [List.getD_eq_getElem?_getD, h2, hi] using this
    intro z
    have := of_decide_eq_true z
    omega
  have := List.countP_le_length (p := fun y => decide (x < y)) (l := S.drop (i + 1))
  rw [List.length_drop] at this
  omega
theorem fillT_get {s : List Int} {k : Nat} (h : k < s.length) : (fillT s).getD k 0 = if isLow s k = true then s.getD k 0 else (srt (nonl s)).getD ((srt (nonl s)).length - 1 - cN s k) 0 := getD_mapN h 0
theorem fillU_get {s : List Int} {k : Nat} (h : k < s.length) : (fillU s).getD k 0 = if isLow s k = true then s.getD k 0 else pick s k := getD_mapN h 0
theorem S_len (s : List Int) : (srt (nonl s)).length = cN s s.length := by rw [(srt_perm _).length_eq, nonl_len]
theorem cN_lt {s : List Int} {k : Nat} (h : k < s.length) (c : ¬ isLow s k = true) : cN s k < cN s s.length := by
  have h1 := cN_mono s (show k + 1 ≤ s.length by omega)
  have h2 := cN_succ s k
  rw [if_neg c] at h2
  omega
theorem fillT_low (s : List Int) : SameLow s (fillT s) := by
  refine sameLow_of (fillT_len s) (fun k hk c => by rw [fillT_get hk, if_pos c]) (fun k hk c => ?_)
  rw [fillT_get hk, if_neg c]
  have hc := cN_lt hk c
  have sl := S_len s
  by_cases d : lowAt s k < (srt (nonl s)).getD ((srt (nonl s)).length - 1 - cN s k) 0
  · exact d
  · exfalso
    have h1 := sorted_above (srt_sorted (nonl s)) (i := (srt (nonl s)).length - 1 - cN s k) (by omega) (x := lowAt s k) (by omega)
    have h2 := non_count hk
    rw [cN_succ, if_neg c, lowAt, if_neg c] at h2
    omega
theorem fillU_low (s : List Int) : SameLow s (fillU s) := by
  refine sameLow_of (fillU_len s) (fun k hk c => by rw [fillU_get hk, if_pos c]) (fun k hk c => ?_)
  rw [fillU_get hk, if_neg c]
  simpa using (List.mem_filter.mp (pick_ok hk c)).2
/-! ### the same numbers -/
theorem nonl_of {s q : List Int} (h : SameLow s q) : nonl q = ((List.range s.length).filter fun k => !isLow s k).map fun k => q.getD k 0 := by
  unfold nonl
  rw [h.len]
  congr 1
  exact List.filter_congr fun k hk => by rw [h.low k (List.mem_range.mp hk)]
theorem fillT_nonl (s : List Int) : nonl (fillT s) = (srt (nonl s)).reverse := by
  rw [nonl_of (fillT_low s)]
  have sl := S_len s
  have key : ∀ i, i ≤ s.length → ((List.range i).filter fun k => !isLow s k).map (fun k => (fillT s).getD k 0) = (srt (nonl s)).reverse.take (cN s i) := by
    intro i
    induction i with
    | zero => intro _; simp [cN]
    | succ i ih =>
      intro hi
      rw [List.range_succ, List.filter_append, List.map_append, ih (by omega), cN_succ]
      by_cases c : isLow s i = true
      · rw [if_pos c, List.filter_cons_of_neg (by simp [c])]; simp
      · have hc := cN_lt (s := s) (k := i) (by omega) c
        rw [if_neg c, List.filter_cons_of_pos (by simpa using c)]
        have e : (srt (nonl s)).reverse[cN s i]? = some ((fillT s).getD i 0) := by
          rw [rev_at' (by omega), fillT_get (by omega), if_neg c, getD_at (by omega)]
        rw [take_more e]; rfl
  rw [key s.length (Nat.le_refl _), List.take_of_length_le (by rw [List.length_reverse]; omega)]
where rev_at' {α : Type} {l : List α} {k : Nat} (h : k < l.length) : l.reverse[k]? = l[l.length - 1 - k]? := by rw [List.getElem?_reverse h]
theorem fillU_part (s : List Int) : ∀ i, i ≤ s.length → (((List.range i).filter fun k => !isLow s k).map (fun k => (fillU s).getD k 0) ++ lft s i).Perm (srt (nonl s)) := by
  intro i
  induction i with
  | zero => intro _; exact List.Perm.refl _
  | succ i ih =>
    intro hi
    have ih' := ih (by omega)
    rw [List.range_succ, List.filter_append, List.map_append]
    by_cases c : isLow s i = true
    · rw [List.filter_cons_of_neg (by simp [c]), lft, if_pos c]; simpa using ih'
    · rw [List.filter_cons_of_pos (by simpa using c), lft, if_neg c]
      have hm := (List.mem_filter.mp (pick_ok (s := s) (by omega : i < s.length) c)).1
      refine List.Perm.trans ?_ ih'
      rw [List.append_assoc]
      refine List.Perm.append_left _ ?_
      show ([(fillU s).getD i 0] ++ (lft s i).erase (pick s i)).Perm (lft s i)
      rw [fillU_get (by omega), if_neg c]
      exact (List.perm_cons_erase hm).symm
theorem lft_end (s : List Int) : lft s s.length = [] := by
  have h1 := lft_len s s.length (Nat.le_refl _)
  have h2 := S_len s
  exact List.length_eq_zero_iff.mp (by omega)
theorem fillU_nonl (s : List Int) : (nonl (fillU s)).Perm (nonl s) := by
  rw [nonl_of (fillU_low s)]
  have := fillU_part s s.length (Nat.le_refl _)
  rw [lft_end, List.append_nil] at this
  exact this.trans (srt_perm _)
theorem split_low (s q : List Int) (h : q.length = s.length) : (((List.range s.length).filter fun k => isLow s k).map (fun k => q.getD k 0) ++ ((List.range s.length).filter fun k => !isLow s k).map (fun k => q.getD k 0)).Perm q := by
  rw [← List.map_append]
  refine ((List.filter_append_perm (isLow s) (List.range s.length)).map _).trans ?_
  rw [← h, map_getD]
theorem fill_perm {s q : List Int} (h : SameLow s q) (p : (nonl q).Perm (nonl s)) : q.Perm s := by
  refine (split_low s q h.len).symm.trans (List.Perm.trans ?_ (split_low s s rfl))
  rw [nonl_of h] at p
  have e : ((List.range s.length).filter fun k => isLow s k).map (fun k => q.getD k 0) = ((List.range s.length).filter fun k => isLow s k).map (fun k => s.getD k 0) :=
    List.map_congr_left fun k hk => by
      have := List.mem_filter.mp hk
      exact h.val k (List.mem_range.mp this.1) this.2
  rw [e]
  exact p.append_left _
theorem fillT_perm (s : List Int) : (fillT s).Perm s := fill_perm (fillT_low s) (by rw [fillT_nonl]; exact (List.reverse_perm _).trans (srt_perm _))
theorem fillU_perm (s : List Int) : (fillU s).Perm s := fill_perm (fillU_low s) (fillU_nonl s)
theorem fillT_shape {s : List Int} (h : shapeOk s) : shapeOk (fillT s) := ⟨by rw [fillT_len]; exact h.1, by rw [fillT_len]; exact (fillT_perm s).trans h.2⟩
theorem fillU_shape {s : List Int} (h : shapeOk s) : shapeOk (fillU s) := ⟨by rw [fillU_len]; exact h.1, by rw [fillU_len]; exact (fillU_perm s).trans h.2⟩
/-! ### a filling hangs on the lows alone -/
section
variable {s q : List Int}
theorem cN_same (h : SameLow s q) : ∀ k, k ≤ s.length → cN q k = cN s k := by
  intro k hk
  unfold cN
  congr 1
  exact List.filter_congr fun j hj => by rw [h.low j (by have := List.mem_range.mp hj; omega)]
theorem lowAt_same (h : SameLow s q) : ∀ k, k ≤ s.length → lowAt q k = lowAt s k
  | 0, _ => rfl
  | k + 1, hk => by
    rw [lowAt, lowAt, h.low k (by omega), lowAt_same h k (by omega)]
    by_cases c : isLow s k = true
    · rw [if_pos c, if_pos c, h.val k (by omega) c]
    · rw [if_neg c, if_neg c]
theorem S_same (p : (nonl q).Perm (nonl s)) : srt (nonl q) = srt (nonl s) := srt_of ((srt_perm _).trans p) (srt_sorted _)
theorem lft_same (h : SameLow s q) (p : (nonl q).Perm (nonl s)) : ∀ k, k ≤ s.length → lft q k = lft s k
  | 0, _ => S_same p
  | k + 1, hk => by
    rw [lft, lft, h.low k (by omega), lft_same h p k (by omega), lowAt_same h k (by omega)]
theorem fillT_same (h : SameLow s q) (p : (nonl q).Perm (nonl s)) : fillT q = fillT s := by
  refine list_ext_getD (by rw [fillT_len, fillT_len, h.len]) fun k hk => ?_
  rw [fillT_len, h.len] at hk
  rw [fillT_get (by rw [h.len]; exact hk), fillT_get hk, h.low k hk, S_same p, cN_same h k (by omega)]
  by_cases c : isLow s k = true
  · rw [if_pos c, if_pos c, h.val k hk c]
  · rw [if_neg c, if_neg c]
theorem fillU_same (h : SameLow s q) (p : (nonl q).Perm (nonl s)) : fillU q = fillU s := by
  refine list_ext_getD (by rw [fillU_len, fillU_len, h.len]) fun k hk => ?_
  rw [fillU_len, h.len] at hk
  rw [fillU_get (by rw [h.len]; exact hk), fillU_get hk, h.low k hk]
  unfold pick
  rw [lft_same h p k (by omega), lowAt_same h k (by omega)]
  by_cases c : isLow s k = true
  · rw [if_pos c, if_pos c, h.val k hk c]
  · rw [if_neg c, if_neg c]
end
/-! ### what stands nowhere in a filling -/
theorem not_low {s : List Int} {i j : Nat} (hj : j < s.length) (hij : i < j) (h : s.getD i 0 < s.getD j 0) : ¬ isLow s j = true := fun c => by
  have := isLow_iff.mp c _ (get_mem_take (s := s) (i := i) (k := j + 1) (by omega) (by omega))
  omega
theorem sorted_le {S : List Int} (hs : S.Pairwise (· ≤ ·)) {i j : Nat} (hij : i ≤ j) (hj : j < S.length) : S.getD i 0 ≤ S.getD j 0 := by
  by_cases e : i = j
  · rw [e]; exact Int.le_refl _
  · have := (List.pairwise_iff_getElem.mp hs) i j (by omega) hj (by omega)
    simpa [List.getD_eq_getElem?_getD, hj, show i < S.length by omega] using this
theorem fillT_av {s : List Int} (hs : s.Nodup) : placesL (fillT s) [0, 1, 2] = [] := by
  have L := fillT_low s
  refine (av012 ((fillT_perm s).nodup_iff.mpr hs)).mpr fun i j k h1 h2 h3 ⟨z1, z2⟩ => ?_
  rw [fillT_len] at h3
  have cj := not_low (s := fillT s) (by rw [fillT_len]; omega) h1 z1
  have ck := not_low (s := fillT s) (by rw [fillT_len]; omega) h2 z2
  rw [L.low j (by omega)] at cj
  rw [L.low k h3] at ck
  rw [fillT_get (by omega), fillT_get h3, if_neg cj, if_neg ck] at z2
  have c1 := cN_lt h3 ck
  have c2 := cN_mono s (show j + 1 ≤ k by omega)
  rw [cN_succ, if_neg cj] at c2
  have sl := S_len s
  have := sorted_le (srt_sorted (nonl s)) (i := (srt (nonl s)).length - 1 - cN s k) (j := (srt (nonl s)).length - 1 - cN s j) (by omega) (by omega)
  omega
theorem lft_sorted (s : List Int) : ∀ k, (lft s k).Pairwise (· ≤ ·)
  | 0 => srt_sorted _
  | k + 1 => by
    rw [lft]
    split
    · exact lft_sorted s k
    · exact (lft_sorted s k).sublist List.erase_sublist
theorem lft_sub (s : List Int) {j k : Nat} (h : j ≤ k) {y : Int} (hy : y ∈ lft s k) : y ∈ lft s j := by
  induction k with
  | zero => have : j = 0 := by omega
            subst this; exact hy
  | succ k ih =>
    by_cases e : j = k + 1
    · subst e; exact hy
    · refine ih (by omega) ?_
      rw [lft] at hy
      split at hy
      · exact hy
      · exact List.mem_of_mem_erase hy
theorem head_least {l : List Int} (h : l.Pairwise (· ≤ ·)) {y : Int} (hy : y ∈ l) : l.headD 0 ≤ y := by
  cases l with
  | nil => simp at hy
  | cons a r =>
    rcases List.mem_cons.mp hy with z | z
    · rw [z]; exact Int.le_refl _
    · exact (List.pairwise_cons.mp h).1 y z
theorem pick_least {s : List Int} {k : Nat} {y : Int} (hy : y ∈ lft s k) (h : lowAt s k < y) : pick s k ≤ y :=
  head_least ((lft_sorted s k).sublist List.filter_sublist) (List.mem_filter.mpr ⟨hy, by simpa using h⟩)
theorem fillU_av {s : List Int} (hs : s.Nodup) : placesL (fillU s) [0, 2, 1] = [] := by
  have L := fillU_low s
  refine (av021 ((fillU_perm s).nodup_iff.mpr hs)).mpr fun i j k h1 h2 h3 ⟨z1, z2⟩ => ?_
  rw [fillU_len] at h3
  have cj := not_low (s := fillU s) (by rw [fillU_len]; omega) h1 (by omega)
  have ck := not_low (s := fillU s) (by rw [fillU_len]; omega) (show i < k by omega) z1
  rw [L.low j (by omega)] at cj
  rw [L.low k h3] at ck
  have hl := low_le (s := fillU s) (i := i) (k := j) (by rw [fillU_len]; omega) h1
  rw [lowAt_same L j (by omega)] at hl
  have ek := fillU_get h3
  have ej := fillU_get (s := s) (k := j) (by omega)
  rw [if_neg ck] at ek
  rw [if_neg cj] at ej
  have hm := lft_sub s (show j ≤ k by omega) (List.mem_filter.mp (pick_ok h3 ck)).1
  have := pick_least hm (by omega)
  omega
/-! ### there and back -/
theorem nonl_at {s : List Int} {k : Nat} (h : k < s.length) (c : ¬ isLow s k = true) : (nonl s)[cN s k]? = some (s.getD k 0) := by
  unfold nonl
  have e : List.range s.length = List.range k ++ (k :: List.range' (k + 1) (s.length - (k + 1))) := by
    rw [List.range_eq_range', List.range_eq_range']
    have := List.range'_append_1 (s := 0) (m := k) (n := s.length - k)
    rw [show k + (s.length - k) = s.length by omega, Nat.zero_add] at this
    rw [← this, show s.length - k = (s.length - (k + 1)) + 1 by omega, List.range'_succ]
  rw [e, List.filter_append, List.filter_cons_of_pos (by simpa using c), List.map_append, List.map_cons]
  have l : ((List.range k).filter fun j => !isLow s j).length = cN s k := rfl
  rw [List.getElem?_append_right (by rw [List.length_map]; omega), List.length_map, l, Nat.sub_self]
  rfl
theorem fillT_self {s : List Int} (hs : s.Nodup) (h : placesL s [0, 1, 2] = []) : fillT s = s := by
  have hav := (av012 hs).mp h
  have pw : (nonl s).Pairwise (fun a b => b ≤ a) := by
    unfold nonl
    rw [List.pairwise_map, List.pairwise_filter]
    refine List.Pairwise.imp_of_mem (fun {a b} ha hb hab h1 h2 => ?_) List.pairwise_lt_range
    have ha' := List.mem_range.mp ha
    have hb' := List.mem_range.mp hb
    have c1 : ¬ isLow s a = true := by simpa using h1
    obtain ⟨g1, g2⟩ := low_lt ha' c1
    obtain ⟨i, h3, h4⟩ := low_at g1 (by omega : a ≤ s.length)
    have := hav i a b h3 hab hb'
    omega
  have eS : srt (nonl s) = (nonl s).reverse := (srt_of (List.reverse_perm _) (List.pairwise_reverse.mpr pw)).symm
  refine list_ext_getD (fillT_len s) fun k hk => ?_
  rw [fillT_len] at hk
  rw [fillT_get hk]
  by_cases c : isLow s k = true
  · rw [if_pos c]
  · rw [if_neg c, eS, List.length_reverse]
    have hc := cN_lt hk c
    have nl := nonl_len s
    have := nonl_at hk c
    rw [List.getD_eq_getElem?_getD, List.getElem?_reverse (by omega), show (nonl s).length - 1 - ((nonl s).length - 1 - cN s k) = cN s k by omega, this]
    rfl
theorem fillU_self {s : List Int} (hs : s.Nodup) (h : placesL s [0, 2, 1] = []) : fillU s = s := by
  have hav := (av021 hs).mp h
  -- what is left at place i: the others from there on
  have key : ∀ i, i ≤ s.length → (lft s i).Perm (((List.range' i (s.length - i)).filter fun k => !isLow s k).map fun k => s.getD k 0) ∧ ∀ k, k < i → ¬ isLow s k = true → pick s k = s.getD k 0 := by
    intro i
    induction i with
    | zero =>
      intro _
      refine ⟨?_, fun k hk => by omega⟩
      rw [lft, Nat.sub_zero, ← List.range_eq_range']
      exact srt_perm _
    | succ i ih =>
      intro hi
      obtain ⟨pm, pk⟩ := ih (by omega)
      have er : List.range' i (s.length - i) = i :: List.range' (i + 1) (s.length - (i + 1)) := by
        rw [show s.length - i = (s.length - (i + 1)) + 1 by omega, List.range'_succ]
      rw [er] at pm
      by_cases c : isLow s i = true
      · rw [List.filter_cons_of_neg (by simp [c])] at pm
        rw [lft, if_pos c]
        refine ⟨pm, fun k hk hc => ?_⟩
        by_cases e : k = i
        · subst e; exact absurd c hc
        · exact pk k (by omega) hc
      · rw [List.filter_cons_of_pos (by simpa using c), List.map_cons] at pm
        obtain ⟨g1, g2⟩ := low_lt (s := s) (by omega : i < s.length) c
        obtain ⟨i0, h3, h4⟩ := low_at g1 (by omega : i ≤ s.length)
        have e1 : pick s i = s.getD i 0 := by
          have hle := pick_least (s := s) (k := i) (pm.mem_iff.mpr (by simp)) g2
          have hm := List.mem_filter.mp (pick_ok (s := s) (by omega : i < s.length) c)
          have hlow : lowAt s i < pick s i := by simpa using hm.2
          rcases List.mem_cons.mp (pm.mem_iff.mp hm.1) with z | z
          · exact z
          · obtain ⟨k, hk, ek⟩ := List.mem_map.mp z
            have hk' := List.mem_range'_1.mp (List.mem_filter.mp hk).1
            have := hav i0 i k h3 (by omega) (by omega)
            omega
        refine ⟨?_, fun k hk hc => ?_⟩
        · rw [lft, if_neg c]
          show ((lft s i).erase (pick s i)).Perm _
          rw [e1]
          have := pm.erase (s.getD i 0)
          rw [List.erase_cons_head] at this
          exact this
        · by_cases e : k = i
          · subst e; exact e1
          · exact pk k (by omega) hc
  refine list_ext_getD (fillU_len s) fun k hk => ?_
  rw [fillU_len] at hk
  rw [fillU_get hk]
  by_cases c : isLow s k = true
  · rw [if_pos c]
  · rw [if_neg c]
    exact (key s.length (Nat.le_refl _)).2 k hk c
theorem fillU_T {s : List Int} (hs : s.Nodup) (h : placesL s [0, 2, 1] = []) : fillU (fillT s) = s := by
  rw [fillU_same (fillT_low s) (by rw [fillT_nonl]; exact (List.reverse_perm _).trans (srt_perm _))]
  exact fillU_self hs h
theorem fillT_U {s : List Int} (hs : s.Nodup) (h : placesL s [0, 1, 2] = []) : fillT (fillU s) = s := by
  rw [fillT_same (fillU_low s) (fillU_nonl s)]
  exact fillT_self hs h
end Sh

set_option Elab.async false
set_option linter.all false
set_option maxRecDepth 100000
set_option maxHeartbeats 4000000
/-! M18: what is made has its number, and what has it is made: plain Lean. -/
namespace Sh
open PySem PySem.Spec PyProof.Rows L2
theorem contrary_reverse (l : List Int) : contraryL l.reverse = (contraryL l).reverse := by
  unfold contraryL
  rw [List.length_reverse, List.map_reverse]
theorem numOk_of {s : List Int} (h : shapeOk s) : numOk s := ⟨h, fillU_shape h, fillU_shape (contrary_shape h)⟩
theorem av_back {s o : List Int} (ho : shapeOk o) : placesL s.reverse o.reverse = [] ↔ placesL s o = [] := by
  rw [av_cnt, av_cnt, cnt_back ho]
theorem av_contrary {s o : List Int} (hs : shapeOk s) (ho : shapeOk o) : placesL (contraryL s) (contraryL o) = [] ↔ placesL s o = [] := by
  rw [av_cnt, av_cnt, cnt_contrary hs ho]
def bends : List (List Int) := [[0, 2, 1], [1, 0, 2], [1, 2, 0], [2, 0, 1]]
theorem three_cases {o : List Int} (h : o ∈ threes) : o ∈ bends ∨ o = RISE ∨ o = FALL := by
  revert o; decide
theorem bend_ne {o : List Int} (h : o ∈ bends) : o ≠ RISE ∧ o ≠ FALL := by
  revert o; decide
theorem turn_turn (s : List Int) {o : List Int} (h : o ∈ bends) : turnL (turnL s o) o = s := by
  have hb : o = [0, 2, 1] ∨ o = [1, 0, 2] ∨ o = [1, 2, 0] ∨ o = [2, 0, 1] := by simpa [bends] using h
  rcases hb with rfl | rfl | rfl | rfl
  · simp [turnL, contrary_back]
  · simp [turnL]
  · simp [turnL, contrary_reverse, contrary_back]
  · simp [turnL]
theorem av_turn {s o : List Int} (hs : shapeOk s) (h : o ∈ bends) : placesL (turnL s o) o = [] ↔ placesL s [2, 0, 1] = [] := by
  have ok : shapeOk [2, 0, 1] := by decide
  have ok2 : shapeOk [1, 0, 2] := by decide
  have e1 := av_back (s := s) ok
  rw [show ([2, 0, 1] : List Int).reverse = [1, 0, 2] from rfl] at e1
  have hb : o = [0, 2, 1] ∨ o = [1, 0, 2] ∨ o = [1, 2, 0] ∨ o = [2, 0, 1] := by simpa [bends] using h
  rcases hb with rfl | rfl | rfl | rfl
  · have e := av_contrary hs ok
    rw [show contraryL [2, 0, 1] = [0, 2, 1] from rfl] at e
    simpa [turnL] using e
  · simpa [turnL] using e1
  · have e := av_contrary (reverse_shape hs) ok2
    rw [show contraryL [1, 0, 2] = [1, 2, 0] from rfl] at e
    rw [e1] at e
    simpa [turnL] using e
  · simp [turnL]
theorem av_turn' {s o : List Int} (hs : shapeOk s) (h : o ∈ bends) : placesL (turnL s o) [2, 0, 1] = [] ↔ placesL s o = [] := by
  have := av_turn (turn_shape hs o) h
  rw [turn_turn s h] at this
  exact this.symm
theorem rise_fall {s : List Int} (hs : shapeOk s) : placesL (contraryL s) FALL = [] ↔ placesL s RISE = [] := by
  have e := av_contrary hs (show shapeOk RISE by decide)
  rw [show contraryL RISE = FALL from rfl] at e
  exact e
theorem fall_rise {s : List Int} (hs : shapeOk s) : placesL (contraryL s) RISE = [] ↔ placesL s FALL = [] := by
  have e := av_contrary hs (show shapeOk FALL by decide)
  rw [show contraryL FALL = RISE from rfl] at e
  exact e
/-- what is made of a number -/
theorem made_ok {n m : Nat} {o : List Int} (hn : n ≤ 30) (ho : o ∈ threes) (hm : m < Wy (2 * n) 0) : shapeOk (madeL n o m) ∧ (madeL n o m).length = n ∧ placesL (madeL n o m) o = [] ∧ numL (madeL n o m) o = m := by
  obtain ⟨p1, p2, p3, p4⟩ := pile_facts hn hm
  have b021 : ([0, 2, 1] : List Int) ∈ bends := by decide
  have q1 := turn_shape p1 [0, 2, 1]
  have q2 := (av_turn p1 b021).mpr p3
  have q3 := turnL_len (pileL n m) [0, 2, 1]
  have nd := (shapeOk_row q1).2
  have fs := fillT_shape q1
  have fl := fillT_len (turnL (pileL n m) [0, 2, 1])
  have fa := fillT_av nd
  have fb := fillU_T nd q2
  have fn : pnum (turnL (turnL (pileL n m) [0, 2, 1]) [0, 2, 1]) = m := by rw [turn_turn _ b021, p4]
  rcases three_cases ho with h | rfl | rfl
  · have hne := bend_ne h
    unfold madeL numL
    rw [if_pos hne, if_pos hne]
    refine ⟨turn_shape p1 o, by rw [turnL_len, p2], (av_turn p1 h).mpr p3, by rw [turn_turn _ h, p4]⟩
  · unfold madeL numL
    rw [if_neg (by decide), if_neg (by decide), if_neg (by decide), if_neg (by decide)]
    refine ⟨fs, by omega, fa, ?_⟩
    rw [fb, fn]
  · unfold madeL numL
    rw [if_neg (by decide), if_pos rfl, if_neg (by decide), if_pos rfl]
    have ec : (fillT (turnL (pileL n m) [0, 2, 1])).map (fun x => (n : Int) - 1 - x) = contraryL (fillT (turnL (pileL n m) [0, 2, 1])) := by
      unfold contraryL; rw [fl, q3, p2]
    rw [ec]
    refine ⟨contrary_shape fs, by rw [contrary_len]; omega, (rise_fall fs).mpr fa, ?_⟩
    rw [contrary_back, fb, fn]
/-- what has a number is made of it -/
theorem num_ok {s o : List Int} (hs : shapeOk s) (ho : o ∈ threes) (h : placesL s o = []) : numL s o < Wy (2 * s.length) 0 ∧ madeL s.length o (numL s o) = s := by
  have b021 : ([0, 2, 1] : List Int) ∈ bends := by decide
  have rise : ∀ {s : List Int}, shapeOk s → placesL s RISE = [] → pnum (turnL (fillU s) [0, 2, 1]) < Wy (2 * s.length) 0 ∧ fillT (turnL (pileL s.length (pnum (turnL (fillU s) [0, 2, 1]))) [0, 2, 1]) = s := fun {s} hs h => by
    have us := fillU_shape hs
    have ua := fillU_av (shapeOk_row hs).2
    have ul : (turnL (fillU s) [0, 2, 1]).length = s.length := by rw [turnL_len, fillU_len]
    obtain ⟨k1, k2⟩ := pile_back (turn_shape us [0, 2, 1]) ((av_turn' us b021).mpr ua)
    rw [ul] at k1 k2
    refine ⟨k1, ?_⟩
    rw [k2, turn_turn _ b021]
    exact fillT_U (shapeOk_row hs).2 h
  rcases three_cases ho with hb | rfl | rfl
  · have hne := bend_ne hb
    obtain ⟨k1, k2⟩ := pile_back (turn_shape hs o) ((av_turn' hs hb).mpr h)
    rw [turnL_len] at k1 k2
    unfold numL madeL
    rw [if_pos hne, if_pos hne]
    exact ⟨k1, by rw [k2, turn_turn _ hb]⟩
  · obtain ⟨k1, k2⟩ := rise hs h
    unfold numL madeL
    rw [if_neg (by decide), if_neg (by decide), if_neg (by decide), if_neg (by decide)]
    exact ⟨k1, k2⟩
  · obtain ⟨k1, k2⟩ := rise (contrary_shape hs) ((fall_rise hs).mpr h)
    rw [contrary_len] at k1 k2
    unfold numL madeL
    rw [if_neg (by decide), if_pos rfl, if_neg (by decide), if_pos rfl]
    refine ⟨k1, ?_⟩
    rw [k2]
    have := contrary_back s
    unfold contraryL at this ⊢
    rw [List.length_map] at this
    exact this
/-! ### how many there are -/
def catN : Nat → List Nat
  | 0 => [1]
  | n + 1 => catN n ++ [((List.range (n + 1)).map fun j => (catN n).getD j 0 * (catN n).getD (n - j) 0).sum]
def wayL (n : Nat) : Nat → List Nat
  | 0 => 1 :: List.replicate n 0
  | l + 1 => let r := wayL n l; (List.range (n + 1)).map fun h => r.getD (h + 1) 0 + if 0 < h then r.getD (h - 1) 0 else 0
theorem wayL_get (n : Nat) : ∀ l h, h + l ≤ n → (wayL n l).getD h 0 = Wy l h
  | 0, h, hh => by
    cases h with
    | zero => rfl
    | succ h =>
      rw [wayL, Wy, if_neg (by omega)]
      simp only [List.getD_eq_getElem?_getD, List.getElem?_cons_succ, List.getElem?_replicate]
      split <;> rfl
  | l + 1, h, hh => by
    rw [wayL, getD_mapN (by omega), wayL_get n l (h + 1) (by omega), Wy]
    congr 1
    split
    · rw [wayL_get n l (h - 1) (by omega)]
    · rfl
theorem cat_way : ∀ n, n ≤ 20 → (wayL 40 (2 * n)).getD 0 0 = (catN n).getD n 0 := by decide +kernel
theorem Wy_cat {n : Nat} (h : n ≤ 20) : Wy (2 * n) 0 = (catN n).getD n 0 := by
  rw [← cat_way n h, wayL_get 40 (2 * n) 0 (by omega)]
theorem Wy_pos : ∀ n, n ≤ 20 → 0 < (catN n).getD n 0 := by decide +kernel
theorem catN_len : ∀ n, (catN n).length = n + 1
  | 0 => rfl
  | n + 1 => by rw [catN, List.length_append, catN_len n]; rfl
theorem cat_small : ∀ n, n ≤ 20 → (catN n).getD n 0 < 2 ^ 60 := by decide +kernel
end Sh

set_option Elab.async false
set_option linter.all false
set_option maxRecDepth 100000
set_option maxHeartbeats 4000000
/-! M19: all shapes of a small size without an order of three: plain Lean. -/
namespace Sh
open PySem PySem.Spec PyProof.Rows L2
theorem allU_perm : ∀ (k : Nat) (x : List Int), x ∈ allU k → x.Perm (rangeI k)
  | 0, x, h => by
    have : x = [] := by simpa [allU] using h
    subst this; exact List.Perm.refl _
  | k + 1, x, h => by
    rw [allU] at h
    obtain ⟨l, hl, hx⟩ := List.mem_flatten.mp h
    obtain ⟨r, hr, rfl⟩ := List.mem_map.mp hl
    obtain ⟨p, hp, rfl⟩ := List.mem_map.mp hx
    exact insert_perm (allU_perm k r hr) p
theorem allU_shape {k : Nat} (hk : k ≤ 30) {x : List Int} (h : x ∈ allU k) : shapeOk x ∧ x.length = k := by
  have hl := allU_mem k x h
  exact ⟨⟨by omega, by rw [hl]; exact allU_perm k x h⟩, hl⟩
theorem insAt_drop {k : Nat} {row : List Int} (h : (k : Int) ∉ row) (p : Nat) : (insAt k row p).filter (fun y => decide (y ≠ (k : Int))) = row := by
  unfold insAt
  rw [List.filter_append, List.filter_append, List.filter_cons_of_neg (by simp), List.filter_nil, List.append_nil, ← List.filter_append, List.take_append_drop]
  exact List.filter_eq_self.mpr fun y hy => by
    have : y ≠ (k : Int) := fun e => h (e ▸ hy)
    simpa using this
theorem insAt_at {k : Nat} {row : List Int} (h : (k : Int) ∉ row) {p : Nat} (hp : p ≤ row.length) : (insAt k row p).idxOf (k : Int) = p := by
  unfold insAt
  have : (k : Int) ∉ row.take p := fun z => h (List.mem_of_mem_take z)
  rw [List.append_assoc, List.idxOf_append, if_neg this]
  simp
  omega
theorem allU_nodup : ∀ k, (allU k).Nodup
  | 0 => by simp [allU]
  | k + 1 => by
    rw [allU]
    have no : ∀ r ∈ allU k, (k : Int) ∉ r := fun r hr z => by
      have := (allU_perm k r hr).mem_iff.mp z
      have := mem_rangeI.mp this
      omega
    refine flatten_nodup (insAll k) (fun y => y.filter fun z => decide (z ≠ (k : Int))) _ (allU_nodup k) (fun r hr => ?_) (fun r hr y hy => ?_)
    · unfold insAll
      refine nodup_map List.nodup_range fun a ha b hb e => ?_
      have hl := allU_mem k r hr
      have ha' := List.mem_range.mp ha
      have hb' := List.mem_range.mp hb
      have h1 := insAt_at (no r hr) (p := a) (by omega)
      have h2 := insAt_at (no r hr) (p := b) (by omega)
      rw [e] at h1
      omega
    · obtain ⟨p, _, rfl⟩ := List.mem_map.mp hy
      exact insAt_drop (no r hr) p
theorem av_few : ∀ n, n < 6 → ∀ o ∈ threes, (allU (n + 1)).countP (fun s => decide (placesL s o = [])) = (catN (n + 1)).getD (n + 1) 0 := by decide +kernel
theorem few_perm {n : Nat} (h1 : 1 ≤ n) (h6 : n ≤ 6) {o : List Int} (ho : o ∈ threes) : ((List.range (Wy (2 * n) 0)).map (madeL n o)).Perm ((allU n).filter fun s => decide (placesL s o = [])) := by
  have hc : ((allU n).filter fun s => decide (placesL s o = [])).length = Wy (2 * n) 0 := by
    rw [← List.countP_eq_length_filter, Wy_cat (by omega)]
    obtain ⟨m, rfl⟩ : ∃ m, n = m + 1 := ⟨n - 1, by omega⟩
    exact av_few m (by omega) o ho
  refine (perm_of_sub (List.Nodup.sublist List.filter_sublist (allU_nodup n)) (fun x hx => ?_) ?_).symm
  · have hx' := List.mem_filter.mp hx
    obtain ⟨sx, lx⟩ := allU_shape (by omega) hx'.1
    obtain ⟨w1, w2⟩ := num_ok sx ho (of_decide_eq_true hx'.2)
    rw [lx] at w1 w2
    exact List.mem_map.mpr ⟨_, List.mem_range.mpr w1, w2⟩
  · rw [hc, List.length_map, List.length_range]; exact Nat.le_refl _
theorem sortedLL_eq {ns ms : List (List Int)} (p : ns.Perm ms) (h1 : ns.Pairwise (· ≤ ·)) (h2 : ms.Pairwise (· ≤ ·)) : ns = ms :=
  p.eq_of_pairwise (fun a b _ _ h h' => List.le_antisymm h h') h1 h2
end Sh

open PySem PySem.Spec PyProof.Rows L2
local macro_rules | `(tactic| walk_at "rd") => `(tactic| try simp only [Sh.cxOf_K, tSeq, tAsg, tRet, tRetN, tVar, tC, tOp, tUn, tCB, tCons, tNil, tLst, tTup, gName, gSub, Sh.tFor_eq, Sh.tLc_eq, iList, iTup, iRng1, iRng2, tBM, tBM0, tNext, tIfS, tTest, tB, tYes, tAnd, tOr, tNot, tAndV, tOrV, tNotV, tIf, tDrop, tChain, tSl, tPart, tNoPart, tCall, tCallS, rI0, rI, rU, rEq, rNe, rIsB, rNotB, wipe,
   rSortedI, rIndex, rSlL, rIxL, rIxT, rSetL, rAppend, rExtend, rPop, rReverse, rCat, rRep, rCatT, rCatA, Sh.rSortedLL, rRemI, rSum, rMin, rIn, Sh.rLen, Sh.rListOf, Sh.rTupleOf, Sh.rInt1, tLstRg, tRg1, tRg2, Sh.tLenSetG, Sh.tListRev, iRevR, iRev, List.length_map, List.length_range, Int.toNat_natCast, Int.zero_add, CDiv, Int.reduceLT, Int.reduceLE,
   List.getElem?_cons_zero, List.getElem?_cons_succ, List.set_cons_zero, List.set_cons_succ, Option.some.injEq, V.int.injEq, V.ref.injEq, V.bl.injEq, List.cons.injEq, and_true, true_and, and_assoc, reduceCtorEq, false_and, and_false, exists_false, false_or, or_false, exists_eq_left', exists_eq_left, exists_and_left, exists_and_right, List.map_cons, List.map_nil, List.append_nil, List.nil_append, List.cons_append, reduceIte, Bool.true_eq_false, Bool.false_eq_true, exists_eq', exists_eq, eq_self, not_true_eq_false, not_false_eq_true, decide_true, decide_false, Bool.not_true, Bool.not_false, if_true, if_false, decide_eq_true_eq, Bool.not_eq_true', decide_eq_false_iff_not])
local macro_rules | `(tactic| walk_at "r1") => `(tactic| try simp only [Sh.cxOf_K, tAsg, tRet, tRetN, tVar, tC, tOp, tUn, tCB, tCons, tNil, tLst, tTup, gName, gSub, Sh.tFor_eq, Sh.tLc_eq, iList, iTup, iRng1, iRng2, tBM, tBM0, tNext, tIfS, tTest, tB, tYes, tAnd, tOr, tNot, tAndV, tOrV, tNotV, tIf, tDrop, tChain, tSl, tPart, tNoPart, tCall, tCallS, rI0, rI, rU, rEq, rNe, rIsB, rNotB, wipe,
   rSortedI, rIndex, rSlL, rIxL, rIxT, rSetL, rAppend, rExtend, rPop, rReverse, rCat, rRep, rCatT, rCatA, Sh.rSortedLL, rRemI, rSum, rMin, rIn, Sh.rLen, Sh.rListOf, Sh.rTupleOf, Sh.rInt1, tLstRg, tRg1, tRg2, Sh.tLenSetG, Sh.tListRev, iRevR, iRev, List.length_map, List.length_range, Int.toNat_natCast, Int.zero_add, CDiv, Int.reduceLT, Int.reduceLE,
   List.getElem?_cons_zero, List.getElem?_cons_succ, List.set_cons_zero, List.set_cons_succ, Option.some.injEq, V.int.injEq, V.ref.injEq, V.bl.injEq, List.cons.injEq, and_true, true_and, and_assoc, reduceCtorEq, false_and, and_false, exists_false, false_or, or_false, exists_eq_left', exists_eq_left, exists_and_left, exists_and_right, List.map_cons, List.map_nil, List.append_nil, List.nil_append, List.cons_append, reduceIte, Bool.true_eq_false, Bool.false_eq_true, exists_eq', exists_eq, eq_self, not_true_eq_false, not_false_eq_true, decide_true, decide_false, Bool.not_true, Bool.not_false, if_true, if_false, decide_eq_true_eq, Bool.not_eq_true', decide_eq_false_iff_not])

namespace Sh
def topS (i : Nat) : Stmt := PySem.Challenge.pw_shapeorders_k06_all_without_an_order.main.body.getD i (.Pass ⟨0, 0, 0, 0⟩)
abbrev s__law_three : Stmt := topS 40
theorem sc__law_three : FnScope ["cell"] ["cell"] (defScope s__law_three) := ⟨rfl, rfl, rfl, by decide +kernel, rfl, by decide +kernel, by decide +kernel⟩
abbrev s_ask_size : Stmt := topS 22
theorem sc_ask_size : FnScope ["size"] ["size"] (defScope s_ask_size) := ⟨rfl, rfl, rfl, by decide +kernel, rfl, by decide +kernel, by decide +kernel⟩
abbrev s_ways : Stmt := topS 24
theorem sc_ways : FnScope ["size", "rows", "left", "row", "height"] ["size"] (defScope s_ways) := ⟨rfl, rfl, rfl, by decide +kernel, rfl, by decide +kernel, by decide +kernel⟩
abbrev s_many_without : Stmt := topS 25
theorem sc_many_without : FnScope ["size"] ["size"] (defScope s_many_without) := ⟨rfl, rfl, rfl, by decide +kernel, rfl, by decide +kernel, by decide +kernel⟩
abbrev s__law_cell_at : Stmt := topS 37
theorem sc__law_cell_at : FnScope ["script", "k"] ["script", "k"] (defScope s__law_cell_at) := ⟨rfl, rfl, rfl, by decide +kernel, rfl, by decide +kernel, by decide +kernel⟩
abbrev s_is_shape : Stmt := topS 10
theorem sc_is_shape : FnScope ["some"] ["some"] (defScope s_is_shape) := ⟨rfl, rfl, rfl, by decide +kernel, rfl, by decide +kernel, by decide +kernel⟩
abbrev s_ask_shape : Stmt := topS 11
theorem sc_ask_shape : FnScope ["shape"] ["shape"] (defScope s_ask_shape) := ⟨rfl, rfl, rfl, by decide +kernel, rfl, by decide +kernel, by decide +kernel⟩
abbrev s_ask_order : Stmt := topS 14
theorem sc_ask_order : FnScope ["order"] ["order"] (defScope s_ask_order) := ⟨rfl, rfl, rfl, by decide +kernel, rfl, by decide +kernel, by decide +kernel⟩
abbrev s_ask_three : Stmt := topS 23
theorem sc_ask_three : FnScope ["order"] ["order"] (defScope s_ask_three) := ⟨rfl, rfl, rfl, by decide +kernel, rfl, by decide +kernel, by decide +kernel⟩
abbrev s_piled : Stmt := topS 26
theorem sc_piled : FnScope ["size", "number", "rows", "pile", "found", "taken", "left", "ahead"] ["size", "number"] (defScope s_piled) := ⟨rfl, rfl, rfl, by decide +kernel, rfl, by decide +kernel, by decide +kernel⟩
abbrev s_lows : Stmt := topS 29
theorem sc_lows : FnScope ["shape", "k"] ["shape"] (defScope s_lows) := ⟨rfl, rfl, rfl, by decide +kernel, rfl, by decide +kernel, by decide +kernel⟩
abbrev s_filled : Stmt := topS 30
theorem sc_filled : FnScope ["shape", "falling", "keep", "left", "found", "low", "k", "pick", "number"] ["shape", "falling"] (defScope s_filled) := ⟨rfl, rfl, rfl, by decide +kernel, rfl, by decide +kernel, by decide +kernel⟩
abbrev s_turned : Stmt := topS 28
theorem sc_turned : FnScope ["shape", "order", "found", "number"] ["shape", "order"] (defScope s_turned) := ⟨rfl, rfl, rfl, by decide +kernel, rfl, by decide +kernel, by decide +kernel⟩
abbrev s_made : Stmt := topS 31
theorem sc_made : FnScope ["size", "order", "number", "shape", "one"] ["size", "order", "number"] (defScope s_made) := ⟨rfl, rfl, rfl, by decide +kernel, rfl, by decide +kernel, by decide +kernel⟩
abbrev s_without_at : Stmt := topS 33
theorem sc_without_at : FnScope ["size", "order", "number", "whole"] ["size", "order", "number"] (defScope s_without_at) := ⟨rfl, rfl, rfl, by decide +kernel, rfl, by decide +kernel, by decide +kernel⟩
abbrev s_ranks : Stmt := topS 9
theorem sc_ranks : FnScope ["row", "rising", "number"] ["row"] (defScope s_ranks) := ⟨rfl, rfl, rfl, by decide +kernel, rfl, by decide +kernel, by decide +kernel⟩
abbrev s_fits : Stmt := topS 15
theorem sc_fits : FnScope ["row", "told", "order", "here", "place"] ["row", "told", "order"] (defScope s_fits) := ⟨rfl, rfl, rfl, by decide +kernel, rfl, by decide +kernel, by decide +kernel⟩
abbrev s_grown : Stmt := topS 16
theorem sc_grown : FnScope ["row", "order", "told", "start", "more", "place", "some"] ["row", "order", "told"] (defScope s_grown) := ⟨rfl, rfl, rfl, by decide +kernel, rfl, by decide +kernel, by decide +kernel⟩
abbrev s_found_from : Stmt := topS 17
theorem sc_found_from : FnScope ["row", "order", "told", "some", "found"] ["row", "order", "told"] (defScope s_found_from) := ⟨rfl, rfl, rfl, by decide +kernel, rfl, by decide +kernel, by decide +kernel⟩
abbrev s_ask_without : Stmt := topS 34
theorem sc_ask_without : FnScope ["shape", "order"] ["shape", "order"] (defScope s_ask_without) := ⟨rfl, rfl, rfl, by decide +kernel, rfl, by decide +kernel, by decide +kernel⟩
abbrev s_pile_number : Stmt := topS 27
theorem sc_pile_number : FnScope ["shape", "rows", "left", "height", "taken", "number", "wanted"] ["shape"] (defScope s_pile_number) := ⟨rfl, rfl, rfl, by decide +kernel, rfl, by decide +kernel, by decide +kernel⟩
abbrev s_numbered : Stmt := topS 32
theorem sc_numbered : FnScope ["shape", "order", "one"] ["shape", "order"] (defScope s_numbered) := ⟨rfl, rfl, rfl, by decide +kernel, rfl, by decide +kernel, by decide +kernel⟩
abbrev s_number_of : Stmt := topS 35
theorem sc_number_of : FnScope ["shape", "order"] ["shape", "order"] (defScope s_number_of) := ⟨rfl, rfl, rfl, by decide +kernel, rfl, by decide +kernel, by decide +kernel⟩
abbrev s__law_all : Stmt := topS 42
theorem sc__law_all : FnScope ["size", "found", "k", "longer", "row", "place"] ["size"] (defScope s__law_all) := ⟨rfl, rfl, rfl, by decide +kernel, rfl, by decide +kernel, by decide +kernel⟩
abbrev s__law_whole : Stmt := topS 38
theorem sc__law_whole : FnScope ["found"] ["found"] (defScope s__law_whole) := ⟨rfl, rfl, rfl, by decide +kernel, rfl, by decide +kernel, by decide +kernel⟩
abbrev s__law_numbers : Stmt := topS 39
theorem sc__law_numbers : FnScope ["found", "due", "x"] ["found", "due"] (defScope s__law_numbers) := ⟨rfl, rfl, rfl, by decide +kernel, rfl, by decide +kernel, by decide +kernel⟩
abbrev s__law_has : Stmt := topS 41
theorem sc__law_has : FnScope ["shape", "order", "size", "i", "j", "k", "low"] ["shape", "order"] (defScope s__law_has) := ⟨rfl, rfl, rfl, by decide +kernel, rfl, by decide +kernel, by decide +kernel⟩
abbrev s_law : Stmt := topS 43
theorem sc_law : FnScope ["script", "size", "order", "due", "count", "some", "n", "found", "told", "shape"] ["script"] (defScope s_law) := ⟨rfl, rfl, rfl, by decide +kernel, rfl, by decide +kernel, by decide +kernel⟩
/-- what the top has written -/
structure Tx (K : PySem.W.Frag) (mg : Str → Option Value) where
  f__law_three : Addr
  fd__law_three : FuncData
  F__law_three : Fun K "_law_three" "_law_three" s__law_three f__law_three fd__law_three
  g__law_three : mg "_law_three" = some (.ref f__law_three)
  b__law_three : Binds K fd__law_three ["cell"] []
  f_ask_size : Addr
  fd_ask_size : FuncData
  F_ask_size : Fun K "ask_size" "ask_size" s_ask_size f_ask_size fd_ask_size
  g_ask_size : mg "ask_size" = some (.ref f_ask_size)
  b_ask_size : Binds K fd_ask_size ["size"] []
  f_ways : Addr
  fd_ways : FuncData
  F_ways : Fun K "ways" "ways" s_ways f_ways fd_ways
  g_ways : mg "ways" = some (.ref f_ways)
  b_ways : Binds K fd_ways ["size"] []
  f_many_without : Addr
  fd_many_without : FuncData
  F_many_without : Fun K "many_without" "many_without" s_many_without f_many_without fd_many_without
  g_many_without : mg "many_without" = some (.ref f_many_without)
  b_many_without : Binds K fd_many_without ["size"] []
  f__law_cell_at : Addr
  fd__law_cell_at : FuncData
  F__law_cell_at : Fun K "_law_cell_at" "_law_cell_at" s__law_cell_at f__law_cell_at fd__law_cell_at
  g__law_cell_at : mg "_law_cell_at" = some (.ref f__law_cell_at)
  b__law_cell_at : Binds K fd__law_cell_at ["script", "k"] []
  f_is_shape : Addr
  fd_is_shape : FuncData
  F_is_shape : Fun K "is_shape" "is_shape" s_is_shape f_is_shape fd_is_shape
  g_is_shape : mg "is_shape" = some (.ref f_is_shape)
  b_is_shape : Binds K fd_is_shape ["some"] []
  f_ask_shape : Addr
  fd_ask_shape : FuncData
  F_ask_shape : Fun K "ask_shape" "ask_shape" s_ask_shape f_ask_shape fd_ask_shape
  g_ask_shape : mg "ask_shape" = some (.ref f_ask_shape)
  b_ask_shape : Binds K fd_ask_shape ["shape"] []
  f_ask_order : Addr
  fd_ask_order : FuncData
  F_ask_order : Fun K "ask_order" "ask_order" s_ask_order f_ask_order fd_ask_order
  g_ask_order : mg "ask_order" = some (.ref f_ask_order)
  b_ask_order : Binds K fd_ask_order ["order"] []
  f_ask_three : Addr
  fd_ask_three : FuncData
  F_ask_three : Fun K "ask_three" "ask_three" s_ask_three f_ask_three fd_ask_three
  g_ask_three : mg "ask_three" = some (.ref f_ask_three)
  b_ask_three : Binds K fd_ask_three ["order"] []
  f_piled : Addr
  fd_piled : FuncData
  F_piled : Fun K "piled" "piled" s_piled f_piled fd_piled
  g_piled : mg "piled" = some (.ref f_piled)
  b_piled : Binds K fd_piled ["size", "number"] []
  f_lows : Addr
  fd_lows : FuncData
  F_lows : Fun K "lows" "lows" s_lows f_lows fd_lows
  g_lows : mg "lows" = some (.ref f_lows)
  b_lows : Binds K fd_lows ["shape"] []
  f_filled : Addr
  fd_filled : FuncData
  F_filled : Fun K "filled" "filled" s_filled f_filled fd_filled
  g_filled : mg "filled" = some (.ref f_filled)
  b_filled : Binds K fd_filled ["shape", "falling"] []
  f_turned : Addr
  fd_turned : FuncData
  F_turned : Fun K "turned" "turned" s_turned f_turned fd_turned
  g_turned : mg "turned" = some (.ref f_turned)
  b_turned : Binds K fd_turned ["shape", "order"] []
  f_made : Addr
  fd_made : FuncData
  F_made : Fun K "made" "made" s_made f_made fd_made
  g_made : mg "made" = some (.ref f_made)
  b_made : Binds K fd_made ["size", "order", "number"] []
  f_without_at : Addr
  fd_without_at : FuncData
  F_without_at : Fun K "without_at" "without_at" s_without_at f_without_at fd_without_at
  g_without_at : mg "without_at" = some (.ref f_without_at)
  b_without_at : Binds K fd_without_at ["size", "order", "number"] []
  f_ranks : Addr
  fd_ranks : FuncData
  F_ranks : Fun K "ranks" "ranks" s_ranks f_ranks fd_ranks
  g_ranks : mg "ranks" = some (.ref f_ranks)
  b_ranks : Binds K fd_ranks ["row"] []
  f_fits : Addr
  fd_fits : FuncData
  F_fits : Fun K "fits" "fits" s_fits f_fits fd_fits
  g_fits : mg "fits" = some (.ref f_fits)
  b_fits : Binds K fd_fits ["row", "told", "order"] []
  f_grown : Addr
  fd_grown : FuncData
  F_grown : Fun K "grown" "grown" s_grown f_grown fd_grown
  g_grown : mg "grown" = some (.ref f_grown)
  b_grown : Binds K fd_grown ["row", "order", "told"] []
  f_found_from : Addr
  fd_found_from : FuncData
  F_found_from : Fun K "found_from" "found_from" s_found_from f_found_from fd_found_from
  g_found_from : mg "found_from" = some (.ref f_found_from)
  b_found_from : Binds K fd_found_from ["row", "order", "told"] []
  f_ask_without : Addr
  fd_ask_without : FuncData
  F_ask_without : Fun K "ask_without" "ask_without" s_ask_without f_ask_without fd_ask_without
  g_ask_without : mg "ask_without" = some (.ref f_ask_without)
  b_ask_without : Binds K fd_ask_without ["shape", "order"] []
  f_pile_number : Addr
  fd_pile_number : FuncData
  F_pile_number : Fun K "pile_number" "pile_number" s_pile_number f_pile_number fd_pile_number
  g_pile_number : mg "pile_number" = some (.ref f_pile_number)
  b_pile_number : Binds K fd_pile_number ["shape"] []
  f_numbered : Addr
  fd_numbered : FuncData
  F_numbered : Fun K "numbered" "numbered" s_numbered f_numbered fd_numbered
  g_numbered : mg "numbered" = some (.ref f_numbered)
  b_numbered : Binds K fd_numbered ["shape", "order"] []
  f_number_of : Addr
  fd_number_of : FuncData
  F_number_of : Fun K "number_of" "number_of" s_number_of f_number_of fd_number_of
  g_number_of : mg "number_of" = some (.ref f_number_of)
  b_number_of : Binds K fd_number_of ["shape", "order"] []
  f__law_all : Addr
  fd__law_all : FuncData
  F__law_all : Fun K "_law_all" "_law_all" s__law_all f__law_all fd__law_all
  g__law_all : mg "_law_all" = some (.ref f__law_all)
  b__law_all : Binds K fd__law_all ["size"] []
  f__law_whole : Addr
  fd__law_whole : FuncData
  F__law_whole : Fun K "_law_whole" "_law_whole" s__law_whole f__law_whole fd__law_whole
  g__law_whole : mg "_law_whole" = some (.ref f__law_whole)
  b__law_whole : Binds K fd__law_whole ["found"] []
  f__law_numbers : Addr
  fd__law_numbers : FuncData
  F__law_numbers : Fun K "_law_numbers" "_law_numbers" s__law_numbers f__law_numbers fd__law_numbers
  g__law_numbers : mg "_law_numbers" = some (.ref f__law_numbers)
  b__law_numbers : Binds K fd__law_numbers ["found", "due"] []
  f__law_has : Addr
  fd__law_has : FuncData
  F__law_has : Fun K "_law_has" "_law_has" s__law_has f__law_has fd__law_has
  g__law_has : mg "_law_has" = some (.ref f__law_has)
  b__law_has : Binds K fd__law_has ["shape", "order"] []
  f_law : Addr
  fd_law : FuncData
  F_law : Fun K "law" "law" s_law f_law fd_law
  g_law : mg "law" = some (.ref f_law)
  b_law : Binds K fd_law ["script"] []
  m_list : mg "list" = none
  m_range : mg "range" = none
  m_len : mg "len" = none
  m_sorted : mg "sorted" = none
  m_reversed : mg "reversed" = none
  m_min : mg "min" = none
  m_tuple : mg "tuple" = none
  m_isinstance : mg "isinstance" = none
  m_int : mg "int" = none
  m_bool : mg "bool" = none
  t_MOST_SIZE : Tok
  g_MOST_SIZE : mg "MOST_SIZE" = some (.int 20 t_MOST_SIZE)
  t_MOST : Tok
  g_MOST : mg "MOST" = some (.int 30 t_MOST)
  t_MOST_ORDER : Tok
  g_MOST_ORDER : mg "MOST_ORDER" = some (.int 4 t_MOST_ORDER)
  a_FALL : Addr
  g_FALL : mg "FALL" = some (.ref a_FALL)
  l_FALL : ∀ H, SqL K H a_FALL [.int 2, .int 1, .int 0]
  a_RISE : Addr
  g_RISE : mg "RISE" = some (.ref a_RISE)
  l_RISE : ∀ H, SqL K H a_RISE [.int 0, .int 1, .int 2]
  C_NoSize : Addr
  gC_NoSize : mg "NoSize" = some (.ref C_NoSize)
  x_NoSize : PySem.W.excIn K C_NoSize [.type "ValueError", .type "Exception", .type "BaseException", .type "object"] "ValueError.__new__" = true
  kC_NoSize : PySem.W.keepIn K (.ref C_NoSize) = true
  bC_NoSize : PySem.W.subIn K (.ref C_NoSize) (.type "BaseException") = some true
  tC_NoSize : PySem.W.typeIn K (.ref C_NoSize) = some (.type "type")
  C_NoShape : Addr
  gC_NoShape : mg "NoShape" = some (.ref C_NoShape)
  x_NoShape : PySem.W.excIn K C_NoShape [.type "ValueError", .type "Exception", .type "BaseException", .type "object"] "ValueError.__new__" = true
  kC_NoShape : PySem.W.keepIn K (.ref C_NoShape) = true
  bC_NoShape : PySem.W.subIn K (.ref C_NoShape) (.type "BaseException") = some true
  tC_NoShape : PySem.W.typeIn K (.ref C_NoShape) = some (.type "type")
  C_NoOrder : Addr
  gC_NoOrder : mg "NoOrder" = some (.ref C_NoOrder)
  x_NoOrder : PySem.W.excIn K C_NoOrder [.type "ValueError", .type "Exception", .type "BaseException", .type "object"] "ValueError.__new__" = true
  kC_NoOrder : PySem.W.keepIn K (.ref C_NoOrder) = true
  bC_NoOrder : PySem.W.subIn K (.ref C_NoOrder) (.type "BaseException") = some true
  tC_NoOrder : PySem.W.typeIn K (.ref C_NoOrder) = some (.type "type")
  C_NoNumber : Addr
  gC_NoNumber : mg "NoNumber" = some (.ref C_NoNumber)
  x_NoNumber : PySem.W.excIn K C_NoNumber [.type "ValueError", .type "Exception", .type "BaseException", .type "object"] "ValueError.__new__" = true
  kC_NoNumber : PySem.W.keepIn K (.ref C_NoNumber) = true
  bC_NoNumber : PySem.W.subIn K (.ref C_NoNumber) (.type "BaseException") = some true
  tC_NoNumber : PySem.W.typeIn K (.ref C_NoNumber) = some (.type "type")
  C_HasOrder : Addr
  gC_HasOrder : mg "HasOrder" = some (.ref C_HasOrder)
  x_HasOrder : PySem.W.excIn K C_HasOrder [.type "ValueError", .type "Exception", .type "BaseException", .type "object"] "ValueError.__new__" = true
  kC_HasOrder : PySem.W.keepIn K (.ref C_HasOrder) = true
  bC_HasOrder : PySem.W.subIn K (.ref C_HasOrder) (.type "BaseException") = some true
  tC_HasOrder : PySem.W.typeIn K (.ref C_HasOrder) = some (.type "type")
end Sh

namespace Sh
section
variable {P : Program} {w : World} {K : PySem.W.Frag} {mg : Str → Option Value} {base : Heap}
def sp__law_three (T : Tx K mg) : Sp := fun vs H Q E => ∃ (c : Int), vs = [.int c] ∧ ∀ H' p, Same H H' → H p = none → H' p = some (.lst ((three c).map V.int)) → Q (.ref p) H'
theorem ok__law_three (T : Tx K mg) : FnOk P w K mg base CX0 1 T.f__law_three T.fd__law_three ["cell"] (sp__law_three T) := by
  refine T.F__law_three.ok sc__law_three (fun vs H Q E h => ?_) (fun cdv A outer s H vs Q E hr h => ?_)
  · obtain ⟨c, rfl, _⟩ := h
    rfl
  · obtain ⟨c, rfl, q⟩ := h
    refine ⟨_, (pss_one (by exact (ps_ret (by exact (pe_callTy call_listS (by rfl) T.m_list (by decide +kernel) (pa_cons (pe_ix ix_list (pe_lst (pa_cons (pe_lst (pa_cons pe_int (pa_cons pe_int (pa_cons pe_int pa_nil)))) (pa_cons (pe_lst (pa_cons pe_int (pa_cons pe_int (pa_cons pe_int pa_nil)))) (pa_cons (pe_lst (pa_cons pe_int (pa_cons pe_int (pa_cons pe_int pa_nil)))) (pa_cons (pe_lst (pa_cons pe_int (pa_cons pe_int (pa_cons pe_int pa_nil)))) (pa_cons (pe_lst (pa_cons pe_int (pa_cons pe_int (pa_cons pe_int pa_nil)))) (pa_cons (pe_lst (pa_cons pe_int (pa_cons pe_int (pa_cons pe_int pa_nil)))) pa_nil))))))) (pe_op op_mod (pv 0) pe_int) (fun _ _ => rfl)) pa_nil)))))), ?_⟩
    rw [show (start ["cell"] [V.int c] : L2.St) = [some (V.int c)] from rfl]
    walk_at "rd"
    refine ⟨lineLe (by simp), fun p0 n0 => ⟨lineLe (by simp), fun p1 n1 => ⟨lineLe (by simp), fun p2 n2 => ⟨lineLe (by simp), fun p3 n3 => ⟨lineLe (by simp), fun p4 n4 => ⟨lineLe (by simp), fun p5 n5 => ⟨lineLe (by simp), fun p6 n6 => ?_⟩⟩⟩⟩⟩⟩⟩
    have m0 := same_new (o := .lst [V.int 0, V.int 1, V.int 2]) n0
    have m1 := same_new (o := .lst [V.int 0, V.int 2, V.int 1]) n1
    have m2 := same_new (o := .lst [V.int 1, V.int 0, V.int 2]) n2
    have m3 := same_new (o := .lst [V.int 1, V.int 2, V.int 0]) n3
    have m4 := same_new (o := .lst [V.int 2, V.int 0, V.int 1]) n4
    have m5 := same_new (o := .lst [V.int 2, V.int 1, V.int 0]) n5
    have m6 := same_new (o := .lst [V.ref p0, V.ref p1, V.ref p2, V.ref p3, V.ref p4, V.ref p5]) n6
    have s7 := m0.trans (m1.trans (m2.trans (m3.trans (m4.trans (m5.trans m6)))))
    have h0 := (m1.trans (m2.trans (m3.trans (m4.trans (m5.trans m6))))) _ _ upd_same
    have h1 := (m2.trans (m3.trans (m4.trans (m5.trans m6)))) _ _ upd_same
    have h2 := (m3.trans (m4.trans (m5.trans m6))) _ _ upd_same
    have h3 := (m4.trans (m5.trans m6)) _ _ upd_same
    have h4 := (m5.trans m6) _ _ upd_same
    have h5 := m6 _ _ upd_same
    have h6 : (upd (upd (upd (upd (upd (upd (upd H p0 (.lst [V.int 0, V.int 1, V.int 2])) p1 (.lst [V.int 0, V.int 2, V.int 1])) p2 (.lst [V.int 1, V.int 0, V.int 2])) p3 (.lst [V.int 1, V.int 2, V.int 0])) p4 (.lst [V.int 2, V.int 0, V.int 1])) p5 (.lst [V.int 2, V.int 1, V.int 0])) p6 (.lst [V.ref p0, V.ref p1, V.ref p2, V.ref p3, V.ref p4, V.ref p5])) p6 = _ := upd_same
    generalize (upd (upd (upd (upd (upd (upd (upd H p0 (.lst [V.int 0, V.int 1, V.int 2])) p1 (.lst [V.int 0, V.int 2, V.int 1])) p2 (.lst [V.int 1, V.int 0, V.int 2])) p3 (.lst [V.int 1, V.int 2, V.int 0])) p4 (.lst [V.int 2, V.int 0, V.int 1])) p5 (.lst [V.int 2, V.int 1, V.int 0])) p6 (.lst [V.ref p0, V.ref p1, V.ref p2, V.ref p3, V.ref p4, V.ref p5])) = H7 at s7 h0 h1 h2 h3 h4 h5 h6 ⊢
    have key : ∀ (j : Nat) (r : Addr), c % 6 = (j : Int) → [V.ref p0, V.ref p1, V.ref p2, V.ref p3, V.ref p4, V.ref p5][j]? = some (V.ref r) → H7 r = some (.lst ((threes.getD j []).map V.int)) →
        ∃ x, SqL K H7 p6 x ∧ ∃ x_1, atI x (c % 6) = some x_1 ∧ ∃ p, x_1 = V.ref p ∧ ∃ x, (SqL K H7 p x ∨ SqT K H7 p x) ∧ ∀ (l : Addr), H7 l = none → Q (V.ref l) (upd H7 l (.lst x)) := fun j r hj hr hx => by
      refine ⟨_, SqL.of h6, V.ref r, by rw [hj]; exact atI_nat hr, r, rfl, _, .inl (SqL.of hx), fun l nl => q _ l (s7.trans (same_new nl)) (s7.free nl) ?_⟩
      rw [upd_same, three, hj, Int.toNat_natCast]
    have hj : c % 6 = ((0 : Nat) : Int) ∨ c % 6 = ((1 : Nat) : Int) ∨ c % 6 = ((2 : Nat) : Int) ∨ c % 6 = ((3 : Nat) : Int) ∨ c % 6 = ((4 : Nat) : Int) ∨ c % 6 = ((5 : Nat) : Int) := by omega
    rcases hj with e | e | e | e | e | e
    · exact key 0 p0 e rfl h0
    · exact key 1 p1 e rfl h1
    · exact key 2 p2 e rfl h2
    · exact key 3 p3 e rfl h3
    · exact key 4 p4 e rfl h4
    · exact key 5 p5 e rfl h5

end
end Sh

namespace Sh
section
variable {P : Program} {w : World} {K : PySem.W.Frag} {mg : Str → Option Value} {base : Heap}
def sp_ask_size (T : Tx K mg) : Sp := fun vs H Q E => ∃ (n : Int), vs = [.int n] ∧ (1 ≤ n ∧ n ≤ 20 → Q .non H) ∧ (¬ (1 ≤ n ∧ n ≤ 20) → E (.ref T.C_NoSize) none H)
theorem ok_ask_size (T : Tx K mg) : FnOk P w K mg base (L2.CX P w) 1 T.f_ask_size T.fd_ask_size ["size"] (sp_ask_size T) := by
  refine T.F_ask_size.okX sc_ask_size (fun vs H Q E h => ?_) (fun cdv A outer s H vs Q E hr h => ?_)
  · obtain ⟨n, rfl, _⟩ := h
    rfl
  · obtain ⟨n, rfl, q1, q2⟩ := h
    refine ⟨_, (pss_one (by exact (ps_if (pt_not (pt_chain (op_le) (op_le) pe_int (pv 0) (pe_glob (v := .int 20) rfl T.g_MOST_SIZE ⟨_, rfl⟩))) (pss_one (by exact (ps_raise rfl (takes_of rfl rfl rfl rfl) (pmk_own PySem.F.excBase_ValueError T.x_NoSize T.gC_NoSize T.kC_NoSize (raises_own T.bC_NoSize T.tC_NoSize) (by exact rfl))))) pss_nil))), ?_⟩
    rw [show (start ["size"] [V.int n] : L2.St) = [some (V.int n)] from rfl]
    walk_at "rd"
    exact ite2 (fun c => ite2 (fun d => q2 fun z => d z.2) (fun d => q1 ⟨c, Classical.byContradiction d⟩)) (fun c => q2 fun z => c z.1)

end
end Sh

namespace Sh
section
variable {P : Program} {w : World} {K : PySem.W.Frag} {mg : Str → Option Value} {base : Heap}
def sp_ways (T : Tx K mg) : Sp := fun vs H Q E => ∃ (n : Nat), vs = [.int n] ∧ n ≤ 30 ∧ ∀ (bs : List (Addr × List Int)) H' p, Same H H' → H p = none → H' p = some (.lst (bs.map fun b => V.ref b.1)) → LLs H' bs → bs.map Prod.snd = (List.range (2 * n + 1)).map (wayN n) → Q (.ref p) H'
theorem ok_ways (T : Tx K mg) : FnOk P w K mg base CX0 1 T.f_ways T.fd_ways ["size"] (sp_ways T) := by
  refine T.F_ways.ok sc_ways (fun vs H Q E h => ?_) (fun cdv A outer s H vs Q E hr h => ?_)
  · obtain ⟨n, rfl, _⟩ := h
    rfl
  · obtain ⟨n, rfl, hn, q⟩ := h
    refine ⟨_, (pss_cons (by exact (ps_set (i := 1) sc_ways.nd rfl (Or.inl rfl) (pe_lst (pa_cons (pe_op op_cat (pe_lst (pa_cons pe_int pa_nil)) (pe_op op_rep (pe_lst (pa_cons pe_int pa_nil)) (pe_op op_add (pe_op op_mul pe_int (pv 0)) pe_int))) pa_nil))))
        (pss_cons (by exact (ps_for PassesOwn.never rfl (pi_range2 rfl T.m_range (pa_cons pe_int (pa_cons (pe_op op_add (pe_op op_mul pe_int (pv 0)) pe_int) pa_nil))) (pg_name (i := 2) sc_ways.nd rfl (Or.inl rfl))
        (pss_cons (by exact (ps_set (i := 3) sc_ways.nd rfl (Or.inl rfl) (pe_lst pa_nil)))
        (pss_cons (by exact (ps_for PassesOwn.never rfl (pi_range1 rfl T.m_range (pa_cons (pe_op op_add (pe_op op_mul pe_int (pv 0)) pe_int) pa_nil)) (pg_name (i := 4) sc_ways.nd rfl (Or.inl rfl))
        (pss_one (by exact (ps_expr (by exact (pe_bm PySem.F.plainAttrs_list PySem.F.slot_list_append PySem.F.type_list_append mt_append (pv 3) (pa_cons (pe_op op_add (pe_ix ix_list (pe_ix ix_list (pv 1) (pe_un un_neg pe_int) (fun _ _ => rfl)) (pe_op op_add (pv 4) pe_int) (fun _ _ => rfl)) (by exact (pe_ifExp (pt_cmpR (op_gt) (pv 4) pe_int (nomark _)) (pe_ix ix_list (pe_ix ix_list (pv 1) (pe_un un_neg pe_int) (fun _ _ => rfl)) (pe_op op_sub (pv 4) pe_int) (fun _ _ => rfl)) pe_int))) pa_nil))))))))
        (pss_one (by exact (ps_expr (by exact (pe_bm PySem.F.plainAttrs_list PySem.F.slot_list_append PySem.F.type_list_append mt_append (pv 1) (pa_cons (pe_op op_cat (pv 3) (pe_lst (pa_cons pe_int pa_nil))) pa_nil))))))))))
        (pss_one (by exact (ps_ret (pv 1)))))), ?_⟩
    rw [show (start ["size", "rows", "left", "row", "height"] [V.int n] : L2.St) = [some (V.int n), none, none, none, none] from rfl]
    walk_at "rd"
    refine ⟨lineLe (by simp), fun p0 n0 => ⟨lineLe (by simp), fun p1 n1 => ⟨.inl ⟨by decide, by decide⟩, _, upd_same, by omega, by omega, lineLe (by simp; omega), fun p2 n2 => ?_⟩⟩⟩
    have hrep : (List.replicate (2 * (n : Int) + 1).toNat [V.int 0]).flatten = (List.replicate (2 * n + 1) (0 : Int)).map V.int := by
      rw [show (2 * (n : Int) + 1).toNat = 2 * n + 1 by omega, List.map_replicate]
      generalize 2 * n + 1 = L
      induction L with
      | zero => rfl
      | succ L ih => rw [List.replicate_succ, List.flatten_cons, ih]; rfl
    rw [hrep]
    have m1 := same_new (o := .lst [V.int 1]) n0
    have m2 := m1.trans (same_new (o := .lst [V.int 0]) n1)
    refine ⟨_, same_new n2 _ _ (same_new n1 _ _ upd_same), _, upd_same, lineLe (by simp; omega), fun p3 n3 => ⟨lineLe (by simp), fun p4 n4 => ⟨.inl ⟨by decide, by decide⟩, by omega, by omega, by omega, by omega, ?_⟩⟩⟩
    have m3 := m2.trans (same_new (o := .lst ((List.replicate (2 * n + 1) (0 : Int)).map V.int)) n2)
    have m4 := m3.trans (same_new (o := .lst ([V.int 1] ++ (List.replicate (2 * n + 1) (0 : Int)).map V.int)) n3)
    have nR : H p4 = none := m4.free n4
    have m5 := m4.trans (same_new (o := .lst [V.ref p3]) n4)
    have n34 : p3 ≠ p4 := ne_of_none upd_same n4
    have g3 := same_new (o := .lst [V.ref p3]) n4 _ _ (upd_same (H := (upd (upd (upd H p0 (.lst [V.int 1])) p1 (.lst [V.int 0])) p2 (.lst ((List.replicate (2 * n + 1) (0 : Int)).map V.int)))) (a := p3) (o := .lst ([V.int 1] ++ (List.replicate (2 * n + 1) (0 : Int)).map V.int)))
    have g4 : (upd (upd (upd (upd (upd H p0 (.lst [V.int 1])) p1 (.lst [V.int 0])) p2 (.lst ((List.replicate (2 * n + 1) (0 : Int)).map V.int))) p3 (.lst ([V.int 1] ++ (List.replicate (2 * n + 1) (0 : Int)).map V.int))) p4 (.lst [V.ref p3])) p4 = some (.lst [V.ref p3]) := upd_same
    generalize (upd (upd (upd (upd (upd H p0 (.lst [V.int 1])) p1 (.lst [V.int 0])) p2 (.lst ((List.replicate (2 * n + 1) (0 : Int)).map V.int))) p3 (.lst ([V.int 1] ++ (List.replicate (2 * n + 1) (0 : Int)).map V.int))) p4 (.lst [V.ref p3])) = H5 at m5 g3 g4 ⊢
    rw [show (2 * (n : Int) + 1 - 1).toNat = 2 * n by omega]
    have e0 : ([V.int 1] ++ (List.replicate (2 * n + 1) (0 : Int)).map V.int) = (wayN n 0).map V.int := by rw [wayN_zero]; rfl
    rw [e0] at g3
    refine forK_range (fun i σ H' => ∃ (bs : List (Addr × List Int)) (y2 y3 y4 : Option V), σ = [some (V.int n), some (V.ref p4), y2, y3, y4] ∧ Same H H' ∧ H' p4 = some (.lst (bs.map fun b => V.ref b.1)) ∧ LLs H' bs ∧ (∀ b ∈ bs, b.1 ≠ p4) ∧ bs.map Prod.snd = (List.range (i + 1)).map (wayN n))
      ⟨[(p3, wayN n 0)], _, _, _, rfl, m5, g4, fun b hb => by
        have e : b = (p3, wayN n 0) := by simpa using hb
        subst e; exact g3, fun b hb => by
        have e : b = (p3, wayN n 0) := by simpa using hb
        subst e; exact n34, rfl⟩ (fun i σ H' hi h => ?_) (fun σ H' h => ?_)
    · obtain ⟨bs, y2, y3, y4, rfl, s1, hR, ll, nb, e⟩ := h
      obtain ⟨rs, b, rfl, eb⟩ := last_snd e
      have bl : (rs ++ [b]).length = i + 1 := by have := congrArg List.length e; simpa using this
      walk_at "rd"
      refine ⟨lineLe (by simp), fun r nr => ⟨.inl ⟨by decide, by decide⟩, by omega, by omega, ?_⟩⟩
      have hR1 := same_new (o := .lst []) nr _ _ hR
      have ll1 := ll.same (same_new (o := .lst []) nr)
      have s2 := s1.trans (same_new (o := .lst []) nr)
      have nr0 : H r = none := s1.free nr
      have hr1 : (upd H' r (.lst [])) r = some (.lst []) := upd_same
      have nrR : p4 ≠ r := ne_of_none hR nr
      have nbr := ll.ne nr
      generalize upd H' r (.lst []) = H6 at hR1 ll1 s2 hr1 ⊢
      rw [show (2 * (n : Int) + 1).toNat = 2 * n + 1 by omega]
      refine forK_range (fun j σ H' => ∃ (y4 : Option V), σ = [some (V.int n), some (V.ref p4), some (V.int (1 + (i : Int))), some (V.ref r), y4] ∧ Same H H' ∧ H' p4 = some (.lst ((rs ++ [b]).map fun b => V.ref b.1)) ∧ LLs H' (rs ++ [b]) ∧
          H' r = some (.lst (((List.range j).map fun h : Nat => (wayN n i).getD (h + 1) 0 + if 0 < h then (wayN n i).getD (h - 1) 0 else 0).map V.int)))
        ⟨_, rfl, s2, hR1, ll1, hr1⟩ (fun j σ H' hj h => ?_) (fun σ H' h => ?_)
      · obtain ⟨y4, rfl, s3, hR2, ll2, hr2⟩ := h
        have hb2 := ll2 b (by simp)
        rw [eb] at hb2
        have wl := wayN_len n i
        have hlast : atI ((rs ++ [b]).map fun b => V.ref b.1) (-1) = some (V.ref b.1) := by rw [List.map_append]; exact atI_last _ _
        walk_at "rd"
        have hpush : ∀ z : Int, z = (if 0 < j then (wayN n i).getD (j - 1) 0 else 0) → ∀ (R : Prop), (Same H (upd H' r (.lst ((((List.range j).map fun h : Nat => (wayN n i).getD (h + 1) 0 + if 0 < h then (wayN n i).getD (h - 1) 0 else 0).map V.int) ++ [V.int ((wayN n i).getD (j + 1) 0 + z)]))) → (upd H' r (.lst ((((List.range j).map fun h : Nat => (wayN n i).getD (h + 1) 0 + if 0 < h then (wayN n i).getD (h - 1) 0 else 0).map V.int) ++ [V.int ((wayN n i).getD (j + 1) 0 + z)]))) p4 = some (.lst ((rs ++ [b]).map fun b => V.ref b.1)) → LLs (upd H' r (.lst ((((List.range j).map fun h : Nat => (wayN n i).getD (h + 1) 0 + if 0 < h then (wayN n i).getD (h - 1) 0 else 0).map V.int) ++ [V.int ((wayN n i).getD (j + 1) 0 + z)]))) (rs ++ [b]) →
            (upd H' r (.lst ((((List.range j).map fun h : Nat => (wayN n i).getD (h + 1) 0 + if 0 < h then (wayN n i).getD (h - 1) 0 else 0).map V.int) ++ [V.int ((wayN n i).getD (j + 1) 0 + z)]))) r = some (.lst (((List.range (j + 1)).map fun h : Nat => (wayN n i).getD (h + 1) 0 + if 0 < h then (wayN n i).getD (h - 1) 0 else 0).map V.int)) → R) → R := fun z hz R k => by
          refine k (same_mut s3 nr0) (by rw [upd_ne nrR]; exact hR2) (ll2.mut nbr) ?_
          rw [upd_same, hz, List.range_succ, List.map_append, List.map_append]; rfl
        refine ⟨tyL hr2, _, SqL.of hR2, _, hlast, _, rfl, _, SqL.of hb2, _, atI_ints (by omega) (by omega), ite2 (fun c => ?_) (fun c => ?_)⟩
        · refine ⟨_, SqL.of hR2, _, hlast, _, rfl, _, SqL.of hb2, _, atI_ints (by omega) (by omega), _, rfl, _, rfl, _, hr2, lineLt (by simp; omega), ?_⟩
          rw [show ((j : Int) + 1).toNat = j + 1 by omega, show ((j : Int) - 1).toNat = j - 1 by omega]
          exact hpush _ (by rw [if_pos (by omega)]) _ fun k1 k2 k3 k4 => ⟨k1, k2, k3, k4⟩
        · refine ⟨_, rfl, _, hr2, lineLt (by simp; omega), ?_⟩
          rw [show ((j : Int) + 1).toNat = j + 1 by omega]
          exact hpush 0 (by rw [if_neg (by omega)]) _ fun k1 k2 k3 k4 => ⟨k1, k2, k3, k4⟩
      · obtain ⟨y4, rfl, s3, hR2, ll2, hr2⟩ := h
        walk_at "rd"
        refine ⟨tyL hR2, lineLe (by simp), fun p5 n5 => ⟨_, same_new n5 _ _ hr2, _, upd_same, lineLe (by simp; omega), fun p6 n6 => ?_⟩⟩
        have k6 := (same_new (o := .lst [V.int 0]) n5).trans (same_new (o := .lst (((List.range (2 * n + 1)).map fun h : Nat => (wayN n i).getD (h + 1) 0 + if 0 < h then (wayN n i).getD (h - 1) 0 else 0).map V.int ++ [V.int 0])) n6)
        have n60 := (same_new (o := .lst [V.int 0]) n5).free n6
        have h6 : (upd (upd H' p5 (.lst [V.int 0])) p6 (.lst (((List.range (2 * n + 1)).map fun h : Nat => (wayN n i).getD (h + 1) 0 + if 0 < h then (wayN n i).getD (h - 1) 0 else 0).map V.int ++ [V.int 0]))) p6 = some (.lst ((wayN n (i + 1)).map V.int)) := by
          rw [upd_same, wayN_succ hi]; simp
        have n6R : p6 ≠ p4 := (ne_of_none hR2 n60).symm
        refine ⟨_, k6 _ _ hR2, lineLt (by simp at bl ⊢; omega), same_mut (s3.trans k6) nR, rs ++ [b] ++ [(p6, wayN n (i + 1))], ?_, ?_, ?_, ?_⟩
        · rw [upd_same]; simp
        · exact ((ll2.same k6).snoc h6).mut fun c hc => by
            rcases List.mem_append.mp hc with z | z
            · exact nb c z
            · have e2 : c = (p6, wayN n (i + 1)) := by simpa using z
              subst e2; exact n6R
        · intro c hc
          rcases List.mem_append.mp hc with z | z
          · exact nb c z
          · have e2 : c = (p6, wayN n (i + 1)) := by simpa using z
            subst e2; exact n6R
        · rw [List.map_append, e, List.range_succ (n := i + 1), List.map_append]; rfl
    · obtain ⟨bs, y2, y3, y4, rfl, s1, hR, ll, nb, e⟩ := h
      walk_at "rd"
      exact q bs H' p4 s1 nR hR ll e

end
end Sh

namespace Sh
section
variable {P : Program} {w : World} {K : PySem.W.Frag} {mg : Str → Option Value} {base : Heap}
def sp_many_without (T : Tx K mg) : Sp := fun vs H Q E => ∃ (n : Int), vs = [.int n] ∧ (1 ≤ n ∧ n ≤ 20 → ∀ H', Same H H' → Q (.int (Wy (2 * n.toNat) 0 : Nat)) H') ∧ (¬ (1 ≤ n ∧ n ≤ 20) → E (.ref T.C_NoSize) none H)
theorem ok_many_without (T : Tx K mg) : FnOk P w K mg base (L2.CX P w) 2 T.f_many_without T.fd_many_without ["size"] (sp_many_without T) := by
  refine T.F_many_without.okX sc_many_without (fun vs H Q E h => ?_) (fun cdv A outer s H vs Q E hr h => ?_)
  · obtain ⟨n, rfl, _⟩ := h
    rfl
  · obtain ⟨n, rfl, q1, q2⟩ := h
    refine ⟨_, (pss_cons (by exact (ps_expr (by exact (pe_call (ok_ask_size T) (hr.mono (by decide)) (by rfl) T.g_ask_size T.F_ask_size.kp T.b_ask_size .nil (passes_call (takes_of rfl rfl rfl rfl) (fun _ _ _ _ h => h)) (pa_cons (pv 0) pa_nil)))))
        (pss_one (by exact (ps_ret (pe_ix ix_list (pe_ix ix_list (by exact (pe_call (ok_ways T) (hr.mono (by decide)) (by rfl) T.g_ways T.F_ways.kp T.b_ways .nil pass0 (pa_cons (pv 0) pa_nil))) (pe_op op_mul pe_int (pv 0)) (fun _ _ => rfl)) pe_int (fun _ _ => rfl)))))), ?_⟩
    rw [show (start ["size"] [V.int n] : L2.St) = [some (V.int n)] from rfl]
    walk_at "rd"
    refine ⟨n, rfl, fun ok => ?_, q2⟩
    obtain ⟨m, rfl⟩ : ∃ m : Nat, n = (m : Int) := ⟨n.toNat, by omega⟩
    walk_at "rd"
    refine ⟨m, rfl, by omega, fun bs H1 p s1 np hp ll e => ?_⟩
    obtain ⟨b, hb, hbm, eb⟩ := snd_at e (show 2 * m < 2 * m + 1 by omega)
    have hbl := ll b hbm
    rw [eb] at hbl
    have wl := wayN_len m (2 * m)
    refine ⟨.inl ⟨by decide, by decide⟩, p, rfl, _, SqL.of hp, V.ref b.1, ?_, ?_⟩
    · rw [show (2 * (m : Int)) = ((2 * m : Nat) : Int) by omega]
      exact atI_nat (by rw [List.getElem?_map, hb]; rfl)
    · refine ⟨_, rfl, _, SqL.of hbl, _, atI_ints (by omega) (by omega), ?_⟩
      rw [show Int.toNat 0 = 0 from rfl, wayN_get (by omega)]
      exact q1 ok H1 s1

end
end Sh

namespace Sh
section
variable {P : Program} {w : World} {K : PySem.W.Frag} {mg : Str → Option Value} {base : Heap}
def sp__law_cell_at (T : Tx K mg) : Sp := fun vs H Q _ => ∃ (a : Addr) (ns : List Int) (k : Int), vs = [.ref a, .int k] ∧ SqL K H a (ns.map V.int) ∧ 0 ≤ k ∧ Q (.int (ns.getD k.toNat 0)) H
theorem ok__law_cell_at (T : Tx K mg) : FnOk P w K mg base CX0 1 T.f__law_cell_at T.fd__law_cell_at ["script", "k"] (sp__law_cell_at T) := by
  refine T.F__law_cell_at.ok sc__law_cell_at (fun vs H Q E h => ?_) (fun cdv A outer s H vs Q E hr h => ?_)
  · obtain ⟨a, ns, k, rfl, _⟩ := h
    rfl
  · obtain ⟨a, ns, k, rfl, hS, hk, q⟩ := h
    refine ⟨_, (pss_cons (by exact (ps_if (pt_cmpR (op_lt) (pv 1) (by exact (pe_callB call_lenS (by rfl) T.m_len PySem.boot_len (pa_cons (pv 0) pa_nil))) (nomark _)) (pss_one (by exact (ps_ret (pe_ix ix_list (pv 0) (pv 1) (fun _ _ => rfl))))) pss_nil))
        (pss_one (by exact (ps_ret pe_int)))), ?_⟩
    rw [show (start ["script", "k"] [V.ref a, V.int k] : L2.St) = [some (V.ref a), some (V.int k)] from rfl]
    walk_at "rd"
    refine ⟨_, .inl hS, ?_⟩
    walk_at "rd"
    obtain ⟨j, rfl⟩ : ∃ j : Nat, k = (j : Int) := ⟨k.toNat, by omega⟩
    rw [Int.toNat_natCast] at q
    refine ite2 (fun c => ?_) (fun c => ?_)
    · have hi : j < ns.length := by omega
      refine ⟨_, hS, .int (ns.getD j 0), atI_nat ?_, q⟩
      rw [List.getElem?_map, List.getElem?_eq_getElem hi, List.getD_eq_getElem?_getD, List.getElem?_eq_getElem hi]
      rfl
    · have e : ns.getD j 0 = 0 := by
        rw [List.getD_eq_getElem?_getD, List.getElem?_eq_none (by omega)] <;> rfl
      rw [e] at q
      exact q

end
end Sh

namespace Sh
section
variable {P : Program} {w : World} {K : PySem.W.Frag} {mg : Str → Option Value} {base : Heap}
def sp_is_shape (T : Tx K mg) : Sp := fun vs H Q E => ∃ (a : Addr) (ns : List Int), vs = [.ref a] ∧ SqL K H a (ns.map V.int) ∧ ns.length ≤ 4000 ∧ ∀ H', Same H H' → Q (.bl (decide (shapeOk ns))) H'
theorem ok_is_shape (T : Tx K mg) : FnOk P w K mg base CX0 1 T.f_is_shape T.fd_is_shape ["some"] (sp_is_shape T) := by
  refine T.F_is_shape.ok sc_is_shape (fun vs H Q E h => ?_) (fun cdv A outer s H vs Q E hr h => ?_)
  · obtain ⟨a, ns, rfl, _⟩ := h
    rfl
  · obtain ⟨a, ns, rfl, hS, hl, q⟩ := h
    refine ⟨_, (pss_one (by exact (ps_ret (pe_and (pe_cmpR (op_le) (by exact (pe_callB call_lenS (by rfl) T.m_len PySem.boot_len (pa_cons (pv 0) pa_nil))) (pe_glob (v := .int 30) rfl T.g_MOST ⟨_, rfl⟩) (nomark _)) (pe_one (pe_cmpR (op_eqD hr.units) (by exact (pe_callB cr_sortedI (by rfl) T.m_sorted (by decide +kernel) (pa_cons (pv 0) pa_nil))) (by exact (pe_listRg rfl (by rfl) T.m_list (prg_1 (by rfl) T.m_range (by exact (pe_callB call_lenS (by rfl) T.m_len PySem.boot_len (pa_cons (pv 0) pa_nil)))))) (nomark _))))))), ?_⟩
    rw [show (start ["some"] [V.ref a] : L2.St) = [some (V.ref a)] from rfl]
    walk_at "rd"
    refine ⟨_, .inl hS, ?_⟩
    walk_at "rd"
    refine ite2 (fun c => ⟨ns, hS, fun ns' p perm ri np => ⟨_, .inl (sql_new np hS), ?_⟩⟩) (fun c => ?_)
    · walk_at "rd"
      refine ⟨⟨by decide, by decide, by omega, by omega, by omega⟩, fun r nr => ?_⟩
      refine rEq_ints (ns := ns') (ms := rangeI ns.length) (sql_new nr sql_self) (by rw [rgV_range]; exact sql_self) ?_
      have e : decide (ns' = rangeI ns.length) = decide (shapeOk ns) := by
        refine decide_eq_decide.mpr ((shape_sorted perm ri).trans ⟨fun z => ⟨by omega, z⟩, fun z => z.2⟩)
      rw [e]
      exact q _ ((same_new np).trans (same_new nr))
    · have e : decide (shapeOk ns) = false := decide_eq_false fun z => by have := z.1; omega
      have := q H (Same.refl H)
      rw [e] at this
      exact this

end
end Sh

namespace Sh
section
variable {P : Program} {w : World} {K : PySem.W.Frag} {mg : Str → Option Value} {base : Heap}
def sp_ask_shape (T : Tx K mg) : Sp := fun vs H Q E => ∃ (a : Addr) (ns : List Int), vs = [.ref a] ∧ SqL K H a (ns.map V.int) ∧ ns.length ≤ 4000 ∧ (shapeOk ns → ∀ H', Same H H' → Q .non H') ∧ (¬ shapeOk ns → ∀ H', Same H H' → E (.ref T.C_NoShape) none H')
theorem ok_ask_shape (T : Tx K mg) : FnOk P w K mg base (L2.CX P w) 2 T.f_ask_shape T.fd_ask_shape ["shape"] (sp_ask_shape T) := by
  refine T.F_ask_shape.okX sc_ask_shape (fun vs H Q E h => ?_) (fun cdv A outer s H vs Q E hr h => ?_)
  · obtain ⟨a, ns, rfl, _⟩ := h
    rfl
  · obtain ⟨a, ns, rfl, hS, hl, q1, q2⟩ := h
    refine ⟨_, (pss_one (by exact (ps_if (pt_not (pt_val (by exact (pe_call (ok_is_shape T) (hr.mono (by decide)) (by rfl) T.g_is_shape T.F_is_shape.kp T.b_is_shape .nil pass0 (pa_cons (pv 0) pa_nil))))) (pss_one (by exact (ps_raise rfl (takes_of rfl rfl rfl rfl) (pmk_own PySem.F.excBase_ValueError T.x_NoShape T.gC_NoShape T.kC_NoShape (raises_own T.bC_NoShape T.tC_NoShape) (by exact rfl))))) pss_nil))), ?_⟩
    rw [show (start ["shape"] [V.ref a] : L2.St) = [some (V.ref a)] from rfl]
    walk_at "rd"
    refine ⟨a, ns, rfl, hS, hl, fun H' s => ⟨_, rfl, ite2 (fun c => ?_) (fun c => ?_)⟩⟩
    · exact q2 (of_decide_eq_false c) H' s
    · exact q1 (of_decide_eq_true (by simpa using c)) H' s

end
end Sh

namespace Sh
section
variable {P : Program} {w : World} {K : PySem.W.Frag} {mg : Str → Option Value} {base : Heap}
def sp_ask_order (T : Tx K mg) : Sp := fun vs H Q E => ∃ (a : Addr) (ns : List Int), vs = [.ref a] ∧ SqL K H a (ns.map V.int) ∧ ns.length ≤ 4000 ∧ (shapeOk ns → 1 ≤ ns.length ∧ ns.length ≤ 4 → ∀ H', Same H H' → Q .non H') ∧ (¬ shapeOk ns → ∀ H', Same H H' → E (.ref T.C_NoShape) none H') ∧ (shapeOk ns → ¬ (1 ≤ ns.length ∧ ns.length ≤ 4) → ∀ H', Same H H' → E (.ref T.C_NoOrder) none H')
theorem ok_ask_order (T : Tx K mg) : FnOk P w K mg base (L2.CX P w) 3 T.f_ask_order T.fd_ask_order ["order"] (sp_ask_order T) := by
  refine T.F_ask_order.okX sc_ask_order (fun vs H Q E h => ?_) (fun cdv A outer s H vs Q E hr h => ?_)
  · obtain ⟨a, ns, rfl, _⟩ := h
    rfl
  · obtain ⟨a, ns, rfl, hS, hl, q1, q2, q3⟩ := h
    refine ⟨_, (pss_cons (by exact (ps_expr (by exact (pe_call (ok_ask_shape T) (hr.mono (by decide)) (by rfl) T.g_ask_shape T.F_ask_shape.kp T.b_ask_shape .nil (passes_call (takes_of rfl rfl rfl rfl) (fun _ _ _ _ h => h)) (pa_cons (pv 0) pa_nil)))))
        (pss_one (by exact (ps_if (pt_not (pt_chain (op_le) (op_le) pe_int (by exact (pe_callB call_lenS (by rfl) T.m_len PySem.boot_len (pa_cons (pv 0) pa_nil))) (pe_glob (v := .int 4) rfl T.g_MOST_ORDER ⟨_, rfl⟩))) (pss_one (by exact (ps_raise rfl (takes_of rfl rfl rfl rfl) (pmk_own PySem.F.excBase_ValueError T.x_NoOrder T.gC_NoOrder T.kC_NoOrder (raises_own T.bC_NoOrder T.tC_NoOrder) (by exact rfl))))) pss_nil)))), ?_⟩
    rw [show (start ["order"] [V.ref a] : L2.St) = [some (V.ref a)] from rfl]
    walk_at "rd"
    refine ⟨a, ns, rfl, hS, hl, fun ok H1 s1 => ?_, q2⟩
    walk_at "rd"
    refine ⟨_, .inl (s1.seq hS), ?_⟩
    simp only [List.length_map]
    exact ite2 (fun c => ite2 (fun d => q3 ok (fun z => d (by omega)) _ s1) (fun d => q1 ok (by omega) _ s1)) (fun c => q3 ok (fun z => c (by omega)) _ s1)

end
end Sh

namespace Sh
section
variable {P : Program} {w : World} {K : PySem.W.Frag} {mg : Str → Option Value} {base : Heap}
def sp_ask_three (T : Tx K mg) : Sp := fun vs H Q E => ∃ (a : Addr) (ns : List Int), vs = [.ref a] ∧ SqL K H a (ns.map V.int) ∧ ns.length ≤ 4000 ∧ (shapeOk ns → ns.length = 3 → ∀ H', Same H H' → Q .non H') ∧ (¬ shapeOk ns → ∀ H', Same H H' → E (.ref T.C_NoShape) none H') ∧ (shapeOk ns → ¬ ns.length = 3 → ∀ H', Same H H' → E (.ref T.C_NoOrder) none H')
theorem ok_ask_three (T : Tx K mg) : FnOk P w K mg base (L2.CX P w) 4 T.f_ask_three T.fd_ask_three ["order"] (sp_ask_three T) := by
  refine T.F_ask_three.okX sc_ask_three (fun vs H Q E h => ?_) (fun cdv A outer s H vs Q E hr h => ?_)
  · obtain ⟨a, ns, rfl, _⟩ := h
    rfl
  · obtain ⟨a, ns, rfl, hS, hl, q1, q2, q3⟩ := h
    refine ⟨_, (pss_cons (by exact (ps_expr (by exact (pe_call (ok_ask_order T) (hr.mono (by decide)) (by rfl) T.g_ask_order T.F_ask_order.kp T.b_ask_order .nil (passes_call (takes_of rfl rfl rfl rfl) (fun _ _ _ _ h => h)) (pa_cons (pv 0) pa_nil)))))
        (pss_one (by exact (ps_if (pt_cmpR (op_ne) (by exact (pe_callB call_lenS (by rfl) T.m_len PySem.boot_len (pa_cons (pv 0) pa_nil))) pe_int (nomark _)) (pss_one (by exact (ps_raise rfl (takes_of rfl rfl rfl rfl) (pmk_own PySem.F.excBase_ValueError T.x_NoOrder T.gC_NoOrder T.kC_NoOrder (raises_own T.bC_NoOrder T.tC_NoOrder) (by exact rfl))))) pss_nil)))), ?_⟩
    rw [show (start ["order"] [V.ref a] : L2.St) = [some (V.ref a)] from rfl]
    walk_at "rd"
    refine ⟨a, ns, rfl, hS, hl, fun ok k1 H1 s1 => ?_, q2, fun ok k1 H1 s1 => q3 ok (fun z => k1 (by omega)) _ s1⟩
    walk_at "rd"
    refine ⟨_, .inl (s1.seq hS), rfl, ?_⟩
    rw [List.length_map]
    exact ite2 (fun c => q3 ok (fun z => c (by omega)) _ s1) (fun c => q1 ok (by omega) _ s1)

end
end Sh

namespace Sh
section
variable {P : Program} {w : World} {K : PySem.W.Frag} {mg : Str → Option Value} {base : Heap}
def sp_piled (T : Tx K mg) : Sp := fun vs H Q E => ∃ (n m : Nat), vs = [.int n, .int m] ∧ n ≤ 30 ∧ m < Wy (2 * n) 0 ∧ ∀ H' p, Same H H' → H p = none → H' p = some (.lst ((pileL n m).map V.int)) → Q (.ref p) H'
theorem ok_piled (T : Tx K mg) : FnOk P w K mg base CX0 2 T.f_piled T.fd_piled ["size", "number"] (sp_piled T) := by
  refine T.F_piled.ok sc_piled (fun vs H Q E h => ?_) (fun cdv A outer s H vs Q E hr h => ?_)
  · obtain ⟨n, m, rfl, _⟩ := h
    rfl
  · obtain ⟨n, m0, rfl, hn, hm, q⟩ := h
    refine ⟨_, (pss_cons (by exact (ps_set (i := 2) sc_piled.nd rfl (Or.inl rfl) (by exact (pe_call (ok_ways T) (hr.mono (by decide)) (by rfl) T.g_ways T.F_ways.kp T.b_ways .nil pass0 (pa_cons (pv 0) pa_nil)))))
        (pss_cons (by exact (ps_set (i := 3) sc_piled.nd rfl (Or.inl rfl) (pe_lst pa_nil)))
        (pss_cons (by exact (ps_set (i := 4) sc_piled.nd rfl (Or.inl rfl) (pe_lst pa_nil)))
        (pss_cons (by exact (ps_set (i := 5) sc_piled.nd rfl (Or.inl rfl) pe_int))
        (pss_cons (by exact (ps_for PassesOwn.never rfl (pi_revR rfl T.m_reversed (prg_1 (by rfl) T.m_range (pe_op op_mul pe_int (pv 0)))) (pg_name (i := 6) sc_piled.nd rfl (Or.inl rfl))
        (pss_cons (by exact (ps_set (i := 7) sc_piled.nd rfl (Or.inl rfl) (pe_ix ix_list (pe_ix ix_list (pv 2) (pv 6) (fun _ _ => rfl)) (pe_op op_add (by exact (pe_callB call_lenS (by rfl) T.m_len PySem.boot_len (pa_cons (pv 3) pa_nil))) pe_int) (fun _ _ => rfl))))
        (pss_one (by exact (ps_if (pt_cmpR (op_lt) (pv 1) (pv 7) (nomark _)) (pss_cons (by exact (ps_expr (by exact (pe_bm PySem.F.plainAttrs_list PySem.F.slot_list_append PySem.F.type_list_append mt_append (pv 3) (pa_cons (pv 5) pa_nil)))))
        (pss_one (by exact (ps_set (i := 5) sc_piled.nd rfl (Or.inl rfl) (pe_op op_add (pv 5) pe_int))))) (pss_cons (by exact (ps_set (i := 1) sc_piled.nd rfl (Or.inl rfl) (pe_op op_sub (pv 1) (pv 7))))
        (pss_one (by exact (ps_expr (by exact (pe_bm PySem.F.plainAttrs_list PySem.F.slot_list_append PySem.F.type_list_append mt_append (pv 4) (pa_cons (by exact (pe_bm0 PySem.F.plainAttrs_list PySem.F.slot_list_pop PySem.F.type_list_pop mt_pop (pv 3))) pa_nil)))))))))))))
        (pss_one (by exact (ps_ret (pv 4))))))))), ?_⟩
    rw [show (start ["size", "number", "rows", "pile", "found", "taken", "left", "ahead"] [V.int n, V.int m0] : L2.St) = [some (V.int n), some (V.int m0), none, none, none, none, none, none] from rfl]
    walk_at "rd"
    refine ⟨n, rfl, hn, fun bs H1 ra s1 nra hra ll e => ?_⟩
    walk_at "rd"
    refine ⟨lineLe (by simp), fun pp npp => ⟨lineLe (by simp), fun f nf => ⟨.inl ⟨by decide, by decide⟩, by omega, by omega, by omega, by omega, ?_⟩⟩⟩
    have m2 := (same_new (o := .lst []) npp).trans (same_new (o := .lst []) nf)
    have hp2 : (upd (upd H1 pp (.lst [])) f (.lst [])) pp = some (.lst []) := same_new nf _ _ upd_same
    have hf2 : (upd (upd H1 pp (.lst [])) f (.lst [])) f = some (.lst []) := upd_same
    have npp0 : H pp = none := s1.free npp
    have nf0 : H f = none := (s1.trans (same_new npp)).free nf
    have npf : pp ≠ f := ne_of_none upd_same nf
    have hra2 := m2 _ _ hra
    have npr : ra ≠ pp := ne_of_none hra npp
    have nfr : ra ≠ f := ne_of_none (same_new npp _ _ hra) nf
    have ll2 := ll.same m2
    have nbp : ∀ b ∈ bs, b.1 ≠ pp := ll.ne npp
    have nbf : ∀ b ∈ bs, b.1 ≠ f := (ll.same (same_new npp)).ne nf
    replace s1 := s1.trans m2
    generalize (upd (upd H1 pp (.lst [])) f (.lst [])) = H2 at hp2 hf2 hra2 ll2 s1 ⊢
    rw [show (2 * (n : Int) - 0).toNat = 2 * n by omega]
    refine forK_revR rfl (fun i σ H' => ∃ (P : List Nat) (t m : Nat) (fo : List Nat) (y6 y7 : Option V), σ = [some (V.int n), some (V.int m), some (V.ref ra), some (V.ref pp), some (V.ref f), some (V.int t), y6, y7] ∧ Same H H' ∧ H' ra = some (.lst (bs.map fun b => V.ref b.1)) ∧ LLs H' bs ∧
        H' pp = some (.lst (P.reverse.map nV)) ∧ H' f = some (.lst (fo.map nV)) ∧ fo ++ pl (2 * n - i) P t m = pl (2 * n) [] 0 m0 ∧ m < Wy (2 * n - i) P.length ∧ P.length ≤ i ∧ fo.length ≤ i)
      ⟨[], 0, m0, [], _, _, rfl, s1, hra2, ll2, hp2, hf2, rfl, hm, by simp, by simp⟩ (fun i σ H' hi h => ?_) (fun σ H' h => ?_)
    · obtain ⟨P, t, m, fo, y6, y7, rfl, s3, hra3, ll3, hp3, hf3, ep, hmP, lP, lf⟩ := h
      obtain ⟨l, hl⟩ : ∃ l, 2 * n - i = l + 1 := ⟨2 * n - 1 - i, by omega⟩
      rw [hl] at ep hmP
      have el : 2 * n - 1 - i = l := by omega
      have el2 : 2 * n - (i + 1) = l := by omega
      rw [el, el2]
      obtain ⟨b, hb, hbm, eb⟩ := snd_at e (show l < 2 * n + 1 by omega)
      have hbl := ll3 b hbm
      rw [eb] at hbl
      have wl := wayN_len n l
      walk_at "rd"
      refine ⟨_, SqL.of hra3, V.ref b.1, atI_nat (by rw [List.getElem?_map, hb]; rfl), _, .inl (SqL.of hp3), ?_⟩
      refine ⟨_, rfl, _, SqL.of hbl, _, by rw [List.length_map, List.length_reverse]; exact atI_ints (by omega) (by omega), _, rfl, ?_⟩
      rw [show ((P.length : Int) + 1).toNat = P.length + 1 by omega, wayN_get (by omega)]
      refine ite2 (fun c => ?_) (fun c => ?_)
      · have c' : m < Wy l (P.length + 1) := by omega
        rw [pl_push c'] at ep
        refine ⟨tyL hp3, _, hp3, lineLt (by simp; omega), t :: P, t + 1, m, rfl, by omega, same_mut s3 npp0, by rw [upd_ne npr]; exact hra3, ll3.mut nbp, ?_, fo, by rw [upd_ne npf.symm]; exact hf3, ep, c', by simp; omega, by omega⟩
        rw [upd_same]; simp
      · have c' : ¬ m < Wy l (P.length + 1) := by omega
        cases P with
        | nil =>
          exfalso
          rw [Wy, if_neg (by simp)] at hmP
          simp at c' hmP
          omega
        | cons x P' =>
          rw [pl_pop c'] at ep
          have hm2 : m - Wy l ((x :: P').length + 1) < Wy l P'.length := by
            rw [Wy, if_pos (by simp)] at hmP
            simp only [List.length_cons, Nat.add_sub_cancel] at hmP c' ⊢
            omega
          have hlast : ((x :: P').reverse.map nV)[((x :: P').reverse.map nV).length - 1]? = some (nV x) := by simp
          have hdl : ((x :: P').reverse.map nV).dropLast = P'.reverse.map nV := by simp
          refine ⟨_, rfl, tyL hf3, tyL hp3, _, hp3, _, hlast, ?_⟩
          rw [hdl]
          refine ⟨_, (upd_ne npf.symm).trans hf3, lineLt (by simp; omega), P', t, m - Wy l ((x :: P').length + 1), by omega, rfl, same_mut (same_mut s3 npp0) nf0, by rw [upd_ne nfr, upd_ne npr]; exact hra3, (ll3.mut nbp).mut nbf, by rw [upd_ne npf, upd_same], fo ++ [x], ?_, by rw [← ep]; simp, hm2, by simp at lP; omega, by simp; omega⟩
          rw [upd_same]; simp
    · obtain ⟨P, t, m, fo, y6, y7, rfl, s3, hra3, ll3, hp3, hf3, ep, hmP, lP, lf⟩ := h
      walk_at "rd"
      rw [Nat.sub_self, pl, List.append_nil] at ep
      refine q H' f s3 nf0 ?_
      rw [hf3, pileL, ← ep, nI, List.map_map]
      rfl

end
end Sh

namespace Sh
section
variable {P : Program} {w : World} {K : PySem.W.Frag} {mg : Str → Option Value} {base : Heap}
def sp_lows (T : Tx K mg) : Sp := fun vs H Q E => ∃ (a : Addr) (s : List Int), vs = [.ref a] ∧ SqL K H a (s.map V.int) ∧ s.length ≤ 4000 ∧ ∀ H' p, Same H H' → H p = none → H' p = some (.lst ((lowsN s).map nV)) → Q (.ref p) H'
theorem ok_lows (T : Tx K mg) : FnOk P w K mg base CX0 1 T.f_lows T.fd_lows ["shape"] (sp_lows T) := by
  refine T.F_lows.ok sc_lows (fun vs H Q E h => ?_) (fun cdv A outer s H vs Q E hr h => ?_)
  · obtain ⟨a, s, rfl, _⟩ := h
    rfl
  · obtain ⟨a, s0, rfl, hA, hl, q⟩ := h
    refine ⟨_, (pss_one (by exact (ps_ret (by exact (pe_lc (own := [("k", 1)]) (g := gName 1) (tt := (tTest (tOp rEq (tOp (rIxL K) (tVar 0) (tVar 1)) (tCB (rMin K) (tCons (tSl (rSlL K) (tVar 0) tNoPart (tPart (tOp (rI0 fun i j => .int (i + j)) (tVar 1) (tC (.int 1))))) tNil))))) (te := (tVar 1)) rfl sc_lows.nd (pi_range1 rfl T.m_range (pa_cons (by exact (pe_callB call_lenS (by rfl) T.m_len PySem.boot_len (pa_cons (pv 0) pa_nil))) pa_nil)) (blkOk_by (N := ["shape", "k"]) (sc := defScope s_lows) (by decide +kernel)) (fun _ _ _ _ _ => by exact (pg_name (i := 1) sc_lows.nd rfl (by first | exact Or.inl rfl | exact Or.inr rfl))) (fun _ _ _ _ _ => by exact (pts_one (pt_cmpR (op_eq) (pe_ix ix_list (pv 0) (pv 1) (fun _ _ => rfl)) (by exact (pe_callB (cr_min rfl) (by rfl) T.m_min (by decide +kernel) (pa_cons (pe_slice sl_list (pv 0) po_none (po_some (pe_op op_add (pv 1) pe_int))) pa_nil))) (nomark _)))) (fun _ _ _ _ _ => by exact (pv 1))))))), ?_⟩
    rw [show (start ["shape", "k"] [V.ref a] : L2.St) = [some (V.ref a), none] from rfl]
    walk_at "rd"
    refine ⟨_, .inl hA, ?_⟩
    walk_at "rd"
    refine ⟨by omega, by omega, fun D nD => ?_⟩
    refine lcK_filtR (isLow s0) (fun k => V.int k) nD (by omega) (fun i acc H2 Qt Qf hi hs hD ht hf => ?_) (fun H2 hs hD => ?_)
    · walk_at "rd"
      have hA2 := hs.seq hA
      refine ⟨_, hA2, _, atI_ints (by omega) (by omega), _, hA2, fun p np => ?_⟩
      rw [Int.toNat_natCast]
      have ec : cutV (s0.map V.int) none (some ((i : Int) + 1)) = (s0.take (i + 1)).map V.int := by
        rw [show ((i : Int) + 1) = ((i + 1 : Nat) : Int) by omega, cut_to, List.map_take]
      rw [ec]
      refine ⟨s0.take (i + 1), sql_self, by rw [List.length_take]; omega, fun m hm hle => ⟨rfl, ?_⟩⟩
      have s2 := hs.trans (same_new (o := .lst ((s0.take (i + 1)).map V.int)) np)
      have hD2 := same_new (o := .lst ((s0.take (i + 1)).map V.int)) np _ _ hD
      refine ite2 (fun c => ht (isLow_iff.mpr fun y hy => ?_) _ s2 hD2) (fun c => hf ?_ _ s2 hD2)
      · have c' : s0.getD i 0 = m := by simpa using c
        have := hle y hy
        omega
      · have c' : ¬ s0.getD i 0 = m := by simpa using c
        rw [Bool.eq_false_iff]
        intro z
        have h1 := isLow_iff.mp z m hm
        have h2 := hle _ ((take_succ_mem hi).mpr (.inr rfl))
        omega
    · exact q H2 D hs nD hD

end
end Sh

namespace Sh
section
variable {P : Program} {w : World} {K : PySem.W.Frag} {mg : Str → Option Value} {base : Heap}
def sp_filled (T : Tx K mg) : Sp := fun vs H Q E => ∃ (a : Addr) (fl : Bool) (s : List Int), vs = [.ref a, .bl fl] ∧ SqL K H a (s.map V.int) ∧ s.length ≤ 1000 ∧ ∀ H' p, Same H H' → H p = none → H' p = some (.lst ((if fl = true then fillT s else fillU s).map V.int)) → Q (.ref p) H'
theorem ok_filled (T : Tx K mg) : FnOk P w K mg base CX0 2 T.f_filled T.fd_filled ["shape", "falling"] (sp_filled T) := by
  refine T.F_filled.ok sc_filled (fun vs H Q E h => ?_) (fun cdv A outer s H vs Q E hr h => ?_)
  · obtain ⟨a, fl, s, rfl, _⟩ := h
    rfl
  · obtain ⟨a, fl, s0, rfl, hA, hl, q⟩ := h
    refine ⟨_, (pss_cons (by exact (ps_set (i := 2) sc_filled.nd rfl (Or.inr rfl) (by exact (pe_call (ok_lows T) (hr.mono (by decide)) (by rfl) T.g_lows T.F_lows.kp T.b_lows .nil pass0 (pa_cons (pv 0) pa_nil)))))
        (pss_cons (by exact (ps_set (i := 3) sc_filled.nd rfl (Or.inl rfl) (by exact (pe_callB cr_sortedI (by rfl) T.m_sorted (by decide +kernel) (pa_cons (by exact (pe_lc (own := [("k", 6)]) (g := gName 6) (tt := (tTest (tOp (rIn K true) (tVar 6) (tVar 2)))) (te := (tOp (rIxL K) (tVar 0) (tVar 6))) rfl sc_filled.nd (pi_range1 rfl T.m_range (pa_cons (by exact (pe_callB call_lenS (by rfl) T.m_len PySem.boot_len (pa_cons (pv 0) pa_nil))) pa_nil)) (blkOk_by (N := ["shape", "falling", "keep", "left", "found", "low", "k", "pick", "number"]) (sc := defScope s_filled) (by decide +kernel)) (fun _ _ _ _ _ => by exact (pg_name (i := 6) sc_filled.nd rfl (by first | exact Or.inl rfl | exact Or.inr rfl))) (fun _ _ _ _ _ => by exact (pts_one (pt_cmpR (op_notIn_seq) (pv 6) (pv 2) rfl))) (fun _ _ _ _ _ => by exact (pe_ix ix_list (pv 0) (pv 6) (fun _ _ => rfl))))) pa_nil)))))
        (pss_cons (by exact (ps_set (i := 4) sc_filled.nd rfl (Or.inl rfl) (pe_lst pa_nil)))
        (pss_cons (by exact (ps_set (i := 5) sc_filled.nd rfl (Or.inr rfl) pe_int))
        (pss_cons (by exact (ps_for PassesOwn.never rfl (pi_range1 rfl T.m_range (pa_cons (by exact (pe_callB call_lenS (by rfl) T.m_len PySem.boot_len (pa_cons (pv 0) pa_nil))) pa_nil)) (pg_name (i := 6) sc_filled.nd rfl (Or.inl rfl))
        (pss_one (by exact (ps_if (pt_cmpR (op_in_seq) (pv 6) (pv 2) rfl) (pss_cons (by exact (ps_set (i := 5) sc_filled.nd rfl (Or.inr rfl) (pe_ix ix_list (pv 0) (pv 6) (fun _ _ => rfl))))
        (pss_one (by exact (ps_expr (by exact (pe_bm PySem.F.plainAttrs_list PySem.F.slot_list_append PySem.F.type_list_append mt_append (pv 4) (pa_cons (pv 5) pa_nil))))))) (pss_one (by exact (ps_if (pt_val (pv 1)) (pss_one (by exact (ps_expr (by exact (pe_bm PySem.F.plainAttrs_list PySem.F.slot_list_append PySem.F.type_list_append mt_append (pv 4) (pa_cons (by exact (pe_bm0 PySem.F.plainAttrs_list PySem.F.slot_list_pop PySem.F.type_list_pop mt_pop (pv 3))) pa_nil)))))) (pss_cons (by exact (ps_set (i := 7) sc_filled.nd rfl (Or.inl rfl) (pe_ix ix_list (by exact (pe_lc (own := [("number", 8)]) (g := gName 8) (tt := (tTest (tOp (rI0 fun i j => .bl (decide (j < i))) (tVar 8) (tVar 5)))) (te := (tVar 8)) rfl sc_filled.nd (pi_list (pv 3)) (blkOk_by (N := ["shape", "falling", "keep", "left", "found", "low", "k", "pick", "number"]) (sc := defScope s_filled) (by decide +kernel)) (fun _ _ _ _ _ => by exact (pg_name (i := 8) sc_filled.nd rfl (by first | exact Or.inl rfl | exact Or.inr rfl))) (fun _ _ _ _ _ => by exact (pts_one (pt_cmpR (op_gt) (pv 8) (pv 5) (nomark _)))) (fun _ _ _ _ _ => by exact (pv 8)))) pe_int (fun _ _ => rfl))))
        (pss_cons (by exact (ps_expr (by exact (pe_bm PySem.F.plainAttrs_list PySem.F.slot_list_remove PySem.F.type_list_remove mt_remove (pv 3) (pa_cons (pv 7) pa_nil)))))
        (pss_one (by exact (ps_expr (by exact (pe_bm PySem.F.plainAttrs_list PySem.F.slot_list_append PySem.F.type_list_append mt_append (pv 4) (pa_cons (pv 7) pa_nil))))))))))))))))
        (pss_one (by exact (ps_ret (pv 4))))))))), ?_⟩
    rw [show (start ["shape", "falling", "keep", "left", "found", "low", "k", "pick", "number"] [V.ref a, V.bl fl] : L2.St) = [some (V.ref a), some (V.bl fl), none, none, none, none, none, none, none] from rfl]
    walk_at "rd"
    refine ⟨a, s0, rfl, hA, by omega, fun H1 ka s1 nka hka => ?_⟩
    walk_at "rd"
    refine ⟨_, .inl (s1.seq hA), ?_⟩
    rw [List.length_map]
    refine ⟨by omega, by omega, fun D nD => ?_⟩
    refine lcK_filtR (fun k => !isLow s0 k) (fun k => V.int (s0.getD k 0)) nD (by omega) (fun i acc H2 Qt Qf hi hs hD ht hf => ?_) (fun H2 s2 hD => ?_)
    · walk_at "rd"
      refine ⟨_, .inl (SqL.of (hs _ _ hka)), rfl, flat_nV _, ?_⟩
      rw [inV_low hi]
      refine ite2 (fun c => ?_) (fun c => hf (by simpa using c) _ hs hD)
      refine ⟨_, hs.seq (s1.seq hA), _, atI_ints (by omega) (by omega), ?_⟩
      rw [Int.toNat_natCast]
      exact ht (by simpa using c) _ hs hD
    have s12 := s1.trans s2
    have hD' : H2 D = some (.lst ((nonl s0).map V.int)) := by rw [hD, nonl, List.map_map]; rfl
    have hka2 := s2 _ _ hka
    refine ⟨nonl s0, SqL.of hD', fun L la pm ri nla => ⟨lineLe (by simp), fun f nf => ?_⟩⟩
    have eL := srt_of pm ri
    subst eL
    have hla : (upd (upd H2 la (.lst ((srt (nonl s0)).map V.int))) f (.lst [])) la = some (.lst ((srt (nonl s0)).map V.int)) := same_new nf _ _ upd_same
    have hf3 : (upd (upd H2 la (.lst ((srt (nonl s0)).map V.int))) f (.lst [])) f = some (.lst []) := upd_same
    have m3 := (same_new (o := .lst ((srt (nonl s0)).map V.int)) nla).trans (same_new (o := .lst []) nf)
    have nla0 : H la = none := s12.free nla
    have nf0 : H f = none := (s12.trans (same_new nla)).free nf
    have laf : la ≠ f := ne_of_none upd_same nf
    have kal : ka ≠ la := ne_of_none hka2 nla
    have kaf : ka ≠ f := ne_of_none (same_new nla _ _ hka2) nf
    have hka3 := m3 _ _ hka2
    have s13 := s12.trans m3
    generalize (upd (upd H2 la (.lst ((srt (nonl s0)).map V.int))) f (.lst [])) = H3 at hla hf3 hka3 s13 ⊢
    refine ⟨_, .inl (s13.seq hA), ?_⟩
    rw [List.length_map]
    refine ⟨by omega, by omega, ?_⟩
    have nl := nonl_len s0
    have cl : cN s0 s0.length ≤ s0.length := by
      have := List.length_filter_le (fun k => !isLow s0 k) (List.range s0.length)
      rw [List.length_range] at this
      exact this
    have sl := (srt_perm (nonl s0)).length_eq
    refine forK_range (fun i σ H' => ∃ (y6 y7 : Option V), σ = [some (V.ref a), some (V.bl fl), some (V.ref ka), some (V.ref la), some (V.ref f), some (V.int (lowAt s0 i)), y6, y7, none] ∧ Same H H' ∧ H' ka = some (.lst ((lowsN s0).map nV)) ∧
        H' la = some (.lst ((if fl = true then (srt (nonl s0)).take ((srt (nonl s0)).length - cN s0 i) else lft s0 i).map V.int)) ∧ H' f = some (.lst ((if fl = true then (fillT s0).take i else (fillU s0).take i).map V.int)))
      ⟨_, _, rfl, s13, hka3, by rw [hla]; congr 2; cases fl <;> simp [lft, cN], by rw [hf3]; cases fl <;> simp⟩ (fun i σ H' hi h => ?_) (fun σ H' h => ?_)
    · obtain ⟨y6, y7, rfl, s4, hk4, hl4, hf4⟩ := h
      have hcn : cN s0 (i + 1) ≤ cN s0 s0.length := cN_mono s0 (by omega)
      have cs := cN_succ s0 i
      walk_at "rd"
      refine ⟨_, .inl (SqL.of hk4), rfl, flat_nV _, ?_⟩
      rw [inV_low hi]
      have fTi : (fillT s0)[i]? = some (if isLow s0 i = true then s0.getD i 0 else (srt (nonl s0)).getD ((srt (nonl s0)).length - 1 - cN s0 i) 0) := by
        rw [fillT, List.getElem?_map, List.getElem?_range hi]; rfl
      have fUi : (fillU s0)[i]? = some (if isLow s0 i = true then s0.getD i 0 else pick s0 i) := by
        rw [fillU, List.getElem?_map, List.getElem?_range hi]; rfl
      refine ite2 (fun c => ?_) (fun c => ?_)
      · rw [if_pos c] at fTi fUi cs
        refine ⟨_, s4.seq hA, _, atI_ints (by omega) (by omega), ?_⟩
        rw [Int.toNat_natCast]
        have lt : (lowAt s0 (i + 1)) = s0.getD i 0 := by rw [lowAt, if_pos c]
        have ll : lft s0 (i + 1) = lft s0 i := by rw [lft, if_pos c]
        refine ⟨tyL hf4, _, hf4, lineLt (by rw [List.length_map]; cases fl <;> simp [fillT_len, fillU_len] <;> omega), by rw [lt], same_mut s4 nf0, by rw [upd_ne kaf]; exact hk4, ?_, ?_⟩
        · rw [upd_ne laf, hl4, ll, cs, Nat.add_zero]
        · rw [upd_same]
          cases fl
          · rw [if_neg (by simp), if_neg (by simp), take_more fUi]; simp
          · rw [if_pos rfl, if_pos rfl, take_more fTi]; simp
      · rw [if_neg c] at fTi fUi cs
        have lt : (lowAt s0 (i + 1)) = lowAt s0 i := by rw [lowAt, if_neg c]
        refine ite2 (fun c2 => ?_) (fun c2 => ?_)
        · subst c2
          rw [if_pos rfl] at hl4 hf4
          have hle : cN s0 i < (srt (nonl s0)).length := by omega
          have ltk : ((srt (nonl s0)).take ((srt (nonl s0)).length - cN s0 i)).length = (srt (nonl s0)).length - cN s0 i := by rw [List.length_take]; omega
          have hdl : (((srt (nonl s0)).take ((srt (nonl s0)).length - cN s0 i)).map V.int).dropLast = ((srt (nonl s0)).take ((srt (nonl s0)).length - cN s0 (i + 1))).map V.int := by
            rw [List.dropLast_eq_take, List.length_map, ltk, ← List.map_take, List.take_take, cs, Nat.min_eq_left (by omega)]
            congr 2
          refine ⟨tyL hf4, tyL hl4, _, hl4, V.int ((srt (nonl s0)).getD ((srt (nonl s0)).length - 1 - cN s0 i) 0), ?_, ?_⟩
          · rw [List.length_map, ltk, List.getElem?_map, List.getElem?_take_of_lt (by omega), show (srt (nonl s0)).length - cN s0 i - 1 = (srt (nonl s0)).length - 1 - cN s0 i by omega, getD_at (by omega)]; rfl
          rw [hdl]
          have hf5 : (upd H' la (.lst (((srt (nonl s0)).take ((srt (nonl s0)).length - cN s0 (i + 1))).map V.int))) f = _ := (upd_ne laf.symm).trans hf4
          refine ⟨_, hf5, lineLt (by simp [fillT_len]; omega), lt.symm, same_mut (same_mut s4 nla0) nf0, by rw [upd_ne kaf, upd_ne kal]; exact hk4, ?_, ?_⟩
          · rw [upd_ne laf, upd_same, if_pos rfl]
          · rw [upd_same, if_pos rfl, take_more fTi]; simp
        · have c2' : fl = false := by simpa using c2
          subst c2'
          rw [if_neg (by simp)] at hl4 hf4
          have lll := lft_len s0 i (by omega)
          refine ⟨⟨_, SqL.of hl4⟩, fun D5 nD5 => ?_⟩
          refine lcK_filt (lft s0 i) V.int (fun y => decide (lowAt s0 i < y)) V.int nD5 (SqL.of hl4) (by omega) (fun j x acc H5 Qt Qf hx hs hD5 ht hf' => ?_) (fun H5 s5 hD5 => ?_)
          · walk_at "rd"
            exact ite2 (fun d => ht (decide_eq_true d) _ hs hD5) (fun d => hf' (decide_eq_false d) _ hs hD5)
          have pk := pick_ok hi c
          have h0 : ((lft s0 i).filter fun y => decide (lowAt s0 i < y))[0]? = some (pick s0 i) := by
            unfold pick
            cases e : (lft s0 i).filter (fun y => decide (lowAt s0 i < y)) with
            | nil => rw [e] at pk; simp at pk
            | cons y r => simp
          obtain ⟨j, hj1, hj2, hj3⟩ := pick_first hi c
          have hl5 := s5 _ _ hl4
          have hf5 := s5 _ _ hf4
          have hk5 := s5 _ _ hk4
          refine ⟨_, SqL.of hD5, V.int (pick s0 i), by refine atI_nat (j := 0) ?_; rw [List.getElem?_map, h0]; rfl, ?_⟩
          refine ⟨tyL hl5, lft s0 i, pick s0 i, rfl, hl5, j, hj1, hj2, ?_⟩
          rw [hj3]
          have hf6 : (upd H5 la (.lst ((lft s0 (i + 1)).map V.int))) f = _ := (upd_ne laf.symm).trans hf5
          refine ⟨tyL hf6, _, hf6, lineLt (by simp [fillU_len]; omega), lt.symm, same_mut (same_mut (s4.trans s5) nla0) nf0, by rw [upd_ne kaf, upd_ne kal]; exact hk5, ?_, ?_⟩
          · rw [upd_ne laf, upd_same, if_neg (by simp)]
          · rw [upd_same, if_neg (by simp), take_more fUi]; simp
    · obtain ⟨y6, y7, rfl, s4, hk4, hl4, hf4⟩ := h
      walk_at "rd"
      refine q H' f s4 nf0 ?_
      rw [hf4]
      cases fl
      · rw [if_neg (by simp), if_neg (by simp), List.take_of_length_le (by rw [fillU_len]; exact Nat.le_refl _)]
      · rw [if_pos rfl, if_pos rfl, List.take_of_length_le (by rw [fillT_len]; exact Nat.le_refl _)]

end
end Sh

namespace Sh
section
variable {P : Program} {w : World} {K : PySem.W.Frag} {mg : Str → Option Value} {base : Heap}
def sp_turned (T : Tx K mg) : Sp := fun vs H Q E => ∃ (a b : Addr) (s o : List Int), vs = [.ref a, .ref b] ∧ SqL K H a (s.map V.int) ∧ SqL K H b (o.map V.int) ∧ s.length ≤ 4000 ∧ ∀ H' p, Same H H' → H p = none → H' p = some (.lst ((turnL s o).map V.int)) → Q (.ref p) H'
theorem ok_turned (T : Tx K mg) : FnOk P w K mg base CX0 1 T.f_turned T.fd_turned ["shape", "order"] (sp_turned T) := by
  refine T.F_turned.ok sc_turned (fun vs H Q E h => ?_) (fun cdv A outer s H vs Q E hr h => ?_)
  · obtain ⟨a, b, s, o, rfl, _⟩ := h
    rfl
  · obtain ⟨a, b, s0, o, rfl, hA, hB, hl, q⟩ := h
    refine ⟨_, (pss_cons (by exact (ps_set (i := 2) sc_turned.nd rfl (Or.inr rfl) (by exact (pe_callTy call_listS (by rfl) T.m_list (by decide +kernel) (pa_cons (pv 0) pa_nil)))))
        (pss_cons (by exact (ps_if (pt_cmpR (op_inDT (room65 hr)) (pv 1) (pe_tup (pa_cons (pe_lst (pa_cons pe_int (pa_cons pe_int (pa_cons pe_int pa_nil)))) (pa_cons (pe_lst (pa_cons pe_int (pa_cons pe_int (pa_cons pe_int pa_nil)))) pa_nil))) rfl) (pss_one (by exact (ps_expr (by exact (pe_bm0 PySem.F.plainAttrs_list PySem.F.slot_list_reverse PySem.F.type_list_reverse mt_reverse (pv 2)))))) pss_nil))
        (pss_cons (by exact (ps_if (pt_cmpR (op_inDT (room65 hr)) (pv 1) (pe_tup (pa_cons (pe_lst (pa_cons pe_int (pa_cons pe_int (pa_cons pe_int pa_nil)))) (pa_cons (pe_lst (pa_cons pe_int (pa_cons pe_int (pa_cons pe_int pa_nil)))) pa_nil))) rfl) (pss_one (by exact (ps_set (i := 2) sc_turned.nd rfl (Or.inr rfl) (by exact (pe_lc (own := [("number", 3)]) (g := gName 3) (tt := tYes) (te := (tOp (rI0 fun i j => .int (i - j)) (tOp (rI0 fun i j => .int (i - j)) (tCB (rLen K) (tCons (tVar 2) tNil)) (tC (.int 1))) (tVar 3))) rfl sc_turned.nd (pi_list (pv 2)) (blkOk_by (N := ["shape", "order", "found", "number"]) (sc := defScope s_turned) (by decide +kernel)) (fun _ _ _ _ _ => by exact (pg_name (i := 3) sc_turned.nd rfl (by first | exact Or.inl rfl | exact Or.inr rfl))) (fun _ _ _ _ _ => pts_nil) (fun _ _ _ _ _ => by exact (pe_op op_sub (pe_op op_sub (by exact (pe_callB call_lenS (by rfl) T.m_len PySem.boot_len (pa_cons (pv 2) pa_nil))) pe_int) (pv 3)))))))) pss_nil))
        (pss_one (by exact (ps_ret (pv 2))))))), ?_⟩
    rw [show (start ["shape", "order", "found", "number"] [V.ref a, V.ref b] : L2.St) = [some (V.ref a), some (V.ref b), none, none] from rfl]
    refine seq_intro ?_
    walk_at "r1"
    refine ⟨_, .inl hA, fun l nl => ?_⟩
    have hl1 : (upd H l (.lst (s0.map V.int))) l = some (.lst (s0.map V.int)) := upd_same
    have s1 := same_new (o := .lst (s0.map V.int)) nl
    generalize upd H l (.lst (s0.map V.int)) = H1 at hl1 s1 ⊢
    -- order in ([..], [..])
    have two : ∀ {H' : Hp} {p q t : Addr} {x y : List Int} {R : VK}, Same H H' → H' p = some (.lst (x.map V.int)) → H' q = some (.lst (y.map V.int)) → H' t = some (.tup [V.ref p, V.ref q]) → R (.bl (decide (o = x ∨ o = y))) H' → rInDT K false (.ref b) (.ref t) H' R := fun {H' p q t x y R} s hp hq ht h => by
      refine ⟨dInts o, [dInts x, dInts y], dp_ints (s.seq hB), .tup (SqT.of ht) (.cons (dp_ints (SqL.of hp)) (.cons (dp_ints (SqL.of hq)) .nil)), shaped_of isD_ints (by decide) o, shaped_of isD_LL (by decide) [x, y], ?_⟩
      have e : ([dInts x, dInts y].any fun z => PyData.eqv z (dInts o)) = decide (o = x ∨ o = y) := by
        simp only [List.any_cons, List.any_nil, isD_ints.eqv, Bool.or_false]
        rw [show decide (x = o) = decide (o = x) from decide_eq_decide.mpr eq_comm, show decide (y = o) = decide (o = y) from decide_eq_decide.mpr eq_comm]
        by_cases c1 : o = x <;> by_cases c2 : o = y <;> simp [c1, c2]
      simp only [Bool.false_eq_true, if_false]
      rw [e]; exact h
    refine seq_of (fun σ H' => ∃ p, σ = [some (V.ref a), some (V.ref b), some (V.ref p), none] ∧ Same H H' ∧ H p = none ∧ H' p = some (.lst ((if o = [1, 0, 2] ∨ o = [1, 2, 0] then s0.reverse else s0).map V.int))) (fun σ H' h => ?_) (fun U hU => ?_)
    rotate_left
    · walk_at "r1"
      refine ⟨lineLe (by simp), fun p1 n1 => ⟨lineLe (by simp), fun p2 n2 => ⟨lineLe (by simp), fun p3 n3 => ?_⟩⟩⟩
      have m3 := ((same_new (o := .lst [V.int 1, V.int 0, V.int 2]) n1).trans (same_new (o := .lst [V.int 1, V.int 2, V.int 0]) n2)).trans (same_new (o := .tup [V.ref p1, V.ref p2]) n3)
      have s4 := s1.trans m3
      refine two s4 (x := [1, 0, 2]) (y := [1, 2, 0]) (same_new n3 _ _ (same_new n2 _ _ upd_same)) (same_new n3 _ _ upd_same) upd_same ?_
      refine ⟨_, rfl, ?_⟩
      have hl4 := m3 _ _ hl1
      refine ite2 (fun c => ?_) (fun c => ?_)
      · have c' := of_decide_eq_true c
        refine ⟨tyL hl4, _, hl4, hU _ _ ⟨l, rfl, same_mut s4 nl, nl, ?_⟩⟩
        rw [upd_same, if_pos c', List.map_reverse]
      · have c' : ¬ (o = [1, 0, 2] ∨ o = [1, 2, 0]) := fun z => c (decide_eq_true z)
        refine hU _ _ ⟨l, rfl, s4, nl, ?_⟩
        rw [if_neg c']; exact hl4
    obtain ⟨p, rfl, s2, np, hp⟩ := h
    have fl : (if o = [1, 0, 2] ∨ o = [1, 2, 0] then s0.reverse else s0).length = s0.length := by split <;> simp
    refine seq_of (fun σ H' => ∃ p, σ = [some (V.ref a), some (V.ref b), some (V.ref p), none] ∧ Same H H' ∧ H p = none ∧ H' p = some (.lst ((turnL s0 o).map V.int))) (fun σ H' h => ?_) (fun U hU => ?_)
    rotate_left
    · walk_at "r1"
      refine ⟨lineLe (by simp), fun p1 n1 => ⟨lineLe (by simp), fun p2 n2 => ⟨lineLe (by simp), fun p3 n3 => ?_⟩⟩⟩
      have m3 := ((same_new (o := .lst [V.int 0, V.int 2, V.int 1]) n1).trans (same_new (o := .lst [V.int 1, V.int 2, V.int 0]) n2)).trans (same_new (o := .tup [V.ref p1, V.ref p2]) n3)
      have s4 := s2.trans m3
      refine two s4 (x := [0, 2, 1]) (y := [1, 2, 0]) (same_new n3 _ _ (same_new n2 _ _ upd_same)) (same_new n3 _ _ upd_same) upd_same ?_
      refine ⟨_, rfl, ?_⟩
      have hp4 := m3 _ _ hp
      refine ite2 (fun c => ?_) (fun c => ?_)
      · have c' := of_decide_eq_true c
        refine ⟨⟨_, SqL.of hp4⟩, fun D nD => ?_⟩
        generalize hfv : (if o = [1, 0, 2] ∨ o = [1, 2, 0] then s0.reverse else s0) = fv at hp4 fl
        refine lcK_map fv V.int (fun x => V.int ((fv.length : Int) - 1 - x)) nD (SqL.of hp4) (by omega) (fun i x acc H5 QT hx hs hD hq => ?_) (fun H5 s5 hD => ?_)
        · walk_at "r1"
          refine ⟨_, .inl (SqL.of (hs _ _ hp4)), ?_⟩
          rw [List.length_map]
          exact hq _ hs hD
        · refine hU _ _ ⟨D, rfl, s4.trans s5, s4.free nD, ?_⟩
          rw [hD, turnL]
          rw [if_pos c', hfv, contraryL, List.map_map]
          rfl
      · have c' : ¬ (o = [0, 2, 1] ∨ o = [1, 2, 0]) := fun z => c (decide_eq_true z)
        refine hU _ _ ⟨p, rfl, s4, np, ?_⟩
        rw [turnL]
        rw [if_neg c']; exact hp4
    obtain ⟨p, rfl, s2, np, hp⟩ := h
    walk_at "r1"
    exact q H' p s2 np hp

end
end Sh

namespace Sh
section
variable {P : Program} {w : World} {K : PySem.W.Frag} {mg : Str → Option Value} {base : Heap}
def sp_made (T : Tx K mg) : Sp := fun vs H Q E => ∃ (b : Addr) (n m : Nat) (o : List Int), vs = [.int n, .ref b, .int m] ∧ SqL K H b (o.map V.int) ∧ n ≤ 30 ∧ m < Wy (2 * n) 0 ∧ ∀ H' p, Same H H' → H p = none → H' p = some (.lst ((madeL n o m).map V.int)) → Q (.ref p) H'
theorem ok_made (T : Tx K mg) : FnOk P w K mg base CX0 3 T.f_made T.fd_made ["size", "order", "number"] (sp_made T) := by
  refine T.F_made.ok sc_made (fun vs H Q E h => ?_) (fun cdv A outer s H vs Q E hr h => ?_)
  · obtain ⟨b, n, m, o, rfl, _⟩ := h
    rfl
  · obtain ⟨b, n, m, o, rfl, hB, hn, hm, q⟩ := h
    refine ⟨_, (pss_cons (by exact (ps_set (i := 3) sc_made.nd rfl (Or.inl rfl) (by exact (pe_call (ok_piled T) (hr.mono (by decide)) (by rfl) T.g_piled T.F_piled.kp T.b_piled .nil pass0 (pa_cons (pv 0) (pa_cons (pv 2) pa_nil))))))
        (pss_cons (by exact (ps_if (PW.pt (pw_and (pt_cmpR (op_neD hr.units) (pv 1) (pe_glob (v := .ref T.a_RISE) rfl T.g_RISE rfl) (nomark _)) (pw_and1 (pt_cmpR (op_neD hr.units) (pv 1) (pe_glob (v := .ref T.a_FALL) rfl T.g_FALL rfl) (nomark _))))) (pss_one (by exact (ps_ret (by exact (pe_call (ok_turned T) (hr.mono (by decide)) (by rfl) T.g_turned T.F_turned.kp T.b_turned .nil pass0 (pa_cons (pv 3) (pa_cons (pv 1) pa_nil))))))) pss_nil))
        (pss_cons (by exact (ps_set (i := 3) sc_made.nd rfl (Or.inl rfl) (by exact (pe_call (ok_filled T) (hr.mono (by decide)) (by rfl) T.g_filled T.F_filled.kp T.b_filled .nil pass0 (pa_cons (by exact (pe_call (ok_turned T) (hr.mono (by decide)) (by rfl) T.g_turned T.F_turned.kp T.b_turned .nil pass0 (pa_cons (pv 3) (pa_cons (pe_lst (pa_cons pe_int (pa_cons pe_int (pa_cons pe_int pa_nil)))) pa_nil)))) (pa_cons pe_bl pa_nil))))))
        (pss_cons (by exact (ps_if (pt_cmpR (op_eqD hr.units) (pv 1) (pe_glob (v := .ref T.a_FALL) rfl T.g_FALL rfl) (nomark _)) (pss_one (by exact (ps_setLc (i := 3) (own := [("one", 4)]) (g := gName 4) (tt := tYes) (te := (tOp (rI0 fun i j => .int (i - j)) (tOp (rI0 fun i j => .int (i - j)) (tVar 0) (tC (.int 1))) (tVar 4))) rfl sc_made.nd rfl rfl (sw_true rfl rfl rfl (by decide +kernel)) (pi_list (pv 3)) (blkOk_by (N := ["size", "order", "number", "shape", "one"]) (sc := defScope s_made) (by decide +kernel)) (fun _ _ _ _ _ => by exact (pg_name (i := 4) sc_made.nd rfl (by first | exact Or.inl rfl | exact Or.inr rfl))) (fun _ _ _ _ _ => pts_nil) (fun _ _ _ _ _ => by exact (pe_op op_sub (pe_op op_sub (pv 0) pe_int) (pv 4)))))) pss_nil))
        (pss_one (by exact (ps_ret (pv 3)))))))), ?_⟩
    rw [show (start ["size", "order", "number", "shape", "one"] [V.int n, V.ref b, V.int m] : L2.St) = [some (V.int n), some (V.ref b), some (V.int m), none, none] from rfl]
    have hR : ∀ H', SqL K H' T.a_RISE (RISE.map V.int) := T.l_RISE
    have hF : ∀ H', SqL K H' T.a_FALL (FALL.map V.int) := T.l_FALL
    refine seq_intro ?_
    walk_at "r1"
    refine ⟨n, m, rfl, hn, hm, fun H1 pa s1 npa hpa => ?_⟩
    have pll : (pileL n m).length ≤ 60 := by
      have := pl_len (2 * n) [] 0 m
      simp only [pileL, nI, List.length_map]; omega
    have hB1 := s1.seq hB
    walk_at "r1"
    -- with the pile's shape turned and filled
    have rest : ¬ (o ≠ RISE ∧ o ≠ FALL) → tSeq (tAsg (tCall (sp_filled T) [] E0 (tCons (tCall (sp_turned T) [] E0 (tCons (tVar 3) (tCons (tLst (tCons (tC (V.int 0)) (tCons (tC (V.int 2)) (tCons (tC (V.int 1)) tNil)))) tNil))) (tCons (tC (V.bl true)) tNil))) (gName 3))
        (tSeq (tIfS (tTest (tOp (rEqD K) (tVar 1) (tC (V.ref T.a_FALL)))) (tAsg (tLc (iList K (tVar 3)) (gName 4) tYes (tOp (rI0 fun i j => V.int (i - j)) (tOp (rI0 fun i j => V.int (i - j)) (tVar 0) (tC (V.int 1))) (tVar 4)) [4]) (gName 3)) tNext) (tRet (tVar 3)))
        { nx := fun x H' => Q V.non H', rt := Q } [some (V.int n), some (V.ref b), some (V.int m), some (V.ref pa), none] H1 := fun nb => by
      refine seq_intro ?_
      walk_at "r1"
      refine ⟨lineLe (by simp), fun t nt => ⟨pa, t, pileL n m, [0, 2, 1], rfl, SqL.of (same_new nt _ _ hpa), SqL.of upd_same, by omega, fun H2 u s2 nu hu => ?_⟩⟩
      have tl := turnL_len (pileL n m) [0, 2, 1]
      have s12 := (s1.trans (same_new nt)).trans s2
      walk_at "r1"
      refine ⟨u, true, turnL (pileL n m) [0, 2, 1], rfl, SqL.of hu, by omega, fun H3 f s3 nf hf => ?_⟩
      have s13 := s12.trans s3
      have nf0 : H f = none := s12.free nf
      rw [if_pos rfl] at hf
      have fl := fillT_len (turnL (pileL n m) [0, 2, 1])
      walk_at "r1"
      refine seq_intro ?_
      walk_at "r1"
      refine rEq_ints (s13.seq hB) (hF _) ?_
      refine ⟨_, rfl, ite2 (fun c => ?_) (fun c => ?_)⟩
      · have c' := of_decide_eq_true c
        refine ⟨⟨_, SqL.of hf⟩, fun D nD => ?_⟩
        refine lcK_map (fillT (turnL (pileL n m) [0, 2, 1])) V.int (fun x => V.int ((n : Int) - 1 - x)) nD (SqL.of hf) (by omega) (fun i x acc H5 QT hx hs hD hq => ?_) (fun H5 s5 hD => ?_)
        · walk_at "r1"
          exact hq _ hs hD
        · refine q H5 D (s13.trans s5) (s13.free nD) ?_
          rw [hD, madeL, if_neg nb, if_pos c', List.map_map]
          rfl
      · have c' : ¬ o = FALL := fun z => c (decide_eq_true z)
        refine q H3 f s13 nf0 ?_
        rw [hf, madeL, if_neg nb, if_neg c']
    refine seq_intro ?_
    walk_at "r1"
    refine rNe_ints hB1 (hR _) ⟨_, rfl, ite2 (fun c => ?_) (fun c => ?_)⟩
    · have c1 : o ≠ RISE := by simpa using c
      refine rNe_ints hB1 (hF _) ⟨_, rfl, ite2 (fun d => ?_) (fun d => ?_)⟩
      · have c2 : o ≠ FALL := by simpa using d
        refine ⟨pa, b, pileL n m, o, rfl, SqL.of hpa, hB1, by omega, fun H2 p s2 np hp => ?_⟩
        refine q H2 p (s1.trans s2) (s1.free np) ?_
        rw [hp, madeL, if_pos ⟨c1, c2⟩]
      · exact rest fun z => d (by simpa using z.2)
    · exact rest fun z => c (by simpa using z.1)

end
end Sh

namespace Sh
section
variable {P : Program} {w : World} {K : PySem.W.Frag} {mg : Str → Option Value} {base : Heap}
def sp_without_at (T : Tx K mg) : Sp := fun vs H Q E => ∃ (b : Addr) (n m : Int) (o : List Int), vs = [.int n, .ref b, .int m] ∧ SqL K H b (o.map V.int) ∧ o.length ≤ 4000 ∧
  (shapeOk o → o.length = 3 → 1 ≤ n ∧ n ≤ 20 → 0 ≤ m ∧ m < (Wy (2 * n.toNat) 0 : Nat) → ∀ H' p, Same H H' → H p = none → H' p = some (.lst ((madeL n.toNat o m.toNat).map V.int)) → Q (.ref p) H') ∧
  (¬ shapeOk o → ∀ H', Same H H' → E (.ref T.C_NoShape) none H') ∧ (shapeOk o → ¬ o.length = 3 → ∀ H', Same H H' → E (.ref T.C_NoOrder) none H') ∧ (shapeOk o → o.length = 3 → ¬ (1 ≤ n ∧ n ≤ 20) → ∀ H', Same H H' → E (.ref T.C_NoSize) none H') ∧
  (shapeOk o → o.length = 3 → 1 ≤ n ∧ n ≤ 20 → ¬ (0 ≤ m ∧ m < (Wy (2 * n.toNat) 0 : Nat)) → ∀ H', Same H H' → E (.ref T.C_NoNumber) none H')
theorem ok_without_at (T : Tx K mg) : FnOk P w K mg base (L2.CX P w) 5 T.f_without_at T.fd_without_at ["size", "order", "number"] (sp_without_at T) := by
  refine T.F_without_at.okX sc_without_at (fun vs H Q E h => ?_) (fun cdv A outer s H vs Q E hr h => ?_)
  · obtain ⟨b, n, m, o, rfl, _⟩ := h
    rfl
  · obtain ⟨b, n, m, o, rfl, hB, lo, q1, q2, q3, q4, q5⟩ := h
    refine ⟨_, (pss_cons (by exact (ps_expr (by exact (pe_call (ok_ask_three T) (hr.mono (by decide)) (by rfl) T.g_ask_three T.F_ask_three.kp T.b_ask_three .nil (passes_call (takes_of rfl rfl rfl rfl) (fun _ _ _ _ h => h)) (pa_cons (pv 1) pa_nil)))))
        (pss_cons (by exact (ps_set (i := 3) sc_without_at.nd rfl (Or.inl rfl) (by exact (pe_call (ok_many_without T) (hr.mono (by decide)) (by rfl) T.g_many_without T.F_many_without.kp T.b_many_without .nil (passes_call (takes_of rfl rfl rfl rfl) (fun _ _ _ _ h => h)) (pa_cons (pv 0) pa_nil)))))
        (pss_cons (by exact (ps_if (pt_not (pt_chain (op_le) (op_lt) pe_int (pv 2) (pv 3))) (pss_one (by exact (ps_raise rfl (takes_of rfl rfl rfl rfl) (pmk_own PySem.F.excBase_ValueError T.x_NoNumber T.gC_NoNumber T.kC_NoNumber (raises_own T.bC_NoNumber T.tC_NoNumber) (by exact rfl))))) pss_nil))
        (pss_one (by exact (ps_ret (by exact (pe_call (ok_made T) (hr.mono (by decide)) (by rfl) T.g_made T.F_made.kp T.b_made .nil pass0 (pa_cons (pv 0) (pa_cons (pv 1) (pa_cons (pv 2) pa_nil))))))))))), ?_⟩
    rw [show (start ["size", "order", "number", "whole"] [V.int n, V.ref b, V.int m] : L2.St) = [some (V.int n), some (V.ref b), some (V.int m), none] from rfl]
    refine seq_intro ?_
    walk_at "r1"
    refine ⟨b, o, rfl, hB, lo, fun k1 k2 H1 s1 => ?_, q2, q3⟩
    refine seq_intro ?_
    walk_at "r1"
    refine ⟨n, rfl, fun k3 H2 s2 => ?_, fun z => q4 k1 k2 z _ s1⟩
    have s12 := s1.trans s2
    refine seq_intro ?_
    walk_at "r1"
    refine ite2 (fun c => ite2 (fun d => q5 k1 k2 k3 (fun z => d z.2) _ s12) (fun d => ?_)) (fun c => q5 k1 k2 k3 (fun z => c z.1) _ s12)
    have d' : m < (Wy (2 * n.toNat) 0 : Nat) := Classical.byContradiction d
    obtain ⟨n', rfl⟩ : ∃ n' : Nat, n = (n' : Int) := ⟨n.toNat, by omega⟩
    obtain ⟨m', rfl⟩ : ∃ m' : Nat, m = (m' : Int) := ⟨m.toNat, by omega⟩
    rw [Int.toNat_natCast] at q1 d'
    refine ⟨b, n', m', o, rfl, s12.seq hB, by omega, by omega, fun H3 p s3 np hp => ?_⟩
    have := q1 k1 k2 k3 ⟨by omega, d'⟩ H3 p (s12.trans s3) (s12.free np)
    rw [Int.toNat_natCast] at this
    exact this hp

end
end Sh

namespace Sh
section
variable {P : Program} {w : World} {K : PySem.W.Frag} {mg : Str → Option Value} {base : Heap}
def sp_ranks (T : Tx K mg) : Sp := fun vs H Q _ => ∃ (a : Addr) (ns : List Int), vs = [.ref a] ∧ SqL K H a (ns.map V.int) ∧ ns.length ≤ 4000 ∧ ∀ H' p, Same H H' → H p = none → H' p = some (.lst ((rk ns).map V.int)) → Q (.ref p) H'
theorem ok_ranks (T : Tx K mg) : FnOk P w K mg base CX0 1 T.f_ranks T.fd_ranks ["row"] (sp_ranks T) := by
  refine T.F_ranks.ok sc_ranks (fun vs H Q E h => ?_) (fun cdv A outer s H vs Q E hr h => ?_)
  · obtain ⟨a, ns, rfl, _⟩ := h
    rfl
  · obtain ⟨a, ns, rfl, hS, hlen, q⟩ := h
    refine ⟨_, (pss_cons (by exact (ps_set (i := 1) sc_ranks.nd rfl (Or.inr rfl) (by exact (pe_callB cr_sortedI (by rfl) T.m_sorted (by decide +kernel) (pa_cons (pv 0) pa_nil)))))
        (pss_one (by exact (ps_ret (by exact (pe_lc (own := [("number", 2)]) (g := gName 2) (tt := tYes) (te := (tBM K "list" (rIndex K) (tVar 1) (tCons (tVar 2) tNil))) rfl sc_ranks.nd (pi_list (pv 0)) (blkOk_by (N := ["row", "rising", "number"]) (sc := defScope s_ranks) (by decide +kernel)) (fun _ _ _ _ _ => by exact (pg_name (i := 2) sc_ranks.nd rfl (by first | exact Or.inl rfl | exact Or.inr rfl))) (fun _ _ _ _ _ => pts_nil) (fun _ _ _ _ _ => by exact (pe_bm PySem.F.plainAttrs_list PySem.F.slot_list_index PySem.F.type_list_index mt_index (pv 1) (pa_cons (pv 2) pa_nil))))))))), ?_⟩
    rw [show (start ["row", "rising", "number"] [V.ref a] : L2.St) = [some (V.ref a), none, none] from rfl]
    walk_at "rd"
    refine ⟨ns, hS, fun ns' p perm ri np => ⟨⟨_, sql_new np hS⟩, fun D nD => ?_⟩⟩
    refine lcK_map ns V.int (fun x => V.int (lessN ns x)) nD (sql_new np hS) (by omega) (fun i x acc H' QT hx hs hD hq => ?_) (fun H' hs hD => ?_)
    · walk_at "rd"
      have hR : SqL K H' p (ns'.map V.int) := hs.seq sql_self
      obtain ⟨j, ej, hj, hm⟩ := rk_index perm ri x (List.mem_of_getElem? hx)
      refine ⟨tBM_list hR, _, hR, rfl, flat_ints _, j, .int x, by rw [List.getElem?_map, hj] <;> rfl, by rw [eqV_int] <;> simp, fun m z' hmj hz => ?_, ?_⟩
      · obtain ⟨y, hy, rfl⟩ := at_map hz
        rw [eqV_int, decide_eq_false (hm m y hmj hy)]
      · rw [ej]
        exact hq H' hs hD
    · refine q H' D ((same_new np).trans hs) ((same_new np).free nD) ?_
      rw [hD, rk, List.map_map]
      rfl

end
end Sh

namespace Sh
section
variable {P : Program} {w : World} {K : PySem.W.Frag} {mg : Str → Option Value} {base : Heap}
def sp_fits (T : Tx K mg) : Sp := fun vs H Q E => ∃ (a b c : Addr) (row order : List Int) (t : List Nat), vs = [.ref a, .ref b, .ref c] ∧ SqL K H a (row.map V.int) ∧ SqL K H b (t.map nV) ∧ SqL K H c (order.map V.int) ∧ row.length ≤ 4000 ∧ t.length ≤ 4000 ∧ order.length ≤ 4000 ∧ (∀ i ∈ t, i < row.length) ∧ ∀ H', Same H H' → Q (.bl (fitsB row order t)) H'
theorem ok_fits (T : Tx K mg) : FnOk P w K mg base CX0 2 T.f_fits T.fd_fits ["row", "told", "order"] (sp_fits T) := by
  refine T.F_fits.ok sc_fits (fun vs H Q E h => ?_) (fun cdv A outer s H vs Q E hr h => ?_)
  · obtain ⟨a, b, c, row, order, t, rfl, _⟩ := h
    rfl
  · obtain ⟨a, b, c, row, order, t, rfl, hA, hB, hC, lA, lB, lC, ht, q⟩ := h
    refine ⟨_, (pss_cons (by exact (ps_set (i := 3) sc_fits.nd rfl (Or.inl rfl) (by exact (pe_call (ok_ranks T) (hr.mono (by decide)) (by rfl) T.g_ranks T.F_ranks.kp T.b_ranks .nil pass0 (pa_cons (by exact (pe_lc (own := [("place", 4)]) (g := gName 4) (tt := tYes) (te := (tOp (rIxL K) (tVar 0) (tVar 4))) rfl sc_fits.nd (pi_list (pv 1)) (blkOk_by (N := ["row", "told", "order", "here", "place"]) (sc := defScope s_fits) (by decide +kernel)) (fun _ _ _ _ _ => by exact (pg_name (i := 4) sc_fits.nd rfl (by first | exact Or.inl rfl | exact Or.inr rfl))) (fun _ _ _ _ _ => pts_nil) (fun _ _ _ _ _ => by exact (pe_ix ix_list (pv 0) (pv 4) (fun _ _ => rfl))))) pa_nil)))))
        (pss_one (by exact (ps_ret (pe_cmpR (op_eqD hr.units) (pv 3) (by exact (pe_call (ok_ranks T) (hr.mono (by decide)) (by rfl) T.g_ranks T.F_ranks.kp T.b_ranks .nil pass0 (pa_cons (pe_slice sl_list (pv 2) po_none (po_some (by exact (pe_callB call_lenS (by rfl) T.m_len PySem.boot_len (pa_cons (pv 1) pa_nil))))) pa_nil))) (nomark _)))))), ?_⟩
    rw [show (start ["row", "told", "order", "here", "place"] [V.ref a, V.ref b, V.ref c] : L2.St) = [some (V.ref a), some (V.ref b), some (V.ref c), none, none] from rfl]
    walk_at "rd"
    refine ⟨⟨_, hB⟩, fun D nD => ?_⟩
    refine lcK_map t nV (fun i => V.int (row.getD i 0)) nD hB (by omega) (fun i x acc H' QT hx hs hD hq => ?_) (fun H1 s1 hD => ?_)
    · walk_at "rd"
      have hx2 := ht x (List.mem_of_getElem? hx)
      refine ⟨_, hs.seq hA, _, atI_ints (by omega) (by omega), ?_⟩
      rw [Int.toNat_natCast]
      exact hq _ hs hD
    · refine ⟨D, sel row t, rfl, SqL.of (by rw [hD, sel, List.map_map]; rfl), by simp [sel]; omega, fun H2 p s2 np hp => ?_⟩
      have s12 := s1.trans s2
      walk_at "rd"
      refine ⟨_, .inl (s12.seq hB), _, s12.seq hC, fun r nr => ?_⟩
      rw [List.length_map, cut_to, ← List.map_take]
      refine ⟨r, order.take t.length, rfl, sql_self, by simp; omega, fun H3 z s3 nz hz => ?_⟩
      exact rEq_ints (SqL.of (s3 _ _ (same_new nr _ _ hp))) (SqL.of hz) (q _ ((s12.trans (same_new nr)).trans s3))

end
end Sh

namespace Sh
section
variable {P : Program} {w : World} {K : PySem.W.Frag} {mg : Str → Option Value} {base : Heap}
def LLN (H : Hp) (bs : List (Addr × List Nat)) : Prop := ∀ b ∈ bs, H b.1 = some (.lst (b.2.map nV))
def sp_grown (T : Tx K mg) : Sp := fun vs H Q E => ∃ (a b c : Addr) (row order : List Int) (t : List Nat), vs = [.ref a, .ref c, .ref b] ∧ SqL K H a (row.map V.int) ∧ H b = some (.lst (t.map nV)) ∧ SqL K H c (order.map V.int) ∧ row.length ≤ 4000 ∧ t.length ≤ 2000 ∧ order.length ≤ 4000 ∧ (∀ i ∈ t, i < row.length) ∧
  ∀ (bs : List (Addr × List Nat)) H' p, Same H H' → H p = none → H' p = some (.lst (bs.map fun b => V.ref b.1)) → (∀ b ∈ bs, H' b.1 = some (.lst (b.2.map nV))) → (∀ b ∈ bs, H b.1 = none) → bs.map Prod.snd = grownL row order t → Q (.ref p) H'
theorem ok_grown (T : Tx K mg) : FnOk P w K mg base CX0 3 T.f_grown T.fd_grown ["row", "order", "told"] (sp_grown T) := by
  refine T.F_grown.ok sc_grown (fun vs H Q E h => ?_) (fun cdv A outer s H vs Q E hr h => ?_)
  · obtain ⟨a, b, c, row, order, t, rfl, _⟩ := h
    rfl
  · obtain ⟨a, b, c, row, order, t, rfl, hA, hB, hC, lA, lB, lC, ht, q⟩ := h
    refine ⟨_, (pss_cons (by exact (ps_set (i := 3) sc_grown.nd rfl (Or.inl rfl) (by exact (pe_ifExp (pt_cmpR (op_gt) (by exact (pe_callB call_lenS (by rfl) T.m_len PySem.boot_len (pa_cons (pv 2) pa_nil))) pe_int (nomark _)) (pe_op op_add (pe_ix ix_list (pv 2) (pe_un un_neg pe_int) (fun _ _ => rfl)) pe_int) pe_int))))
        (pss_cons (by exact (ps_setLc (i := 4) (own := [("place", 5)]) (g := gName 5) (tt := tYes) (te := (tOp rCat (tVar 2) (tLst (tCons (tVar 5) tNil)))) rfl sc_grown.nd rfl rfl (sw_true rfl rfl rfl (by decide +kernel)) (pi_range2 rfl T.m_range (pa_cons (pv 3) (pa_cons (by exact (pe_callB call_lenS (by rfl) T.m_len PySem.boot_len (pa_cons (pv 0) pa_nil))) pa_nil))) (blkOk_by (N := ["row", "order", "told", "start", "more", "place", "some"]) (sc := defScope s_grown) (by decide +kernel)) (fun _ _ _ _ _ => by exact (pg_name (i := 5) sc_grown.nd rfl (by first | exact Or.inl rfl | exact Or.inr rfl))) (fun _ _ _ _ _ => pts_nil) (fun _ _ _ _ _ => by exact (pe_op op_cat (pv 2) (pe_lst (pa_cons (pv 5) pa_nil))))))
        (pss_one (by exact (ps_ret (by exact (pe_lc (own := [("some", 6)]) (g := gName 6) (tt := (tB (tCall (sp_fits T) [] E0 (tCons (tVar 0) (tCons (tVar 6) (tCons (tVar 1) tNil)))))) (te := (tVar 6)) rfl sc_grown.nd (pi_list (pv 4)) (blkOk_by (N := ["row", "order", "told", "start", "more", "place", "some"]) (sc := defScope s_grown) (by decide +kernel)) (fun _ _ _ _ _ => by exact (pg_name (i := 6) sc_grown.nd rfl (by first | exact Or.inl rfl | exact Or.inr rfl))) (fun _ _ _ _ _ => by exact (pts_one (pt_val (by exact (pe_call (ok_fits T) (hr.mono (by decide)) (by rfl) T.g_fits T.F_fits.kp T.b_fits .nil pass0 (pa_cons (pv 0) (pa_cons (pv 6) (pa_cons (pv 1) pa_nil)))))))) (fun _ _ _ _ _ => by exact (pv 6))))))))), ?_⟩
    rw [show (start ["row", "order", "told", "start", "more", "place", "some"] [V.ref a, V.ref c, V.ref b] : L2.St) = [some (V.ref a), some (V.ref c), some (V.ref b), none, none, none, none] from rfl]
    walk_at "rd"
    refine ⟨_, .inl (SqL.of hB), ?_⟩
    simp only [List.length_map]
    have st : startN t ≤ row.length := by
      unfold startN
      split
      · omega
      · rename_i h0; have := ht _ (last_mem h0); omega
    refine ite2 (fun cc => ?_) (fun cc => ?_)
    have h0 : t ≠ [] := fun z => by rw [z] at cc; simp at cc
    have hst : ((t.getLastD 0 : Nat) : Int) + 1 = ((startN t : Nat) : Int) := by unfold startN; rw [if_neg h0]; omega
    refine ⟨_, SqL.of hB, _, atI_lastN h0, _, rfl, ?_⟩
    rw [hst]
    rotate_left
    have h0 : t = [] := List.length_eq_zero_iff.mp (by omega)
    have hst : (0 : Int) = ((startN t : Nat) : Int) := by unfold startN; rw [if_pos h0]; rfl
    rw [hst]
    all_goals
      refine ⟨_, .inl hA, by omega, by omega, by rw [List.length_map]; omega, by rw [List.length_map]; omega, fun D nD => ?_⟩
      rw [List.length_map, show ((row.length : Int) - ((startN t : Nat) : Int)).toNat = row.length - startN t by omega]
      refine lcK_newR (fun t : List Nat => .lst (t.map nV)) (fun i => t ++ [startN t + i]) nD (by omega) (fun i H' QT hi hs hq => ?_) (fun H1 bs s1 hD hb hn hne e => ?_)
      · walk_at "rd"
        refine ⟨lineLe (by simp), fun p1 np1 => ⟨_, same_new np1 _ _ (hs _ _ hB), _, upd_same, lineLe (by simp; omega), fun p2 np2 => ?_⟩⟩
        refine hq _ p2 ((same_new np1).trans (same_new np2)) ((same_new np1).free np2) ?_
        rw [upd_same]
        simp
      · refine ⟨⟨_, SqL.of hD⟩, fun D2 nD2 => ?_⟩
        have be : ∀ b ∈ bs, b.2 ∈ growN row.length t := fun b hb => by
          have : b.2 ∈ bs.map Prod.snd := List.mem_map.mpr ⟨b, hb, rfl⟩
          rw [e] at this; exact this
        refine lcK_filt bs (fun b => V.ref b.1) (fun b => fitsB row order b.2) (fun b => V.ref b.1) nD2 (SqL.of hD) (by have := congrArg List.length e; simp at this; omega) (fun i x acc H' QT Qf hx hs hD2 htt hff => ?_) (fun H2 s2 hD2 => ?_)
        · have hxm := List.mem_of_getElem? hx
          obtain ⟨p, hp, _, hp2⟩ := growN_len (be x hxm)
          have s12 := s1.trans hs
          walk_at "rd"
          refine ⟨a, x.1, c, row, order, x.2, rfl, s12.seq hA, SqL.of (hs _ _ (hb x hxm)), s12.seq hC, lA, by rw [hp]; simp; omega, lC, fun i hi => ?_, fun H4 s4 => ⟨_, rfl, ?_⟩⟩
          · rw [hp] at hi
            rcases List.mem_append.mp hi with z | z
            · exact ht i z
            · have : i = p := by simpa using z
              omega
          · exact ite2 (fun c => htt c _ (hs.trans s4) (s4 _ _ hD2)) (fun c => hff (by simpa using c) _ (hs.trans s4) (s4 _ _ hD2))
        · refine q (bs.filter fun b => fitsB row order b.2) _ D2 (s1.trans s2) (s1.free nD2) hD2 (fun b hb' => s2 _ _ (hb b (List.mem_filter.mp hb').1)) (fun b hb' => hn b (List.mem_filter.mp hb').1) ?_
          rw [grownL, growN, ← e, List.filter_map]
          rfl

end
end Sh

namespace Sh
section
variable {P : Program} {w : World} {K : PySem.W.Frag} {mg : Str → Option Value} {base : Heap}
def sp_found_from (T : Tx K mg) : Nat → Sp
  | 0 => fun _ _ _ _ => False
  | d + 1 => fun vs H Q E => ∃ (a b c : Addr) (row order : List Int) (t : List Nat), vs = [.ref a, .ref c, .ref b] ∧ SqL K H a (row.map V.int) ∧ H b = some (.lst (t.map nV)) ∧ SqL K H c (order.map V.int) ∧ row.length ≤ 4000 ∧ order.length < t.length + (d + 1) ∧ t.length ≤ order.length ∧ order.length ≤ 2000 ∧ (∀ i ∈ t, i < row.length) ∧
    (dfs row order (d + 1) t = none → ∀ H', Same H H' → Q .non H') ∧ (∀ r, dfs row order (d + 1) t = some r → ∀ H' p, Same H H' → H p = none → H' p = some (.tup (r.map nV)) → Q (.ref p) H')
theorem ok_found_from (T : Tx K mg) : ∀ d, FnOk P w K mg base CX0 (4 + d) T.f_found_from T.fd_found_from ["row", "order", "told"] (sp_found_from T d)
| 0 => T.F_found_from.ok sc_found_from (fun vs H Q E h => h.elim) (fun cdv A outer s H vs Q E hr h => h.elim)
| d + 1 => by
  refine T.F_found_from.ok sc_found_from (fun vs H Q E h => ?_) (fun cdv A outer s H vs Q E hr h => ?_)
  · obtain ⟨a, b, c, row, order, t, rfl, _⟩ := h
    rfl
  · obtain ⟨a, b, c, row, order, t, rfl, hA, hB, hC, lA, hd, ht, lC, tb, q1, q2⟩ := h
    refine ⟨_, (pss_cons (by exact (ps_if (pt_cmpR (op_eq) (by exact (pe_callB call_lenS (by rfl) T.m_len PySem.boot_len (pa_cons (pv 2) pa_nil))) (by exact (pe_callB call_lenS (by rfl) T.m_len PySem.boot_len (pa_cons (pv 1) pa_nil))) (nomark _)) (pss_one (by exact (ps_ret (by exact (pe_callTy call_tupleS (by rfl) T.m_tuple (by decide +kernel) (pa_cons (pv 2) pa_nil)))))) pss_nil))
        (pss_cons (by exact (ps_for PassesOwn.never rfl (pi_list (by exact (pe_call (ok_grown T) (hr.mono (Nat.le_trans (by decide) (Nat.le_add_right _ _))) (by rfl) T.g_grown T.F_grown.kp T.b_grown .nil pass0 (pa_cons (pv 0) (pa_cons (pv 1) (pa_cons (pv 2) pa_nil)))))) (pg_name (i := 3) sc_found_from.nd rfl (Or.inl rfl))
        (pss_cons (by exact (ps_set (i := 4) sc_found_from.nd rfl (Or.inl rfl) (by exact (pe_call (ok_found_from T d) (hr.mono (Nat.le_refl _)) (by rfl) T.g_found_from T.F_found_from.kp T.b_found_from .nil pass0 (pa_cons (pv 0) (pa_cons (pv 1) (pa_cons (pv 3) pa_nil)))))))
        (pss_one (by exact (ps_if (pt_cmpR (op_notN) (pv 4) pe_non (nomark _)) (pss_one (by exact (ps_ret (pv 4)))) pss_nil))))))
        (pss_one (by exact (ps_ret pe_non))))), ?_⟩
    rw [show (start ["row", "order", "told", "some", "found"] [V.ref a, V.ref c, V.ref b] : L2.St) = [some (V.ref a), some (V.ref c), some (V.ref b), none, none] from rfl]
    walk_at "rd"
    refine ⟨_, .inl (SqL.of hB), _, .inl hC, ?_⟩
    simp only [List.length_map]
    refine ⟨rfl, ite2 (fun cc => ?_) (fun cc => ?_)⟩
    · have e : dfs row order (d + 1) t = some t := by rw [dfs, if_pos (by omega)]
      exact ⟨_, .inl ⟨SqL.of hB, fun l nl => q2 t e _ l (same_new nl) nl upd_same⟩⟩
    have e : dfs row order (d + 1) t = (grownL row order t).findSome? (dfs row order d) := by rw [dfs, if_neg (by omega)]
    rw [e] at q1 q2
    refine ⟨a, b, c, row, order, t, rfl, hA, hB, hC, lA, by omega, by omega, tb, fun bs H1 p s1 np hp hb hn eb => ⟨p, rfl, ⟨_, SqL.of hp⟩, ?_⟩⟩
    rw [← eb] at q1 q2
    have be : ∀ b ∈ bs, b.2 ∈ growN row.length t := fun b hb => by
      have : b.2 ∈ bs.map Prod.snd := List.mem_map.mpr ⟨b, hb, rfl⟩
      rw [eb] at this; exact (List.mem_filter.mp this).1
    refine forK_map bs (fun b => V.ref b.1) (fun i σ H' => ∃ (y3 y4 : Option V), σ = [some (V.ref a), some (V.ref c), some (V.ref b), y3, y4] ∧ Same H1 H' ∧ ((bs.map Prod.snd).take i).findSome? (dfs row order d) = none)
      ⟨_, _, rfl, Same.refl _, rfl⟩ (fun i σ H' _ h => ?_) (fun i x σ H' hx h => ?_) (fun σ H' h => ?_)
    · obtain ⟨y3, y4, rfl, s2, _⟩ := h
      exact SqL.of (s2 _ _ hp)
    · obtain ⟨y3, y4, rfl, s2, hno⟩ := h
      walk_at "rd"
      have hxm := List.mem_of_getElem? hx
      have hx2 : (bs.map Prod.snd)[i]? = some x.2 := by rw [List.getElem?_map, hx]; rfl
      obtain ⟨pl, hpl, _, hpl2⟩ := growN_len (be x hxm)
      have xl : x.2.length = t.length + 1 := by rw [hpl]; simp
      cases d with
      | zero => exact absurd hd (by omega)
      | succ d =>
        refine ⟨a, x.1, c, row, order, x.2, rfl, (s1.trans s2).seq hA, s2 _ _ (hb x hxm), (s1.trans s2).seq hC, lA, by omega, by omega, lC, fun i hi => ?_, fun h0 H2 s3 => ?_, fun r hr H2 p2 s3 np2 hp2 => ?_⟩
        · rw [hpl] at hi
          rcases List.mem_append.mp hi with z | z
          · exact tb i z
          · have : i = pl := by simpa using z
            omega
        · refine iteF' (fun z : ¬ V.non = V.non => z rfl) ?_
          exact ⟨s2.trans s3, findSome_step hno hx2 h0⟩
        · refine iteT' (show ¬ V.ref p2 = V.non from fun z => by cases z) ?_
          exact q2 r (findSome_at hno hx2 hr) _ p2 ((s1.trans s2).trans s3) ((s1.trans s2).free np2) hp2
    · obtain ⟨y3, y4, rfl, s2, hno⟩ := h
      rw [← List.length_map (f := Prod.snd), List.take_length] at hno
      walk_at "rd"
      exact q1 hno _ (s1.trans s2)

end
end Sh

namespace Sh
section
variable {P : Program} {w : World} {K : PySem.W.Frag} {mg : Str → Option Value} {base : Heap}
def sp_ask_without (T : Tx K mg) : Sp := fun vs H Q E => ∃ (a c : Addr) (row order : List Int), vs = [.ref a, .ref c] ∧ SqL K H a (row.map V.int) ∧ SqL K H c (order.map V.int) ∧ row.length ≤ 4000 ∧ order.length ≤ 4 ∧
  (1 ≤ row.length ∧ row.length ≤ 20 → placesL row order = [] → ∀ H', Same H H' → Q .non H') ∧ (1 ≤ row.length ∧ row.length ≤ 20 → placesL row order ≠ [] → ∀ H', Same H H' → E (.ref T.C_HasOrder) none H') ∧ (¬ (1 ≤ row.length ∧ row.length ≤ 20) → ∀ H', Same H H' → E (.ref T.C_NoSize) none H')
theorem ok_ask_without (T : Tx K mg) : FnOk P w K mg base (L2.CX P w) 11 T.f_ask_without T.fd_ask_without ["shape", "order"] (sp_ask_without T) := by
  refine T.F_ask_without.okX sc_ask_without (fun vs H Q E h => ?_) (fun cdv A outer s H vs Q E hr h => ?_)
  · obtain ⟨a, c, row, order, rfl, _⟩ := h
    rfl
  · obtain ⟨a, c, row, order, rfl, hA, hC, lA, lC, q1, q2, q3⟩ := h
    refine ⟨_, (pss_cons (by exact (ps_expr (by exact (pe_call (ok_ask_size T) (hr.mono (by decide)) (by rfl) T.g_ask_size T.F_ask_size.kp T.b_ask_size .nil (passes_call (takes_of rfl rfl rfl rfl) (fun _ _ _ _ h => h)) (pa_cons (by exact (pe_callB call_lenS (by rfl) T.m_len PySem.boot_len (pa_cons (pv 0) pa_nil))) pa_nil)))))
        (pss_one (by exact (ps_if (pt_cmpR (op_notN) (by exact (pe_call (ok_found_from T 6) (hr.mono (by decide)) (by rfl) T.g_found_from T.F_found_from.kp T.b_found_from .nil pass0 (pa_cons (pv 0) (pa_cons (pv 1) (pa_cons (pe_lst pa_nil) pa_nil))))) pe_non (nomark _)) (pss_one (by exact (ps_raise rfl (takes_of rfl rfl rfl rfl) (pmk_own PySem.F.excBase_ValueError T.x_HasOrder T.gC_HasOrder T.kC_HasOrder (raises_own T.bC_HasOrder T.tC_HasOrder) (by exact rfl))))) pss_nil)))), ?_⟩
    rw [show (start ["shape", "order"] [V.ref a, V.ref c] : L2.St) = [some (V.ref a), some (V.ref c)] from rfl]
    walk_at "rd"
    refine ⟨_, .inl hA, ?_⟩
    rw [List.length_map]
    refine ⟨_, rfl, fun k1 => ?_, fun z => q3 (fun w => z (by omega)) _ (Same.refl _)⟩
    have k1' : 1 ≤ row.length ∧ row.length ≤ 20 := by omega
    walk_at "rd"
    refine ⟨lineLe (by simp), fun e ne => ⟨a, e, c, row, order, [], rfl, sql_new ne hA, upd_same, sql_new ne hC, lA, by simp; omega, by simp, by omega, by simp, fun z H2 s2 => ?_, fun r z H2 p s2 np hp => ?_⟩⟩
    · rw [dfs_first (Nat.lt_of_le_of_lt lC (by decide))] at z
      refine iteF' (fun w : ¬ V.non = V.non => w rfl) ?_
      exact q1 k1' (List.head?_eq_none_iff.mp z) _ ((same_new ne).trans s2)
    · rw [dfs_first (Nat.lt_of_le_of_lt lC (by decide))] at z
      refine iteT' (show ¬ V.ref p = V.non from fun w => by cases w) ?_
      exact q2 k1' (fun w => by rw [w] at z; cases z) _ ((same_new ne).trans s2)

end
end Sh

namespace Sh
section
variable {P : Program} {w : World} {K : PySem.W.Frag} {mg : Str → Option Value} {base : Heap}
def sp_pile_number (T : Tx K mg) : Sp := fun vs H Q E => ∃ (a : Addr) (s : List Int), vs = [.ref a] ∧ SqL K H a (s.map V.int) ∧ shapeOk s ∧ ∀ H', Same H H' → Q (.int (pnum s : Nat)) H'
theorem ok_pile_number (T : Tx K mg) : FnOk P w K mg base CX0 2 T.f_pile_number T.fd_pile_number ["shape"] (sp_pile_number T) := by
  refine T.F_pile_number.ok sc_pile_number (fun vs H Q E h => ?_) (fun cdv A outer s H vs Q E hr h => ?_)
  · obtain ⟨a, s, rfl, _⟩ := h
    rfl
  · obtain ⟨a, s0, rfl, hA, sok, q⟩ := h
    refine ⟨_, (pss_cons (by exact (ps_set (i := 1) sc_pile_number.nd rfl (Or.inl rfl) (by exact (pe_call (ok_ways T) (hr.mono (by decide)) (by rfl) T.g_ways T.F_ways.kp T.b_ways .nil pass0 (pa_cons (by exact (pe_callB call_lenS (by rfl) T.m_len PySem.boot_len (pa_cons (pv 0) pa_nil))) pa_nil)))))
        (pss_cons (by exact (ps_set (i := 2) sc_pile_number.nd rfl (Or.inl rfl) (pe_op op_mul pe_int (by exact (pe_callB call_lenS (by rfl) T.m_len PySem.boot_len (pa_cons (pv 0) pa_nil))))))
        (pss_cons (by exact (ps_set (i := 3) sc_pile_number.nd rfl (Or.inl rfl) pe_int))
        (pss_cons (by exact (ps_set (i := 4) sc_pile_number.nd rfl (Or.inl rfl) pe_int))
        (pss_cons (by exact (ps_set (i := 5) sc_pile_number.nd rfl (Or.inl rfl) pe_int))
        (pss_cons (by exact (ps_for PassesOwn.never rfl (pi_list (pv 0)) (pg_name (i := 6) sc_pile_number.nd rfl (Or.inl rfl))
        (pss_cons (by exact (ps_while PassesOwn.never (pt_cmpR (op_le) (pv 4) (pv 6) (nomark _))
        (pss_cons (by exact (ps_set (i := 4) sc_pile_number.nd rfl (Or.inl rfl) (pe_op op_add (pv 4) pe_int)))
        (pss_cons (by exact (ps_set (i := 3) sc_pile_number.nd rfl (Or.inl rfl) (pe_op op_add (pv 3) pe_int)))
        (pss_one (by exact (ps_set (i := 2) sc_pile_number.nd rfl (Or.inl rfl) (pe_op op_sub (pv 2) pe_int))))))))
        (pss_cons (by exact (ps_set (i := 2) sc_pile_number.nd rfl (Or.inl rfl) (pe_op op_sub (pv 2) pe_int)))
        (pss_cons (by exact (ps_set (i := 5) sc_pile_number.nd rfl (Or.inl rfl) (pe_op op_add (pv 5) (pe_ix ix_list (pe_ix ix_list (pv 1) (pv 2) (fun _ _ => rfl)) (pe_op op_add (pv 3) pe_int) (fun _ _ => rfl)))))
        (pss_one (by exact (ps_set (i := 3) sc_pile_number.nd rfl (Or.inl rfl) (pe_op op_sub (pv 3) pe_int)))))))))
        (pss_one (by exact (ps_ret (pv 5)))))))))), ?_⟩
    rw [show (start ["shape", "rows", "left", "height", "taken", "number", "wanted"] [V.ref a] : L2.St) = [some (V.ref a), none, none, none, none, none, none] from rfl]
    have hl := sok.1
    walk_at "rd"
    refine ⟨_, .inl hA, ?_⟩
    rw [List.length_map]
    refine ⟨s0.length, rfl, hl, fun bs H1 ra s1 nra hra ll e => ⟨_, .inl (s1.seq hA), ?_⟩⟩
    rw [List.length_map]
    walk_at "rd"
    refine ⟨.inl ⟨by decide, by decide⟩, ⟨_, s1.seq hA⟩, ?_⟩
    refine forK_map s0 V.int (fun i σ H' => ∃ (l h t k : Nat) (y6 : Option V), σ = [some (V.ref a), some (V.ref ra), some (V.int l), some (V.int h), some (V.int t), some (V.int k), y6] ∧ H' = H1 ∧ l + t + i = 2 * s0.length ∧ h + i = t ∧ t ≤ s0.length ∧ pnum s0 = k + pn l h t ((s0.drop i).map Int.toNat) ∧ ∀ x ∈ s0.take i, x < (t : Int))
      ⟨2 * s0.length, 0, 0, 0, _, by rw [show ((2 * s0.length : Nat) : Int) = 2 * (s0.length : Int) by omega]; rfl, rfl, by omega, by omega, by omega, by simp [pnum], by simp⟩ (fun i σ H' _ h => ?_) (fun i w σ H' hw h => ?_) (fun σ H' h => ?_)
    · obtain ⟨l, h, t, k, y6, rfl, rfl, _⟩ := h
      exact s1.seq hA
    · obtain ⟨l, h, t, k, y6, rfl, rfl, e1, e2, e3, e4, e5⟩ := h
      have hi : i < s0.length := (List.getElem?_eq_some_iff.mp hw).1
      have hwb := (shapeOk_mem sok).mp (List.mem_of_getElem? hw)
      have hd : s0.drop i = w :: s0.drop (i + 1) := by
        rw [List.drop_eq_getElem_cons hi]
        rw [List.getElem?_eq_getElem hi] at hw
        rw [Option.some.inj hw]
      rw [hd, List.map_cons] at e4
      refine seq_of (fun σ H2 => ∃ (l h t : Nat), σ = [some (V.ref a), some (V.ref ra), some (V.int l), some (V.int h), some (V.int t), some (V.int k), some (V.int w)] ∧ H2 = H' ∧ l + t + i = 2 * s0.length ∧ h + i = t ∧ t ≤ s0.length ∧ pnum s0 = k + pn l h t (w.toNat :: (s0.drop (i + 1)).map Int.toNat) ∧ (∀ x ∈ s0.take i, x < (t : Int)) ∧ w < (t : Int)) (fun σ H2 h => ?_) (fun U hU => ?_)
      rotate_left
      · refine ⟨fun m σ H2 => ∃ (l h t : Nat), σ = [some (V.ref a), some (V.ref ra), some (V.int l), some (V.int h), some (V.int t), some (V.int k), some (V.int w)] ∧ H2 = H' ∧ l + t + i = 2 * s0.length ∧ h + i = t ∧ t ≤ s0.length ∧ pnum s0 = k + pn l h t (w.toNat :: (s0.drop (i + 1)).map Int.toNat) ∧ (∀ x ∈ s0.take i, x < (t : Int)) ∧ m = (w + 1 - t).toNat, ⟨_, l, h, t, rfl, rfl, e1, e2, e3, e4, e5, rfl⟩, fun m σ H2 hW => ?_⟩
        obtain ⟨l, h, t, rfl, rfl, e1, e2, e3, e4, e5, rfl⟩ := hW
        walk_at "rd"
        refine ite2 (fun c => ?_) (fun c => hU _ _ ⟨l, h, t, rfl, rfl, e1, e2, e3, e4, e5, by omega⟩)
        obtain ⟨l', rfl⟩ : ∃ l', l = l' + 1 := ⟨l - 1, by omega⟩
        refine ⟨fun σ' H' => σ' = [some (V.ref a), some (V.ref ra), some (V.int ((l' + 1 : Nat) - 1 : Int)), some (V.int ((h : Int) + 1)), some (V.int ((t : Int) + 1)), some (V.int k), some (V.int w)] ∧ H' = H2, fun σ' H' h' => ?_, ⟨rfl, rfl⟩⟩
        obtain ⟨rfl, rfl⟩ := h'
        refine ⟨_, ?_, l', h + 1, t + 1, ?_, rfl, by omega, by omega, by omega, ?_, fun x hx => ?_, rfl⟩
        · omega
        · rw [show ((l' + 1 : Nat) : Int) - 1 = (l' : Int) by omega]; rfl
        · rw [e4, pn, if_pos (by omega)]
        · have := e5 x hx; omega
      · obtain ⟨l, h, t, rfl, rfl, e1, e2, e3, e4, e5, e6⟩ := h
        have cnt : i + 1 ≤ t := by
          have nd : ((s0.take (i + 1)).map Int.toNat).Nodup := by
            refine nodup_map (List.Nodup.sublist (List.take_sublist _ _) (shapeOk_row sok).2) fun x hx y hy z => ?_
            have h1 := (shapeOk_mem sok).mp (List.mem_of_mem_take hx)
            have h2 := (shapeOk_mem sok).mp (List.mem_of_mem_take hy)
            omega
          have := len_le_of_sub nd (m := List.range t) fun x hx => by
            obtain ⟨y, hy, rfl⟩ := List.mem_map.mp hx
            have h1 := (shapeOk_mem sok).mp (List.mem_of_mem_take hy)
            rw [take_more hw] at hy
            rcases List.mem_append.mp hy with z | z
            · have := e5 y z
              exact List.mem_range.mpr (by omega)
            · have : y = w := by simpa using z
              exact List.mem_range.mpr (by omega)
          rw [List.length_map, List.length_take, List.length_range] at this
          omega
        walk_at "rd"
        obtain ⟨l', rfl⟩ : ∃ l', l = l' + 1 := ⟨l - 1, by omega⟩
        obtain ⟨b, hb, hbm, eb⟩ := snd_at e (show l' < 2 * s0.length + 1 by omega)
        have hbl := ll b hbm
        rw [eb] at hbl
        have wl := wayN_len s0.length l'
        have e7 : pnum s0 = k + (Wy l' (h + 1) + pn l' (h - 1) t ((s0.drop (i + 1)).map Int.toNat)) := by rw [e4, pn, if_neg (by omega)]
        refine ⟨_, SqL.of hra, V.ref b.1, by rw [show ((l' + 1 : Nat) : Int) - 1 = (l' : Int) by omega]; exact atI_nat (by rw [List.getElem?_map, hb]; rfl), _, rfl, _, SqL.of hbl, _, atI_ints (by omega) (by omega), _, rfl, l', by omega, h - 1, by omega, t, rfl, k + Wy l' (h + 1), ?_, by omega, by omega, by omega, by omega, fun x hx => ?_⟩
        · rw [show ((h : Int) + 1).toNat = h + 1 by omega, wayN_get (by omega)]; omega
        · rw [take_more hw] at hx
          rcases List.mem_append.mp hx with z | z
          · exact e5 x z
          · have : x = w := by simpa using z
            omega
    · obtain ⟨l, h, t, k, y6, rfl, rfl, e1, e2, e3, e4, e5⟩ := h
      walk_at "rd"
      rw [List.drop_length, List.map_nil] at e4
      have : pnum s0 = k := by rw [e4]; cases l <;> rfl
      rw [← this]
      exact q _ s1

end
end Sh

namespace Sh
section
variable {P : Program} {w : World} {K : PySem.W.Frag} {mg : Str → Option Value} {base : Heap}
def sp_numbered (T : Tx K mg) : Sp := fun vs H Q E => ∃ (a b : Addr) (s o : List Int), vs = [.ref a, .ref b] ∧ SqL K H a (s.map V.int) ∧ SqL K H b (o.map V.int) ∧ numOk s ∧ ∀ H', Same H H' → Q (.int (numL s o : Nat)) H'
theorem ok_numbered (T : Tx K mg) : FnOk P w K mg base CX0 3 T.f_numbered T.fd_numbered ["shape", "order"] (sp_numbered T) := by
  refine T.F_numbered.ok sc_numbered (fun vs H Q E h => ?_) (fun cdv A outer s H vs Q E hr h => ?_)
  · obtain ⟨a, b, s, o, rfl, _⟩ := h
    rfl
  · obtain ⟨a, b, s0, o, rfl, hA, hB, nok, q⟩ := h
    refine ⟨_, (pss_cons (by exact (ps_if (PW.pt (pw_and (pt_cmpR (op_neD hr.units) (pv 1) (pe_glob (v := .ref T.a_RISE) rfl T.g_RISE rfl) (nomark _)) (pw_and1 (pt_cmpR (op_neD hr.units) (pv 1) (pe_glob (v := .ref T.a_FALL) rfl T.g_FALL rfl) (nomark _))))) (pss_one (by exact (ps_ret (by exact (pe_call (ok_pile_number T) (hr.mono (by decide)) (by rfl) T.g_pile_number T.F_pile_number.kp T.b_pile_number .nil pass0 (pa_cons (by exact (pe_call (ok_turned T) (hr.mono (by decide)) (by rfl) T.g_turned T.F_turned.kp T.b_turned .nil pass0 (pa_cons (pv 0) (pa_cons (pv 1) pa_nil)))) pa_nil)))))) pss_nil))
        (pss_cons (by exact (ps_if (pt_cmpR (op_eqD hr.units) (pv 1) (pe_glob (v := .ref T.a_FALL) rfl T.g_FALL rfl) (nomark _)) (pss_one (by exact (ps_set (i := 0) sc_numbered.nd rfl (Or.inr rfl) (by exact (pe_lc (own := [("one", 2)]) (g := gName 2) (tt := tYes) (te := (tOp (rI0 fun i j => .int (i - j)) (tOp (rI0 fun i j => .int (i - j)) (tCB (rLen K) (tCons (tVar 0) tNil)) (tC (.int 1))) (tVar 2))) rfl sc_numbered.nd (pi_list (pv 0)) (blkOk_by (N := ["shape", "order", "one"]) (sc := defScope s_numbered) (by decide +kernel)) (fun _ _ _ _ _ => by exact (pg_name (i := 2) sc_numbered.nd rfl (by first | exact Or.inl rfl | exact Or.inr rfl))) (fun _ _ _ _ _ => pts_nil) (fun _ _ _ _ _ => by exact (pe_op op_sub (pe_op op_sub (by exact (pe_callB call_lenS (by rfl) T.m_len PySem.boot_len (pa_cons (pv 0) pa_nil))) pe_int) (pv 2)))))))) pss_nil))
        (pss_one (by exact (ps_ret (by exact (pe_call (ok_pile_number T) (hr.mono (by decide)) (by rfl) T.g_pile_number T.F_pile_number.kp T.b_pile_number .nil pass0 (pa_cons (by exact (pe_call (ok_turned T) (hr.mono (by decide)) (by rfl) T.g_turned T.F_turned.kp T.b_turned .nil pass0 (pa_cons (by exact (pe_call (ok_filled T) (hr.mono (by decide)) (by rfl) T.g_filled T.F_filled.kp T.b_filled .nil pass0 (pa_cons (pv 0) (pa_cons pe_bl pa_nil)))) (pa_cons (pe_lst (pa_cons pe_int (pa_cons pe_int (pa_cons pe_int pa_nil)))) pa_nil)))) pa_nil)))))))), ?_⟩
    rw [show (start ["shape", "order", "one"] [V.ref a, V.ref b] : L2.St) = [some (V.ref a), some (V.ref b), none] from rfl]
    have hR : ∀ H', SqL K H' T.a_RISE (RISE.map V.int) := T.l_RISE
    have hF : ∀ H', SqL K H' T.a_FALL (FALL.map V.int) := T.l_FALL
    have sok := nok.1
    have sl := sok.1
    refine seq_of (fun σ H' => σ = [some (V.ref a), some (V.ref b), none] ∧ H' = H ∧ ¬ (o ≠ RISE ∧ o ≠ FALL)) (fun σ H' h => ?_) (fun U hU => ?_)
    rotate_left
    · walk_at "r1"
      refine rNe_ints hB (hR _) ⟨_, rfl, ite2 (fun c => ?_) (fun c => ?_)⟩
      · have c1 : o ≠ RISE := by simpa using c
        refine rNe_ints hB (hF _) ⟨_, rfl, ite2 (fun d => ?_) (fun d => ?_)⟩
        · have c2 : o ≠ FALL := by simpa using d
          refine ⟨a, b, s0, o, rfl, hA, hB, by omega, fun H2 p s2 np hp => ⟨p, turnL s0 o, rfl, SqL.of hp, turn_shape sok o, fun H3 s3 => ?_⟩⟩
          have := q H3 (s2.trans s3)
          rw [numL, if_pos ⟨c1, c2⟩] at this
          exact this
        · exact hU _ _ ⟨rfl, rfl, fun z => d (by simpa using z.2)⟩
      · exact hU _ _ ⟨rfl, rfl, fun z => c (by simpa using z.1)⟩
    obtain ⟨rfl, rfl, nb⟩ := h
    refine seq_of (fun σ H2 => ∃ p, σ = [some (V.ref p), some (V.ref b), none] ∧ Same H' H2 ∧ SqL K H2 p ((if o = FALL then contraryL s0 else s0).map V.int)) (fun σ H2 h => ?_) (fun U hU => ?_)
    rotate_left
    · walk_at "r1"
      refine rEq_ints hB (hF _) ⟨_, rfl, ite2 (fun c => ?_) (fun c => ?_)⟩
      · have c' := of_decide_eq_true c
        refine ⟨⟨_, hA⟩, fun D nD => ?_⟩
        refine lcK_map s0 V.int (fun x => V.int ((s0.length : Int) - 1 - x)) nD hA (by omega) (fun i x acc H5 QT hx hs hD hq => ?_) (fun H5 s5 hD => ?_)
        · walk_at "r1"
          refine ⟨_, .inl (hs.seq hA), ?_⟩
          rw [List.length_map]
          exact hq _ hs hD
        · refine hU _ _ ⟨D, rfl, s5, ?_⟩
          rw [if_pos c']
          refine SqL.of ?_
          rw [hD, contraryL, List.map_map]
          rfl
      · have c' : ¬ o = FALL := fun z => c (decide_eq_true z)
        refine hU _ _ ⟨a, rfl, Same.refl _, ?_⟩
        rw [if_neg c']; exact hA
    obtain ⟨p, rfl, s2, hp⟩ := h
    have cl : (if o = FALL then contraryL s0 else s0).length ≤ 30 := by
      split
      · rw [contrary_len]; omega
      · omega
    have sok2 : shapeOk (fillU (if o = FALL then contraryL s0 else s0)) := by
      split
      · exact nok.2.2
      · exact nok.2.1
    walk_at "r1"
    refine ⟨p, false, _, rfl, hp, by omega, fun H3 f s3 nf hf => ?_⟩
    rw [if_neg (by simp)] at hf
    refine ⟨lineLe (by simp), fun t nt => ⟨f, t, _, [0, 2, 1], rfl, SqL.of (same_new nt _ _ hf), SqL.of upd_same, by rw [fillU_len]; omega, fun H4 u s4 nu hu => ?_⟩⟩
    refine ⟨u, _, rfl, SqL.of hu, turn_shape sok2 _, fun H5 s5 => ?_⟩
    have := q H5 ((((s2.trans s3).trans (same_new nt)).trans s4).trans s5)
    rw [numL, if_neg nb] at this
    exact this

end
end Sh

namespace Sh
section
variable {P : Program} {w : World} {K : PySem.W.Frag} {mg : Str → Option Value} {base : Heap}
def sp_number_of (T : Tx K mg) : Sp := fun vs H Q E => ∃ (a b : Addr) (s o : List Int), vs = [.ref a, .ref b] ∧ SqL K H a (s.map V.int) ∧ SqL K H b (o.map V.int) ∧ s.length ≤ 4000 ∧ o.length ≤ 4000 ∧
  (shapeOk s → shapeOk o → o.length = 3 → 1 ≤ s.length ∧ s.length ≤ 20 → placesL s o = [] → numOk s ∧ ∀ H', Same H H' → Q (.int (numL s o : Nat)) H') ∧
  (¬ shapeOk s → ∀ H', Same H H' → E (.ref T.C_NoShape) none H') ∧ (shapeOk s → ¬ shapeOk o → ∀ H', Same H H' → E (.ref T.C_NoShape) none H') ∧ (shapeOk s → shapeOk o → ¬ o.length = 3 → ∀ H', Same H H' → E (.ref T.C_NoOrder) none H') ∧
  (shapeOk s → shapeOk o → o.length = 3 → ¬ (1 ≤ s.length ∧ s.length ≤ 20) → ∀ H', Same H H' → E (.ref T.C_NoSize) none H') ∧ (shapeOk s → shapeOk o → o.length = 3 → 1 ≤ s.length ∧ s.length ≤ 20 → placesL s o ≠ [] → ∀ H', Same H H' → E (.ref T.C_HasOrder) none H')
theorem ok_number_of (T : Tx K mg) : FnOk P w K mg base (L2.CX P w) 12 T.f_number_of T.fd_number_of ["shape", "order"] (sp_number_of T) := by
  refine T.F_number_of.okX sc_number_of (fun vs H Q E h => ?_) (fun cdv A outer s H vs Q E hr h => ?_)
  · obtain ⟨a, b, s, o, rfl, _⟩ := h
    rfl
  · obtain ⟨a, b, s0, o, rfl, hA, hB, lA, lB, q1, q2, q3, q4, q5, q6⟩ := h
    refine ⟨_, (pss_cons (by exact (ps_expr (by exact (pe_call (ok_ask_shape T) (hr.mono (by decide)) (by rfl) T.g_ask_shape T.F_ask_shape.kp T.b_ask_shape .nil (passes_call (takes_of rfl rfl rfl rfl) (fun _ _ _ _ h => h)) (pa_cons (pv 0) pa_nil)))))
        (pss_cons (by exact (ps_expr (by exact (pe_call (ok_ask_three T) (hr.mono (by decide)) (by rfl) T.g_ask_three T.F_ask_three.kp T.b_ask_three .nil (passes_call (takes_of rfl rfl rfl rfl) (fun _ _ _ _ h => h)) (pa_cons (pv 1) pa_nil)))))
        (pss_cons (by exact (ps_expr (by exact (pe_call (ok_ask_without T) (hr.mono (by decide)) (by rfl) T.g_ask_without T.F_ask_without.kp T.b_ask_without .nil (passes_call (takes_of rfl rfl rfl rfl) (fun _ _ _ _ h => h)) (pa_cons (pv 0) (pa_cons (pv 1) pa_nil))))))
        (pss_one (by exact (ps_ret (by exact (pe_call (ok_numbered T) (hr.mono (by decide)) (by rfl) T.g_numbered T.F_numbered.kp T.b_numbered .nil pass0 (pa_cons (pv 0) (pa_cons (pv 1) pa_nil)))))))))), ?_⟩
    rw [show (start ["shape", "order"] [V.ref a, V.ref b] : L2.St) = [some (V.ref a), some (V.ref b)] from rfl]
    walk_at "rd"
    refine ⟨a, s0, rfl, hA, lA, fun k1 H1 s1 => ?_, q2⟩
    walk_at "rd"
    refine ⟨b, o, rfl, s1.seq hB, lB, fun k2 k3 H2 s2 => ?_, fun z H' s => q3 k1 z _ (s1.trans s), fun y z H' s => q4 k1 y z _ (s1.trans s)⟩
    have s12 := s1.trans s2
    walk_at "rd"
    refine ⟨a, b, s0, o, rfl, s12.seq hA, s12.seq hB, lA, by omega, fun k4 k5 H3 s3 => ?_, fun k4 z H' s => q6 k1 k2 k3 k4 z _ (s12.trans s), fun z H' s => q5 k1 k2 k3 z _ (s12.trans s)⟩
    have s13 := s12.trans s3
    obtain ⟨k6, q7⟩ := q1 k1 k2 k3 k4 k5
    walk_at "rd"
    exact ⟨a, b, s0, o, rfl, s13.seq hA, s13.seq hB, k6, fun H4 s4 => q7 H4 (s13.trans s4)⟩

end
end Sh

namespace Sh
section
variable {P : Program} {w : World} {K : PySem.W.Frag} {mg : Str → Option Value} {base : Heap}
def sp__law_all (T : Tx K mg) : Sp := fun vs H Q E => ∃ (n : Nat), vs = [.int n] ∧ n ≤ 6 ∧ ∀ (rs : List (Addr × List Int)) H' p, Same H H' → H p = none → H' p = some (.lst (rs.map fun b => V.ref b.1)) → LLs H' rs → (rs.map Prod.snd).Perm (allU n) → (rs.map Prod.snd).Pairwise (· ≤ ·) → Q (.ref p) H'
theorem ok__law_all (T : Tx K mg) : FnOk P w K mg base CX0 1 T.f__law_all T.fd__law_all ["size"] (sp__law_all T) := by
  refine T.F__law_all.ok sc__law_all (fun vs H Q E h => ?_) (fun cdv A outer s H vs Q E hr h => ?_)
  · obtain ⟨n, rfl, _⟩ := h
    rfl
  · obtain ⟨n, rfl, hn, q⟩ := h
    refine ⟨_, (pss_cons (by exact (ps_set (i := 1) sc__law_all.nd rfl (Or.inl rfl) (pe_lst (pa_cons (pe_lst pa_nil) pa_nil))))
        (pss_cons (by exact (ps_for PassesOwn.never rfl (pi_range1 rfl T.m_range (pa_cons (pv 0) pa_nil)) (pg_name (i := 2) sc__law_all.nd rfl (Or.inl rfl))
        (pss_cons (by exact (ps_set (i := 3) sc__law_all.nd rfl (Or.inl rfl) (pe_lst pa_nil)))
        (pss_cons (by exact (ps_for PassesOwn.never rfl (pi_list (pv 1)) (pg_name (i := 4) sc__law_all.nd rfl (Or.inl rfl))
        (pss_one (by exact (ps_for PassesOwn.never rfl (pi_range1 rfl T.m_range (pa_cons (pe_op op_add (pv 2) pe_int) pa_nil)) (pg_name (i := 5) sc__law_all.nd rfl (Or.inl rfl))
        (pss_one (by exact (ps_expr (by exact (pe_bm PySem.F.plainAttrs_list PySem.F.slot_list_append PySem.F.type_list_append mt_append (pv 3) (pa_cons (pe_op op_cat (pe_op op_cat (pe_slice sl_list (pv 4) po_none (po_some (pv 5))) (pe_lst (pa_cons (pv 2) pa_nil))) (pe_slice sl_list (pv 4) (po_some (pv 5)) po_none)) pa_nil)))))))))))
        (pss_one (by exact (ps_set (i := 1) sc__law_all.nd rfl (Or.inl rfl) (pv 3))))))))
        (pss_one (by exact (ps_ret (by exact (pe_callB (cr_sortedLL (room66 hr)) (by rfl) T.m_sorted (by decide +kernel) (pa_cons (pv 1) pa_nil)))))))), ?_⟩
    rw [show (start ["size", "found", "k", "longer", "row", "place"] [V.int n] : L2.St) = [some (V.int n), none, none, none, none, none] from rfl]
    walk_at "rd"
    refine ⟨lineLe (by simp), fun e0 ne0 => ⟨lineLe (by simp), fun f0 nf0 => ⟨by omega, by omega, ?_⟩⟩⟩
    refine forK_range (fun k σ H' => ∃ (f : Addr) (bs : List (Addr × List Int)) (y2 y3 y4 y5 : Option V), σ = [some (V.int n), some (V.ref f), y2, y3, y4, y5] ∧ Same H H' ∧ H' f = some (.lst (bs.map fun b => V.ref b.1)) ∧ LLs H' bs ∧ bs.map Prod.snd = allU k)
      ⟨f0, [(e0, [])], _, _, _, _, rfl, (same_new ne0).trans (same_new nf0), upd_same, fun b hb => by
        have e : b = (e0, []) := by simpa using hb
        subst e
        exact same_new nf0 _ _ upd_same, rfl⟩ (fun k σ H' hk h => ?_) (fun σ H' h => ?_)
    · obtain ⟨f, bs, y2, y3, y4, y5, rfl, s1, hf, ll, eb⟩ := h
      walk_at "rd"
      refine ⟨lineLe (by simp), fun g ng => ⟨⟨_, SqL.of (same_new ng _ _ hf)⟩, ?_⟩⟩
      have hf1 := same_new (o := .lst []) ng _ _ hf
      have ll1 := ll.same (same_new (o := .lst []) ng)
      have s2 := s1.trans (same_new (o := .lst []) ng)
      have ng' : H g = none := s1.free ng
      have hg1 : (upd H' g (.lst [])) g = some (.lst []) := upd_same
      have neb := ll.ne ng
      have nfg : f ≠ g := ne_of_none hf ng
      generalize upd H' g (.lst []) = H1 at hf1 ll1 s2 hg1 ⊢
      have tot := allU_len (k + 1) (by omega)
      rw [allU] at tot
      refine forK_map bs (fun b => V.ref b.1) (fun i σ H' => ∃ (cs : List (Addr × List Int)) (y4 y5 : Option V), σ = [some (V.int n), some (V.ref f), some (V.int k), some (V.ref g), y4, y5] ∧ Same H H' ∧ H' f = some (.lst (bs.map fun b => V.ref b.1)) ∧ LLs H' bs ∧
          H' g = some (.lst (cs.map fun b => V.ref b.1)) ∧ LLs H' cs ∧ (∀ b ∈ cs, b.1 ≠ g) ∧ cs.map Prod.snd = (((allU k).take i).map (insAll k)).flatten)
        ⟨[], _, _, rfl, s2, hf1, ll1, hg1, fun b hb => by simp at hb, by simp, rfl⟩ (fun i σ H' _ h => ?_) (fun i b σ H' hb h => ?_) (fun σ H' h => ?_)
      · obtain ⟨cs, y4, y5, rfl, _, hf2, _⟩ := h
        exact SqL.of hf2
      · obtain ⟨cs, y4, y5, rfl, s3, hf2, ll2, hg2, lc2, nc2, ec⟩ := h
        walk_at "rd"
        refine ⟨by omega, by omega, ?_⟩
        rw [show ((k : Int) + 1).toNat = k + 1 by omega]
        have hx := snd_get eb hb
        have hxl := allU_mem k b.2 (List.mem_of_getElem? hx)
        have tk := take_more hx
        have hlen1 := flat_prefix_len (insAll k) (allU k) (i + 1)
        rw [tk, List.map_append, List.flatten_append, List.length_append] at hlen1
        have hil : ([b.2].map (insAll k)).flatten = insAll k b.2 := by simp
        have hil2 : (insAll k b.2).length = k + 1 := by simp [insAll]
        rw [hil, hil2] at hlen1
        have hb' : b ∈ bs := List.mem_of_getElem? hb
        refine forK_range (fun p σ H' => ∃ (cs : List (Addr × List Int)) (y5 : Option V), σ = [some (V.int n), some (V.ref f), some (V.int k), some (V.ref g), some (V.ref b.1), y5] ∧ Same H H' ∧ H' f = some (.lst (bs.map fun b => V.ref b.1)) ∧ LLs H' bs ∧
            H' g = some (.lst (cs.map fun b => V.ref b.1)) ∧ LLs H' cs ∧ (∀ b ∈ cs, b.1 ≠ g) ∧ cs.map Prod.snd = (((allU k).take i).map (insAll k)).flatten ++ (List.range p).map (insAt k b.2))
          ⟨cs, _, rfl, s3, hf2, ll2, hg2, lc2, nc2, by simpa using ec⟩ (fun p σ H' hp h => ?_) (fun σ H' h => ?_)
        · obtain ⟨cs, y5, rfl, s4, hf3, ll3, hg3, lc3, nc3, ec3⟩ := h
          walk_at "rd"
          have hb3 := ll3 b hb'
          have cl := congrArg List.length ec3
          rw [List.length_map, List.length_append, List.length_map, List.length_range] at cl
          refine ⟨tyL hg3, _, SqL.of hb3, fun p1 np1 => ?_⟩
          rw [cut_to]
          refine ⟨lineLe (by simp), fun p2 np2 => ?_⟩
          have e1 := same_new (o := .lst [V.int k]) np2 _ _ (upd_same (H := H') (a := p1) (o := .lst ((b.2.map V.int).take p)))
          refine ⟨_, e1, _, upd_same, lineLe (by simp; omega), fun p3 np3 => ⟨_, SqL.of (same_new np3 _ _ (same_new np2 _ _ (same_new np1 _ _ hb3))), fun p4 np4 => ?_⟩⟩
          rw [cut_from]
          refine ⟨_, same_new np4 _ _ upd_same, _, upd_same, lineLe (by simp; omega), fun p5 np5 => ?_⟩
          have t5 := ((((same_new (o := .lst ((b.2.map V.int).take p)) np1).trans (same_new (o := .lst [V.int k]) np2)).trans (same_new (o := .lst ((b.2.map V.int).take p ++ [V.int k])) np3)).trans (same_new (o := .lst ((b.2.map V.int).drop p)) np4))
          have n5 : H' p5 = none := t5.free np5
          replace t5 := t5.trans (same_new (o := .lst ((b.2.map V.int).take p ++ [V.int k] ++ (b.2.map V.int).drop p)) np5)
          have h5 : (upd (upd (upd (upd (upd H' p1 (.lst ((b.2.map V.int).take p))) p2 (.lst [V.int k])) p3 (.lst ((b.2.map V.int).take p ++ [V.int k]))) p4 (.lst ((b.2.map V.int).drop p))) p5 (.lst ((b.2.map V.int).take p ++ [V.int k] ++ (b.2.map V.int).drop p))) p5 = some (.lst ((insAt k b.2 p).map V.int)) := by
            rw [upd_same, insAt]; simp
          generalize (upd (upd (upd (upd (upd H' p1 (.lst ((b.2.map V.int).take p))) p2 (.lst [V.int k])) p3 (.lst ((b.2.map V.int).take p ++ [V.int k]))) p4 (.lst ((b.2.map V.int).drop p))) p5 (.lst ((b.2.map V.int).take p ++ [V.int k] ++ (b.2.map V.int).drop p))) = H5 at t5 h5 ⊢
          have n5g : p5 ≠ g := (ne_of_none hg3 n5).symm
          refine ⟨_, t5 _ _ hg3, lineLt (by simp; omega), same_mut (s4.trans t5) ng', by rw [upd_ne nfg]; exact t5 _ _ hf3, (ll3.same t5).mut neb, cs ++ [(p5, insAt k b.2 p)], ?_, ?_, ?_, ?_⟩
          · rw [upd_same]; simp
          · exact ((lc3.same t5).snoc h5).mut fun c hc => by
              rcases List.mem_append.mp hc with z | z
              · exact nc3 c z
              · have e2 : c = (p5, insAt k b.2 p) := by simpa using z
                subst e2; exact n5g
          · intro c hc
            rcases List.mem_append.mp hc with z | z
            · exact nc3 c z
            · have e2 : c = (p5, insAt k b.2 p) := by simpa using z
              subst e2; exact n5g
          · rw [List.map_append, ec3, List.range_succ, List.map_append, List.append_assoc]; rfl
        · obtain ⟨cs, y5, rfl, s4, hf3, ll3, hg3, lc3, nc3, ec3⟩ := h
          refine ⟨⟨_, _, rfl⟩, s4, hf3, ll3, cs, hg3, lc3, nc3, ?_⟩
          rw [ec3, tk, List.map_append, List.flatten_append, hil]
          rfl
      · obtain ⟨cs, y4, y5, rfl, s3, hf2, ll2, hg2, lc2, nc2, ec⟩ := h
        walk_at "rd"
        rw [show bs.length = (allU k).length by rw [← eb, List.length_map], List.take_length] at ec
        exact ⟨s3, cs, hg2, lc2, ec⟩
    · obtain ⟨f, bs, y2, y3, y4, y5, rfl, s1, hf, ll, eb⟩ := h
      walk_at "rd"
      refine ⟨bs, SqL.of hf, ll, fun rs p pm pw np => ?_⟩
      refine q rs _ p (s1.trans (same_new np)) (s1.free np) upd_same ?_ ?_ (List.pairwise_map.mpr pw)
      · exact LLs.same (fun b hb => ll b (pm.mem_iff.mp hb)) (same_new np)
      · rw [← eb]; exact pm.map _

end
end Sh

namespace Sh
section
variable {P : Program} {w : World} {K : PySem.W.Frag} {mg : Str → Option Value} {base : Heap}
def sp__law_whole (T : Tx K mg) : Sp := fun vs H Q _ => ∃ (i : Int), vs = [.int i] ∧ Q (.bl true) H
theorem ok__law_whole (T : Tx K mg) : FnOk P w K mg base CX0 1 T.f__law_whole T.fd__law_whole ["found"] (sp__law_whole T) := by
  refine T.F__law_whole.ok sc__law_whole (fun vs H Q E h => ?_) (fun cdv A outer s H vs Q E hr h => ?_)
  · obtain ⟨i, rfl, _⟩ := h
    rfl
  · obtain ⟨i, rfl, q⟩ := h
    refine ⟨_, (pss_one (by exact (ps_ret (pe_and (by exact (pe_callB call_isi (by rfl) T.m_isinstance (by decide +kernel) (pa_cons (pv 0) (pa_cons (pe_bltn (v := .ty "int") (by rfl) T.m_int (by decide +kernel) rfl) pa_nil)))) (pe_one (pe_not (by exact (pe_callB call_isi (by rfl) T.m_isinstance (by decide +kernel) (pa_cons (pv 0) (pa_cons (pe_bltn (v := .ty "bool") (by rfl) T.m_bool (by decide +kernel) rfl) pa_nil)))))))))), ?_⟩
    rw [show (start ["found"] [V.int i] : L2.St) = [some (V.int i)] from rfl]
    walk_at "rd"
    refine ⟨_, _, _, _, true, rfl, .ty "int", .base (.int i), kit_ty (by decide +kernel), ?_⟩
    walk_at "rd"
    refine ⟨_, _, _, _, false, rfl, .ty "bool", .base (.int i), kit_ty (by decide +kernel), ?_⟩
    walk_at "rd"
    exact q

end
end Sh

namespace Sh
section
variable {P : Program} {w : World} {K : PySem.W.Frag} {mg : Str → Option Value} {base : Heap}
def sp__law_numbers (T : Tx K mg) : Sp := fun vs H Q _ => ∃ (a b : Addr) (ns ms : List Int), vs = [.ref a, .ref b] ∧ H a = some (.lst (ns.map V.int)) ∧ SqL K H b (ms.map V.int) ∧ Q (.bl (decide (ns = ms))) H
theorem ok__law_numbers (T : Tx K mg) : FnOk P w K mg base CX0 2 T.f__law_numbers T.fd__law_numbers ["found", "due"] (sp__law_numbers T) := by
  refine T.F__law_numbers.ok sc__law_numbers (fun vs H Q E h => ?_) (fun cdv A outer s H vs Q E hr h => ?_)
  · obtain ⟨a, b, ns, ms, rfl, _⟩ := h
    rfl
  · obtain ⟨a, b, ns, ms, rfl, ha, hb, q⟩ := h
    refine ⟨_, (pss_cons (by exact (ps_if (PW.pt (pw_or (pt_not (pt_val (by exact (pe_callB call_isi (by rfl) T.m_isinstance (by decide +kernel) (pa_cons (pv 0) (pa_cons (pe_bltn (v := .ty "list") (by rfl) T.m_list (by decide +kernel) rfl) pa_nil)))))) (pw_or1 (pt_cmpR (op_ne) (by exact (pe_callB call_lenS (by rfl) T.m_len PySem.boot_len (pa_cons (pv 0) pa_nil))) (by exact (pe_callB call_lenS (by rfl) T.m_len PySem.boot_len (pa_cons (pv 1) pa_nil))) (nomark _))))) (pss_one (by exact (ps_ret pe_bl))) pss_nil))
        (pss_cons (by exact (ps_for PassesOwn.never rfl (pi_list (pv 0)) (pg_name (i := 2) sc__law_numbers.nd rfl (Or.inl rfl))
        (pss_one (by exact (ps_if (pt_not (pt_val (by exact (pe_call (ok__law_whole T) (hr.mono (by decide)) (by rfl) T.g__law_whole T.F__law_whole.kp T.b__law_whole .nil pass0 (pa_cons (pv 2) pa_nil))))) (pss_one (by exact (ps_ret pe_bl))) pss_nil)))))
        (pss_one (by exact (ps_ret (pe_cmpR (op_eqD hr.units) (pv 0) (pv 1) (nomark _))))))), ?_⟩
    rw [show (start ["found", "due", "x"] [V.ref a, V.ref b] : L2.St) = [some (V.ref a), some (V.ref b), none] from rfl]
    walk_at "rd"
    have hA : SqL K H a (ns.map V.int) := SqL.of ha
    refine ⟨_, _, _, _, true, rfl, .ty "list", .base (.lst ha), kit_ty (by decide +kernel), ?_⟩
    walk_at "rd"
    refine ⟨_, .inl hA, _, .inl hb, rfl, ?_⟩
    walk_at "rd"
    refine ite2 (fun c => ?_) (fun c => ⟨⟨_, hA⟩, ?_⟩)
    · have e : decide (ns = ms) = false := decide_eq_false fun z => c (by rw [z])
      rw [e] at q
      exact q
    · refine forK_map ns V.int (fun i σ H' => H' = H ∧ ∃ y, σ = [some (V.ref a), some (V.ref b), y]) ⟨rfl, _, rfl⟩ (fun i σ H' _ h => by rw [h.1]; exact hA) (fun i x σ H' hx h => ?_) (fun σ H' h => ?_)
      · obtain ⟨rfl, y, rfl⟩ := h
        walk_at "rd"
        refine ⟨x, rfl, ?_⟩
        walk_at "rd"
      · obtain ⟨rfl, y, rfl⟩ := h
        walk_at "rd"
        exact rEq_ints hA hb q

end
end Sh

namespace Sh
section
variable {P : Program} {w : World} {K : PySem.W.Frag} {mg : Str → Option Value} {base : Heap}
def sp__law_has (T : Tx K mg) : Sp := fun vs H Q E => ∃ (a c : Addr) (row order : List Int), vs = [.ref a, .ref c] ∧ SqL K H a (row.map V.int) ∧ SqL K H c (order.map V.int) ∧ row.length ≤ 4000 ∧ order.length = 3 ∧ row.Nodup ∧ order.Nodup ∧
    Q (.bl (!decide (placesL row order = []))) H
theorem ok__law_has (T : Tx K mg) : FnOk P w K mg base CX0 1 T.f__law_has T.fd__law_has ["shape", "order"] (sp__law_has T) := by
  refine T.F__law_has.ok sc__law_has (fun vs H Q E h => ?_) (fun cdv A outer s H vs Q E hr h => ?_)
  · obtain ⟨a, c, row, order, rfl, _⟩ := h
    rfl
  · obtain ⟨a, c, row, order, rfl, hA, hC, lA, lC, rn, on, q0⟩ := h
    refine ⟨_, (pss_cons (by exact (ps_set (i := 2) sc__law_has.nd rfl (Or.inl rfl) (by exact (pe_callB call_lenS (by rfl) T.m_len PySem.boot_len (pa_cons (pv 0) pa_nil)))))
        (pss_cons (by exact (ps_for PassesOwn.never rfl (pi_range1 rfl T.m_range (pa_cons (pv 2) pa_nil)) (pg_name (i := 3) sc__law_has.nd rfl (Or.inl rfl))
        (pss_one (by exact (ps_for PassesOwn.never rfl (pi_range2 rfl T.m_range (pa_cons (pe_op op_add (pv 3) pe_int) (pa_cons (pv 2) pa_nil))) (pg_name (i := 4) sc__law_has.nd rfl (Or.inl rfl))
        (pss_one (by exact (ps_if (pt_cmpR (op_eq) (pe_cmpR (op_lt) (pe_ix ix_list (pv 0) (pv 3) (fun _ _ => rfl)) (pe_ix ix_list (pv 0) (pv 4) (fun _ _ => rfl)) (nomark _)) (pe_cmpR (op_lt) (pe_ix ix_list (pv 1) pe_int (fun _ _ => rfl)) (pe_ix ix_list (pv 1) pe_int (fun _ _ => rfl)) (nomark _)) (nomark _)) (pss_one (by exact (ps_for PassesOwn.never rfl (pi_range2 rfl T.m_range (pa_cons (pe_op op_add (pv 4) pe_int) (pa_cons (pv 2) pa_nil))) (pg_name (i := 5) sc__law_has.nd rfl (Or.inl rfl))
        (pss_cons (by exact (ps_set (i := 6) sc__law_has.nd rfl (Or.inl rfl) (pe_cmpR (op_eq) (pe_cmpR (op_lt) (pe_ix ix_list (pv 0) (pv 3) (fun _ _ => rfl)) (pe_ix ix_list (pv 0) (pv 5) (fun _ _ => rfl)) (nomark _)) (pe_cmpR (op_lt) (pe_ix ix_list (pv 1) pe_int (fun _ _ => rfl)) (pe_ix ix_list (pv 1) pe_int (fun _ _ => rfl)) (nomark _)) (nomark _))))
        (pss_one (by exact (ps_if (PW.pt (pw_and (pt_val (pv 6)) (pw_and1 (pt_cmpR (op_eq) (pe_cmpR (op_lt) (pe_ix ix_list (pv 0) (pv 4) (fun _ _ => rfl)) (pe_ix ix_list (pv 0) (pv 5) (fun _ _ => rfl)) (nomark _)) (pe_cmpR (op_lt) (pe_ix ix_list (pv 1) pe_int (fun _ _ => rfl)) (pe_ix ix_list (pv 1) pe_int (fun _ _ => rfl)) (nomark _)) (nomark _))))) (pss_one (by exact (ps_ret pe_bl))) pss_nil))))))) pss_nil))))))))
        (pss_one (by exact (ps_ret pe_bl))))), ?_⟩
    rw [show (start ["shape", "order", "size", "i", "j", "k", "low"] [V.ref a, V.ref c] : L2.St) = [some (V.ref a), some (V.ref c), none, none, none, none, none] from rfl]
    walk_at "rd"
    refine ⟨_, .inl hA, ?_⟩
    walk_at "rd"
    obtain ⟨G3, hG3⟩ : ∃ G3 : Nat → Option (List Nat), G3 = fun i => if P2 row order [] i = true then dfs2 row order 3 [i] else none := ⟨_, rfl⟩
    have e4 : dfs2 row order 4 [] = (List.range row.length).findSome? G3 := by
      rw [dfs2, if_neg (by simp; omega), hG3]
      simp [startN]
    have e5 : (placesL row order).head? = (List.range row.length).findSome? G3 := by
      rw [← e4]; exact (dfs2_first rn on (by omega)).symm
    have q1 : (List.range row.length).findSome? G3 = none → Q (.bl false) H := fun z => by
      rw [z] at e5
      rw [decide_eq_true (List.head?_eq_none_iff.mp e5)] at q0
      exact q0
    have q2 : ∀ r, (List.range row.length).findSome? G3 = some r → Q (.bl true) H := fun r z => by
      rw [z] at e5
      rw [decide_eq_false (fun w => by rw [w] at e5; cases e5)] at q0
      exact q0
    have lowI : ∀ x y : Int, (decide (x < y) = decide (order.getD 0 0 < order.getD 1 0)) = (decide (x < y) = decide (order.getD 0 0 < order.getD 1 0)) := fun _ _ => rfl
    refine ⟨by omega, by omega, ?_⟩
    refine forK_range (fun i σ H' => ∃ (y3 y4 y5 y6 : Option V), σ = [some (V.ref a), some (V.ref c), some (V.int row.length), y3, y4, y5, y6] ∧ H' = H ∧ (List.range i).findSome? G3 = none)
      ⟨_, _, _, _, rfl, rfl, rfl⟩ (fun i σ H' hi h => ?_) (fun σ H' h => ?_)
    · obtain ⟨y3, y4, y5, y6, rfl, rfl, hno⟩ := h
      obtain ⟨G2, hG2⟩ : ∃ G2 : Nat → Option (List Nat), G2 = fun j => if P2 row order [i] (i + 1 + j) = true then dfs2 row order 2 [i, i + 1 + j] else none := ⟨_, rfl⟩
      have e3 : G3 i = (List.range (row.length - (i + 1))).findSome? G2 := by
        rw [hG3, hG2]
        simp only []
        rw [if_pos (by simp [P2, lowL, dueL]), dfs2, if_neg (by simp; omega)]
        simp [startN]
      walk_at "rd"
      refine ⟨by omega, by omega, by omega, by omega, ?_⟩
      rw [show ((row.length : Int) - ((i : Int) + 1)).toNat = row.length - (i + 1) by omega]
      refine forK_range (fun j σ H2 => ∃ (y4 y5 y6 : Option V), σ = [some (V.ref a), some (V.ref c), some (V.int row.length), some (V.int i), y4, y5, y6] ∧ H2 = H' ∧ (List.range j).findSome? G2 = none)
        ⟨_, _, _, rfl, rfl, rfl⟩ (fun j σ H2 hj h => ?_) (fun σ H2 h => ?_)
      · obtain ⟨y4, y5, y6, rfl, rfl, hno2⟩ := h
        obtain ⟨G1, hG1⟩ : ∃ G1 : Nat → Option (List Nat), G1 = fun k => if P2 row order [i, i + 1 + j] (i + 1 + j + 1 + k) = true then some [i, i + 1 + j, i + 1 + j + 1 + k] else none := ⟨_, rfl⟩
        have e2 : G2 j = if P2 row order [i] (i + 1 + j) = true then (List.range (row.length - (i + 1 + j + 1))).findSome? G1 else none := by
          rw [hG2, hG1]
          simp only []
          split
          · rw [dfs2, if_neg (by simp; omega)]
            simp [startN, dfs2, lC]
          · rfl
        walk_at "rd"
        refine ⟨_, hA, _, atI_ints (by omega) (by omega), _, hA, _, atI_ints (by omega) (by omega), _, rfl, _, rfl, _, hC, _, atI_ints (by omega) (by omega), _, hC, _, atI_ints (by omega) (by omega), _, rfl, _, rfl, ?_⟩
        rw [Int.toNat_natCast, show ((i : Int) + 1 + (j : Int)).toNat = i + 1 + j by omega, show Int.toNat 0 = 0 from rfl, show Int.toNat 1 = 1 from rfl]
        refine ⟨rfl, ite2 (fun c3 => ?_) (fun c3 => ?_)⟩
        · rw [if_pos (P2_one.mpr c3)] at e2
          refine ⟨by omega, by omega, by omega, by omega, ?_⟩
          rw [show ((row.length : Int) - ((i : Int) + 1 + (j : Int) + 1)).toNat = row.length - (i + 1 + j + 1) by omega]
          refine forK_range (fun k σ H3 => ∃ (y5 y6 : Option V), σ = [some (V.ref a), some (V.ref c), some (V.int row.length), some (V.int i), some (V.int ((i : Int) + 1 + (j : Int))), y5, y6] ∧ H3 = H2 ∧ (List.range k).findSome? G1 = none)
            ⟨_, _, rfl, rfl, rfl⟩ (fun k σ H3 hk h => ?_) (fun σ H3 h => ?_)
          · obtain ⟨y5, y6, rfl, rfl, hno3⟩ := h
            refine seq_intro ?_
            walk_at "r1"
            refine ⟨_, hA, _, atI_ints (by omega) (by omega), _, hA, _, atI_ints (by omega) (by omega), _, rfl, _, rfl, _, hC, _, atI_ints (by omega) (by omega), _, hC, _, atI_ints (by omega) (by omega), _, rfl, _, rfl, ?_⟩
            refine ⟨rfl, ?_⟩
            walk_at "r1"
            rw [show ((i : Int) + 1 + (j : Int) + 1 + (k : Int)).toNat = i + 1 + j + 1 + k by omega, show Int.toNat 0 = 0 from rfl, show Int.toNat 2 = 2 from rfl]
            refine ite2 (fun c4 => ?_) (fun c4 => ?_)
            · refine ⟨_, hA, _, atI_ints (by omega) (by omega), _, hA, _, atI_ints (by omega) (by omega), _, rfl, _, rfl, _, hC, _, atI_ints (by omega) (by omega), _, hC, _, atI_ints (by omega) (by omega), _, rfl, _, rfl, rfl, ?_⟩
              rw [show ((i : Int) + 1 + (j : Int)).toNat = i + 1 + j by omega, show ((i : Int) + 1 + (j : Int) + 1 + (k : Int)).toNat = i + 1 + j + 1 + k by omega, show Int.toNat 1 = 1 from rfl, show Int.toNat 2 = 2 from rfl]
              refine ite2 (fun c5 => ?_) (fun c5 => ?_)
              · have g1 : G1 k = some [i, i + 1 + j, i + 1 + j + 1 + k] := by rw [hG1]; exact if_pos (P2_two.mpr ⟨c4, c5⟩)
                have g2 : G2 j = some [i, i + 1 + j, i + 1 + j + 1 + k] := e2.trans (findSome_ext hno3 hk g1)
                have g3 : G3 i = some [i, i + 1 + j, i + 1 + j + 1 + k] := e3.trans (findSome_ext hno2 hj g2)
                exact q2 _ (findSome_ext hno hi g3)
              · refine findSome_next hno3 ?_
                rw [hG1]; exact if_neg fun z => c5 (P2_two.mp z).2
            · refine findSome_next hno3 ?_
              rw [hG1]; exact if_neg fun z => c4 (P2_two.mp z).1
          · obtain ⟨y5, y6, rfl, rfl, hno3⟩ := h
            exact ⟨⟨_, _, _, rfl⟩, rfl, findSome_next hno2 (e2.trans hno3)⟩
        · rw [if_neg (fun z => c3 (P2_one.mp z))] at e2
          exact findSome_next hno2 e2
      · obtain ⟨y4, y5, y6, rfl, rfl, hno2⟩ := h
        exact ⟨⟨_, _, _, _, rfl⟩, rfl, findSome_next hno (e3.trans hno2)⟩
    · obtain ⟨y3, y4, y5, y6, rfl, rfl, hno⟩ := h
      walk_at "rd"
      exact q1 hno

end
end Sh

namespace Sh
section
variable {P : Program} {w : World} {K : PySem.W.Frag} {mg : Str → Option Value} {base : Heap}
def spL (K : PySem.W.Frag) : Sp := fun vs H Q _ => ∃ (a : Addr) (ns : List Int), vs = [.ref a] ∧ SqL K H a (ns.map V.int) ∧ ns.length ≤ 63 ∧ ∀ H', Q (.bl true) H'
def sp_law (T : Tx K mg) : Sp := spL K
theorem ok_law (T : Tx K mg) : FnOk P w K mg base CX0 13 T.f_law T.fd_law ["script"] (sp_law T) := by
  refine T.F_law.ok sc_law (fun vs H Q E h => ?_) (fun cdv A outer s H vs Q E hr h => ?_)
  · obtain ⟨a, ns, rfl, _⟩ := h
    rfl
  · obtain ⟨a, ns, rfl, hS, hlen, q⟩ := h
    refine ⟨_, (pss_cons (by exact (ps_set (i := 1) sc_law.nd rfl (Or.inl rfl) (pe_op op_add pe_int (pe_op op_mod (by exact (pe_call (ok__law_cell_at T) (hr.mono (by decide)) (by rfl) T.g__law_cell_at T.F__law_cell_at.kp T.b__law_cell_at .nil pass0 (pa_cons (pv 0) (pa_cons pe_int pa_nil)))) pe_int))))
        (pss_cons (by exact (ps_set (i := 2) sc_law.nd rfl (Or.inr rfl) (by exact (pe_call (ok__law_three T) (hr.mono (by decide)) (by rfl) T.g__law_three T.F__law_three.kp T.b__law_three .nil pass0 (pa_cons (by exact (pe_call (ok__law_cell_at T) (hr.mono (by decide)) (by rfl) T.g__law_cell_at T.F__law_cell_at.kp T.b__law_cell_at .nil pass0 (pa_cons (pv 0) (pa_cons pe_int pa_nil)))) pa_nil)))))
        (pss_cons (by exact (ps_setLc (i := 3) (own := [("shape", 9)]) (g := gName 9) (tt := (tNot (tB (tCall (sp__law_has T) [] E0 (tCons (tVar 9) (tCons (tVar 2) tNil)))))) (te := (tVar 9)) rfl sc_law.nd rfl rfl (sw_true rfl rfl rfl (by decide +kernel)) (pi_list (by exact (pe_call (ok__law_all T) (hr.mono (by decide)) (by rfl) T.g__law_all T.F__law_all.kp T.b__law_all .nil pass0 (pa_cons (pv 1) pa_nil)))) (blkOk_by (N := ["script", "size", "order", "due", "count", "some", "n", "found", "told", "shape"]) (sc := defScope s_law) (by decide +kernel)) (fun _ _ _ _ _ => by exact (pg_name (i := 9) sc_law.nd rfl (by first | exact Or.inl rfl | exact Or.inr rfl))) (fun _ _ _ _ _ => by exact (pts_one (pt_not (pt_val (by exact (pe_call (ok__law_has T) (hr.mono (by decide)) (by rfl) T.g__law_has T.F__law_has.kp T.b__law_has .nil pass0 (pa_cons (pv 9) (pa_cons (pv 2) pa_nil)))))))) (fun _ _ _ _ _ => by exact (pv 9))))
        (pss_cons (by exact (ps_set (i := 4) sc_law.nd rfl (Or.inl rfl) (by exact (pe_call (ok_many_without T) (hr.mono (by decide)) (by rfl) T.g_many_without T.F_many_without.kp T.b_many_without .nil passL (pa_cons (pv 1) pa_nil)))))
        (pss_cons (by exact (ps_if (PW.pt (pw_or (pt_not (pt_val (by exact (pe_call (ok__law_whole T) (hr.mono (by decide)) (by rfl) T.g__law_whole T.F__law_whole.kp T.b__law_whole .nil pass0 (pa_cons (pv 4) pa_nil))))) (pw_or1 (pt_cmpR (op_ne) (pv 4) (by exact (pe_callB call_lenS (by rfl) T.m_len PySem.boot_len (pa_cons (pv 3) pa_nil))) (nomark _))))) (pss_one (by exact (ps_ret pe_bl))) pss_nil))
        (pss_cons (by exact (ps_set (i := 5) sc_law.nd rfl (Or.inl rfl) (pe_lst pa_nil)))
        (pss_cons (by exact (ps_for PassesOwn.never rfl (pi_range1 rfl T.m_range (pa_cons (pv 4) pa_nil)) (pg_name (i := 6) sc_law.nd rfl (Or.inl rfl))
        (pss_cons (by exact (ps_set (i := 7) sc_law.nd rfl (Or.inl rfl) (by exact (pe_call (ok_without_at T) (hr.mono (by decide)) (by rfl) T.g_without_at T.F_without_at.kp T.b_without_at .nil passL (pa_cons (pv 1) (pa_cons (by exact (pe_callTy call_listS (by rfl) T.m_list (by decide +kernel) (pa_cons (pv 2) pa_nil))) (pa_cons (pv 6) pa_nil)))))))
        (pss_cons (by exact (ps_if (pt_not (pt_val (by exact (pe_call (ok__law_numbers T) (hr.mono (by decide)) (by rfl) T.g__law_numbers T.F__law_numbers.kp T.b__law_numbers .nil pass0 (pa_cons (pv 7) (pa_cons (by exact (pe_callTy call_listS (by rfl) T.m_list (by decide +kernel) (pa_cons (pv 7) pa_nil))) pa_nil)))))) (pss_one (by exact (ps_ret pe_bl))) pss_nil))
        (pss_cons (by exact (ps_expr (by exact (pe_bm PySem.F.plainAttrs_list PySem.F.slot_list_append PySem.F.type_list_append mt_append (pv 5) (pa_cons (by exact (pe_callTy call_listS (by rfl) T.m_list (by decide +kernel) (pa_cons (pv 7) pa_nil))) pa_nil)))))
        (pss_cons (by exact (ps_expr (by exact (pe_bm PySem.F.plainAttrs_list PySem.F.slot_list_append PySem.F.type_list_append mt_append (pv 7) (pa_cons pe_int pa_nil)))))
        (pss_cons (by exact (ps_set (i := 8) sc_law.nd rfl (Or.inl rfl) (by exact (pe_call (ok_number_of T) (hr.mono (by decide)) (by rfl) T.g_number_of T.F_number_of.kp T.b_number_of .nil passL (pa_cons (by exact (pe_callTy call_listS (by rfl) T.m_list (by decide +kernel) (pa_cons (pe_ix ix_list (pv 5) (pv 6) (fun _ _ => rfl)) pa_nil))) (pa_cons (by exact (pe_callTy call_listS (by rfl) T.m_list (by decide +kernel) (pa_cons (pv 2) pa_nil))) pa_nil))))))
        (pss_one (by exact (ps_if (PW.pt (pw_or (pt_not (pt_val (by exact (pe_call (ok__law_whole T) (hr.mono (by decide)) (by rfl) T.g__law_whole T.F__law_whole.kp T.b__law_whole .nil pass0 (pa_cons (pv 8) pa_nil))))) (pw_or (pt_cmpR (op_ne) (pv 8) (pv 6) (nomark _)) (pw_or1 (pt_cmpR (op_neD hr.units) (by exact (pe_call (ok_without_at T) (hr.mono (by decide)) (by rfl) T.g_without_at T.F_without_at.kp T.b_without_at .nil passL (pa_cons (pv 1) (pa_cons (pv 2) (pa_cons (pv 6) pa_nil))))) (pe_ix ix_list (pv 5) (pv 6) (fun _ _ => rfl)) (nomark _)))))) (pss_one (by exact (ps_ret pe_bl))) pss_nil))))))))))
        (pss_one (by exact (ps_ret (pe_cmpR (op_eqD hr.units) (by exact (pe_callB (cr_sortedLL (room66 hr)) (by rfl) T.m_sorted (by decide +kernel) (pa_cons (pv 5) pa_nil))) (pv 3) (nomark _)))))))))))), ?_⟩
    rw [show (start ["script", "size", "order", "due", "count", "some", "n", "found", "told", "shape"] [V.ref a] : L2.St) = [some (V.ref a), none, none, none, none, none, none, none, none, none] from rfl]
    refine seq_intro ?_
    walk_at "r1"
    refine ⟨a, ns, _, rfl, hS, by decide, ?_⟩
    walk_at "r1"
    obtain ⟨n, hn, hn1, hn6⟩ : ∃ n : Nat, 1 + ns.getD (Int.toNat 0) 0 % 6 = (n : Int) ∧ 1 ≤ n ∧ n ≤ 6 := ⟨(1 + ns.getD (Int.toNat 0) 0 % 6).toNat, by omega, by omega, by omega⟩
    rw [hn]
    refine seq_intro ?_
    walk_at "r1"
    refine ⟨a, ns, _, rfl, hS, by decide, ?_⟩
    walk_at "r1"
    refine ⟨_, rfl, fun H1 oa s1 noa hoa => ?_⟩
    have hmem := three_mem (ns.getD (Int.toNat 1) 0)
    have th := three_ok _ hmem
    generalize three (ns.getD (Int.toNat 1) 0) = order at hoa th hmem
    walk_at "r1"
    refine seq_intro ?_
    walk_at "r1"
    refine ⟨n, rfl, hn6, fun rs H2 ra s2 nra hra ll pm pw => ⟨ra, rfl, ⟨_, SqL.of hra⟩, fun D nD => ?_⟩⟩
    have hoa2 := s2 _ _ hoa
    have rl : rs.length ≤ 720 := by
      have h1 := pm.length_eq
      rw [List.length_map] at h1
      rw [h1]; exact allU_len _ hn6
    have rm : ∀ b ∈ rs, shapeOk b.2 ∧ b.2.length = n := fun b hb => allU_shape (by omega) (pm.mem_iff.mp (List.mem_map.mpr ⟨b, hb, rfl⟩))
    refine lcK_filt rs (fun b => V.ref b.1) (fun b => decide (placesL b.2 order = [])) (fun b => V.ref b.1) nD (SqL.of hra) (by omega) (fun i b acc H' Qt Qf hb hs hD ht hf => ?_) (fun H3 s3 hD => ?_)
    · have hbm := List.mem_of_getElem? hb
      obtain ⟨bs1, bl⟩ := rm b hbm
      walk_at "r1"
      refine ⟨b.1, oa, b.2, order, rfl, SqL.of (hs _ _ (ll b hbm)), SqL.of (hs _ _ hoa2), by omega, th.2, (shapeOk_row bs1).2, (shapeOk_row th.1).2, ?_⟩
      refine ⟨_, rfl, ?_⟩
      by_cases c : placesL b.2 order = []
      · rw [decide_eq_true c]
        exact ht (decide_eq_true c) _ hs hD
      · rw [decide_eq_false c]
        exact hf (decide_eq_false c) _ hs hD
    have hoa3 := s3 _ _ hoa2
    obtain ⟨ds, eds⟩ : ∃ ds, ds = rs.filter fun b => decide (placesL b.2 order = []) := ⟨_, rfl⟩
    rw [← eds] at hD
    have lld : LLs H3 ds := fun b hb => s3 _ _ (ll b (List.mem_filter.mp (eds ▸ hb)).1)
    have dse : ds.map Prod.snd = (rs.map Prod.snd).filter fun s => decide (placesL s order = []) := by rw [eds, List.filter_map]; rfl
    have dpm : ((List.range (Wy (2 * n) 0)).map (madeL n order)).Perm (ds.map Prod.snd) := by rw [dse]; exact (few_perm hn1 hn6 hmem).trans (pm.filter _).symm
    have dpw : (ds.map Prod.snd).Pairwise (· ≤ ·) := by rw [dse]; exact pw.sublist List.filter_sublist
    have dl : ds.length = Wy (2 * n) 0 := by have := dpm.length_eq; simpa using this.symm
    have dl2 : ds.length ≤ 720 := by
      have := List.length_filter_le (fun b : Addr × List Int => decide (placesL b.2 order = [])) rs
      rw [eds]; omega
    have s03 := (s1.trans s2).trans s3
    walk_at "r1"
    refine seq_intro ?_
    walk_at "r1"
    refine ⟨n, rfl, fun _ H4 s4 => ?_, fun z => absurd (by omega) z⟩
    rw [Int.toNat_natCast]
    generalize hW : Wy (2 * n) 0 = cw at dpm dl
    have hoa4 := s4 _ _ hoa3
    have hD4 := s4 _ _ hD
    have lld4 := lld.same s4
    walk_at "r1"
    refine seq_intro ?_
    walk_at "r1"
    refine ⟨_, rfl, ?_⟩
    walk_at "r1"
    refine ⟨_, .inl (SqL.of hD4), rfl, ?_⟩
    rw [List.length_map, dl, if_neg (fun z => z rfl)]
    refine seq_intro ?_
    walk_at "r1"
    refine ⟨lineLe (by simp), fun sa nsa => ?_⟩
    have hsa := upd_same (H := H4) (a := sa) (o := .lst [])
    have u0 := same_new (o := .lst []) nsa
    generalize upd H4 sa (.lst []) = H5 at hsa u0 ⊢
    refine seq_intro ?_
    walk_at "r1"
    refine ⟨by omega, by omega, ?_⟩
    refine forK_range (fun i σ H' => ∃ (bs : List (Addr × List Int)) (y6 y7 y8 : Option V), σ = [some (V.ref a), some (V.int n), some (V.ref oa), some (V.ref D), some (V.int cw), some (V.ref sa), y6, y7, y8, none] ∧ Same H4 H' ∧ H' sa = some (.lst (bs.map fun b => V.ref b.1)) ∧ LLs H' bs ∧ (∀ b ∈ bs, b.1 ≠ sa) ∧ bs.map Prod.snd = (List.range i).map (madeL n order))
      ⟨[], _, _, _, rfl, u0, hsa, fun _ h => by simp at h, by simp, rfl⟩ (fun i σ H' hi h => ?_) (fun σ H6 h => ?_)
    · obtain ⟨bs, y6, y7, y8, rfl, s6, hsa6, lls, nbs, ebs⟩ := h
      have bl : bs.length = i := by have := congrArg List.length ebs; simpa using this
      have hoa6 := s6 _ _ hoa4
      obtain ⟨m1, m2, m3, m4⟩ := made_ok (n := n) (m := i) (o := order) (by omega) hmem (by rw [hW]; exact hi)
      generalize hfo : madeL n order i = fo at m1 m2 m3 m4
      walk_at "r1"
      refine seq_intro ?_
      walk_at "r1"
      refine ⟨_, .inl (SqL.of hoa6), fun l1 nl1 => ?_⟩
      refine ⟨l1, n, i, order, rfl, SqL.of upd_same, by omega, fun _ _ _ _ H7 fa s7 nfa hfa => ?_, fun z => absurd th.1 z, fun _ z => absurd th.2 z, fun _ _ z => absurd (by omega) z, fun _ _ _ z => absurd (by rw [Int.toNat_natCast, hW]; omega) z⟩
      rw [Int.toNat_natCast, Int.toNat_natCast, hfo] at hfa
      have s67 := (same_new (o := .lst (order.map V.int)) nl1).trans s7
      have nfa6 : H' fa = none := (same_new nl1).free nfa
      walk_at "r1"
      refine seq_intro ?_
      walk_at "r1"
      refine ⟨_, .inl (SqL.of hfa), fun l2 nl2 => ⟨fa, l2, fo, fo, rfl, same_new nl2 _ _ hfa, SqL.of upd_same, ?_⟩⟩
      have s8 := same_new (o := .lst (fo.map V.int)) nl2
      have hfa8 := s8 _ _ hfa
      have s68 := s67.trans s8
      generalize upd H7 l2 (.lst (fo.map V.int)) = H8 at s8 hfa8 s68 ⊢
      walk_at "r1"
      refine seq_intro ?_
      walk_at "r1"
      have hsa8 := s68 _ _ hsa6
      refine ⟨tyL hsa8, _, .inl (SqL.of hfa8), fun l3 nl3 => ?_⟩
      have s9 := same_new (o := .lst (fo.map V.int)) nl3
      have hl3 := upd_same (H := H8) (a := l3) (o := .lst (fo.map V.int))
      have s69 := s68.trans s9
      have nl36 : H' l3 = none := s68.free nl3
      have hfa9 := s9 _ _ hfa8
      generalize upd H8 l3 (.lst (fo.map V.int)) = H9 at s9 hl3 s69 hfa9 ⊢
      have hsa9 := s69 _ _ hsa6
      have l3sa : l3 ≠ sa := (ne_of_none hsa6 nl36).symm
      have fasa : fa ≠ sa := (ne_of_none hsa6 nfa6).symm
      have fal3 : fa ≠ l3 := ne_of_none hfa8 nl3
      refine ⟨_, hsa9, lineLt (by simp; omega), ?_⟩
      have llc : LLs (upd H9 sa (.lst (bs.map (fun b => V.ref b.1) ++ [V.ref l3]))) (bs ++ [(l3, fo)]) := (((lls.same s69).snoc hl3).mut fun c hc => by
        rcases List.mem_append.mp hc with z | z
        · exact nbs c z
        · have e2 : c = (l3, fo) := by simpa using z
          subst e2; exact l3sa)
      have ncs : ∀ c ∈ bs ++ [(l3, fo)], c.1 ≠ sa := fun c hc => by
        rcases List.mem_append.mp hc with z | z
        · exact nbs c z
        · have e2 : c = (l3, fo) := by simpa using z
          subst e2; exact l3sa
      have ecs : (bs ++ [(l3, fo)]).map Prod.snd = (List.range (i + 1)).map (madeL n order) := by rw [List.map_append, ebs, List.range_succ, List.map_append, ← hfo]; rfl
      have hsa10 : (upd H9 sa (.lst (bs.map (fun b => V.ref b.1) ++ [V.ref l3]))) sa = some (.lst ((bs ++ [(l3, fo)]).map fun b => V.ref b.1)) := by rw [upd_same]; simp
      have hfa10 : (upd H9 sa (.lst (bs.map (fun b => V.ref b.1) ++ [V.ref l3]))) fa = _ := (upd_ne fasa).trans hfa9
      have s410 : Same H4 (upd H9 sa (.lst (bs.map (fun b => V.ref b.1) ++ [V.ref l3]))) := same_mut (s6.trans s69) nsa
      generalize upd H9 sa (.lst (bs.map (fun b => V.ref b.1) ++ [V.ref l3])) = H10 at llc hsa10 hfa10 s410 ⊢
      refine seq_intro ?_
      walk_at "r1"
      refine ⟨tyL hfa10, _, hfa10, lineLt (by simp; omega), ?_⟩
      have nfa4 : H4 fa = none := s6.free nfa6
      have nbf : ∀ c ∈ bs ++ [(l3, fo)], c.1 ≠ fa := fun c hc => by
        rcases List.mem_append.mp hc with z | z
        · exact ne_of_none (lls c z) nfa6
        · have e2 : c = (l3, fo) := by simpa using z
          subst e2; exact fal3.symm
      have llc11 := llc.mut (o := .lst (fo.map V.int ++ [V.int 0])) nbf
      have hsa11 : (upd H10 fa (.lst (fo.map V.int ++ [V.int 0]))) sa = _ := (upd_ne fasa.symm).trans hsa10
      have s411 := same_mut (o := .lst (fo.map V.int ++ [V.int 0])) s410 nfa4
      generalize upd H10 fa (.lst (fo.map V.int ++ [V.int 0])) = H11 at llc11 hsa11 s411 ⊢
      have hl11 := llc11 (l3, fo) (by simp)
      have at_i : atI ((bs ++ [(l3, fo)]).map fun b => V.ref b.1) (i : Int) = some (V.ref l3) := by
        refine atI_nat ?_
        rw [List.map_append, List.getElem?_append_right (by simp; omega)]
        simp [bl]
      have hoa11 := s411 _ _ hoa4
      refine seq_intro ?_
      walk_at "r1"
      refine ⟨_, SqL.of hsa11, _, at_i, l3, rfl, _, .inl (SqL.of hl11), fun l5 nl5 => ⟨_, .inl (SqL.of (same_new nl5 _ _ hoa11)), fun l6 nl6 => ?_⟩⟩
      have t6 := (same_new (o := .lst (fo.map V.int)) nl5).trans (same_new (o := .lst (order.map V.int)) nl6)
      refine ⟨l5, l6, fo, order, rfl, SqL.of (same_new nl6 _ _ upd_same), SqL.of upd_same, by omega, by omega, fun _ _ _ _ _ => ⟨numOk_of m1, fun H12 s12 => ?_⟩, fun z => absurd m1 z, fun _ z => absurd th.1 z, fun _ _ z => absurd th.2 z, fun _ _ _ z => absurd (by omega) z, fun _ _ _ _ z => absurd m3 z⟩
      rw [m4]
      have t12 := t6.trans s12
      walk_at "r1"
      refine ⟨_, rfl, ?_⟩
      walk_at "r1"
      refine ⟨rfl, ?_⟩
      refine ⟨oa, n, i, order, rfl, SqL.of (t12 _ _ hoa11), by omega, fun _ _ _ _ H13 g s13 ng hg => ?_, fun z => absurd th.1 z, fun _ z => absurd th.2 z, fun _ _ z => absurd (by omega) z, fun _ _ _ z => absurd (by rw [Int.toNat_natCast, hW]; omega) z⟩
      rw [Int.toNat_natCast, Int.toNat_natCast, hfo] at hg
      have t13 := t12.trans s13
      refine ⟨_, SqL.of (t13 _ _ hsa11), _, at_i, ?_⟩
      refine rNe_ints (SqL.of hg) (SqL.of (t13 _ _ hl11)) ?_
      rw [decide_eq_true rfl]
      walk_at "r1"
      exact ⟨s411.trans t13, _, t13 _ _ hsa11, llc11.same t13, ncs, ecs⟩
    obtain ⟨bs, y6, y7, y8, rfl, s6, hsa6, lls, nbs, ebs⟩ := h
    walk_at "r1"
    refine ⟨bs, SqL.of hsa6, lls, fun qs p qpm qpw np => ?_⟩
    have lq : LLs (upd H6 p (.lst (qs.map fun b => V.ref b.1))) qs := LLs.same (fun b hb => lls b (qpm.mem_iff.mp hb)) (same_new np)
    have eq : qs.map Prod.snd = ds.map Prod.snd := sortedLL_eq ((qpm.map _).trans (by rw [ebs]; exact dpm)) (List.pairwise_map.mpr qpw) dpw
    have s7 := s6.trans (same_new (o := .lst (qs.map fun b => V.ref b.1)) np)
    refine rEq_of (a := qs.map Prod.snd) (b := ds.map Prod.snd) isD_LL (by decide) (dp_LLs lq (SqL.of upd_same)) (dp_LLs (lld4.same s7) (SqL.of (s7 _ _ hD4))) ?_
    rw [decide_eq_true eq]
    exact q _

end
end Sh

namespace Sh
theorem all_mk {l : PySem.W.OpenLaw} {w : World} {K : PySem.W.Frag} {h : Heap} {mg : Str → Option Value} {fa : Addr} (X : K.In h) (G : h.Ns mainGlobals mg) (hfa : mg "law" = some (.ref fa))
    {f0 : Addr} {od0 an0 : Option Addr} {sl0 : Array (Option Value)} {oc0 kV0 dc0 pm0 cd0 ct0 : Value}
    {f1 : Addr} {od1 an1 : Option Addr} {sl1 : Array (Option Value)} {oc1 kV1 dc1 pm1 cd1 ct1 : Value}
    {f2 : Addr} {od2 an2 : Option Addr} {sl2 : Array (Option Value)} {oc2 kV2 dc2 pm2 cd2 ct2 : Value}
    {f3 : Addr} {od3 an3 : Option Addr} {sl3 : Array (Option Value)} {oc3 kV3 dc3 pm3 cd3 ct3 : Value}
    {f4 : Addr} {od4 an4 : Option Addr} {sl4 : Array (Option Value)} {oc4 kV4 dc4 pm4 cd4 ct4 : Value}
    {f5 : Addr} {od5 an5 : Option Addr} {sl5 : Array (Option Value)} {oc5 kV5 dc5 pm5 cd5 ct5 : Value}
    {f6 : Addr} {od6 an6 : Option Addr} {sl6 : Array (Option Value)} {oc6 kV6 dc6 pm6 cd6 ct6 : Value}
    {f7 : Addr} {od7 an7 : Option Addr} {sl7 : Array (Option Value)} {oc7 kV7 dc7 pm7 cd7 ct7 : Value}
    {f8 : Addr} {od8 an8 : Option Addr} {sl8 : Array (Option Value)} {oc8 kV8 dc8 pm8 cd8 ct8 : Value}
    {f9 : Addr} {od9 an9 : Option Addr} {sl9 : Array (Option Value)} {oc9 kV9 dc9 pm9 cd9 ct9 : Value}
    {f10 : Addr} {od10 an10 : Option Addr} {sl10 : Array (Option Value)} {oc10 kV10 dc10 pm10 cd10 ct10 : Value}
    {f11 : Addr} {od11 an11 : Option Addr} {sl11 : Array (Option Value)} {oc11 kV11 dc11 pm11 cd11 ct11 : Value}
    {f12 : Addr} {od12 an12 : Option Addr} {sl12 : Array (Option Value)} {oc12 kV12 dc12 pm12 cd12 ct12 : Value}
    {f13 : Addr} {od13 an13 : Option Addr} {sl13 : Array (Option Value)} {oc13 kV13 dc13 pm13 cd13 ct13 : Value}
    {f14 : Addr} {od14 an14 : Option Addr} {sl14 : Array (Option Value)} {oc14 kV14 dc14 pm14 cd14 ct14 : Value}
    {f15 : Addr} {od15 an15 : Option Addr} {sl15 : Array (Option Value)} {oc15 kV15 dc15 pm15 cd15 ct15 : Value}
    {f16 : Addr} {od16 an16 : Option Addr} {sl16 : Array (Option Value)} {oc16 kV16 dc16 pm16 cd16 ct16 : Value}
    {f17 : Addr} {od17 an17 : Option Addr} {sl17 : Array (Option Value)} {oc17 kV17 dc17 pm17 cd17 ct17 : Value}
    {f18 : Addr} {od18 an18 : Option Addr} {sl18 : Array (Option Value)} {oc18 kV18 dc18 pm18 cd18 ct18 : Value}
    {f19 : Addr} {od19 an19 : Option Addr} {sl19 : Array (Option Value)} {oc19 kV19 dc19 pm19 cd19 ct19 : Value}
    {f20 : Addr} {od20 an20 : Option Addr} {sl20 : Array (Option Value)} {oc20 kV20 dc20 pm20 cd20 ct20 : Value}
    {f21 : Addr} {od21 an21 : Option Addr} {sl21 : Array (Option Value)} {oc21 kV21 dc21 pm21 cd21 ct21 : Value}
    {f22 : Addr} {od22 an22 : Option Addr} {sl22 : Array (Option Value)} {oc22 kV22 dc22 pm22 cd22 ct22 : Value}
    {f23 : Addr} {od23 an23 : Option Addr} {sl23 : Array (Option Value)} {oc23 kV23 dc23 pm23 cd23 ct23 : Value}
    {f24 : Addr} {od24 an24 : Option Addr} {sl24 : Array (Option Value)} {oc24 kV24 dc24 pm24 cd24 ct24 : Value}
    {f25 : Addr} {od25 an25 : Option Addr} {sl25 : Array (Option Value)} {oc25 kV25 dc25 pm25 cd25 ct25 : Value}
    {f26 : Addr} {od26 an26 : Option Addr} {sl26 : Array (Option Value)} {oc26 kV26 dc26 pm26 cd26 ct26 : Value}
    {f27 : Addr} {od27 an27 : Option Addr} {sl27 : Array (Option Value)} {oc27 kV27 dc27 pm27 cd27 ct27 : Value}
    {t0 : Tok}
    {t1 : Tok}
    {t2 : Tok}
    {ca3 : Addr} {cn3 : Nat} {cs3 : Array (Option Value)} {ct3_0 ct3_1 ct3_2 : Tok}
    {ca4 : Addr} {cn4 : Nat} {cs4 : Array (Option Value)} {ct4_0 ct4_1 ct4_2 : Tok}
    {C0 : Addr}
    {C1 : Addr}
    {C2 : Addr}
    {C3 : Addr}
    {C4 : Addr}
    (a0 : PySem.W.nsIn K mainGlobals "_law_three" = some (some (.ref f0)))
    (l0 : K.lookup f0 = some ⟨oc0, od0, .func (PySem.W.fnOf "_law_three" "_law_three" (defArgs s__law_three) (defBody s__law_three) (defScope s__law_three) .none kV0 dc0 pm0 an0 cd0 ct0), sl0⟩)
    (c0 : PySem.W.codeIn K cd0 "_law_three" = true)
    (k0 : PySem.W.keepIn K (.ref f0) = true)
    (a1 : PySem.W.nsIn K mainGlobals "ask_size" = some (some (.ref f1)))
    (l1 : K.lookup f1 = some ⟨oc1, od1, .func (PySem.W.fnOf "ask_size" "ask_size" (defArgs s_ask_size) (defBody s_ask_size) (defScope s_ask_size) .none kV1 dc1 pm1 an1 cd1 ct1), sl1⟩)
    (c1 : PySem.W.codeIn K cd1 "ask_size" = true)
    (k1 : PySem.W.keepIn K (.ref f1) = true)
    (a2 : PySem.W.nsIn K mainGlobals "ways" = some (some (.ref f2)))
    (l2 : K.lookup f2 = some ⟨oc2, od2, .func (PySem.W.fnOf "ways" "ways" (defArgs s_ways) (defBody s_ways) (defScope s_ways) .none kV2 dc2 pm2 an2 cd2 ct2), sl2⟩)
    (c2 : PySem.W.codeIn K cd2 "ways" = true)
    (k2 : PySem.W.keepIn K (.ref f2) = true)
    (a3 : PySem.W.nsIn K mainGlobals "many_without" = some (some (.ref f3)))
    (l3 : K.lookup f3 = some ⟨oc3, od3, .func (PySem.W.fnOf "many_without" "many_without" (defArgs s_many_without) (defBody s_many_without) (defScope s_many_without) .none kV3 dc3 pm3 an3 cd3 ct3), sl3⟩)
    (c3 : PySem.W.codeIn K cd3 "many_without" = true)
    (k3 : PySem.W.keepIn K (.ref f3) = true)
    (a4 : PySem.W.nsIn K mainGlobals "_law_cell_at" = some (some (.ref f4)))
    (l4 : K.lookup f4 = some ⟨oc4, od4, .func (PySem.W.fnOf "_law_cell_at" "_law_cell_at" (defArgs s__law_cell_at) (defBody s__law_cell_at) (defScope s__law_cell_at) .none kV4 dc4 pm4 an4 cd4 ct4), sl4⟩)
    (c4 : PySem.W.codeIn K cd4 "_law_cell_at" = true)
    (k4 : PySem.W.keepIn K (.ref f4) = true)
    (a5 : PySem.W.nsIn K mainGlobals "is_shape" = some (some (.ref f5)))
    (l5 : K.lookup f5 = some ⟨oc5, od5, .func (PySem.W.fnOf "is_shape" "is_shape" (defArgs s_is_shape) (defBody s_is_shape) (defScope s_is_shape) .none kV5 dc5 pm5 an5 cd5 ct5), sl5⟩)
    (c5 : PySem.W.codeIn K cd5 "is_shape" = true)
    (k5 : PySem.W.keepIn K (.ref f5) = true)
    (a6 : PySem.W.nsIn K mainGlobals "ask_shape" = some (some (.ref f6)))
    (l6 : K.lookup f6 = some ⟨oc6, od6, .func (PySem.W.fnOf "ask_shape" "ask_shape" (defArgs s_ask_shape) (defBody s_ask_shape) (defScope s_ask_shape) .none kV6 dc6 pm6 an6 cd6 ct6), sl6⟩)
    (c6 : PySem.W.codeIn K cd6 "ask_shape" = true)
    (k6 : PySem.W.keepIn K (.ref f6) = true)
    (a7 : PySem.W.nsIn K mainGlobals "ask_order" = some (some (.ref f7)))
    (l7 : K.lookup f7 = some ⟨oc7, od7, .func (PySem.W.fnOf "ask_order" "ask_order" (defArgs s_ask_order) (defBody s_ask_order) (defScope s_ask_order) .none kV7 dc7 pm7 an7 cd7 ct7), sl7⟩)
    (c7 : PySem.W.codeIn K cd7 "ask_order" = true)
    (k7 : PySem.W.keepIn K (.ref f7) = true)
    (a8 : PySem.W.nsIn K mainGlobals "ask_three" = some (some (.ref f8)))
    (l8 : K.lookup f8 = some ⟨oc8, od8, .func (PySem.W.fnOf "ask_three" "ask_three" (defArgs s_ask_three) (defBody s_ask_three) (defScope s_ask_three) .none kV8 dc8 pm8 an8 cd8 ct8), sl8⟩)
    (c8 : PySem.W.codeIn K cd8 "ask_three" = true)
    (k8 : PySem.W.keepIn K (.ref f8) = true)
    (a9 : PySem.W.nsIn K mainGlobals "piled" = some (some (.ref f9)))
    (l9 : K.lookup f9 = some ⟨oc9, od9, .func (PySem.W.fnOf "piled" "piled" (defArgs s_piled) (defBody s_piled) (defScope s_piled) .none kV9 dc9 pm9 an9 cd9 ct9), sl9⟩)
    (c9 : PySem.W.codeIn K cd9 "piled" = true)
    (k9 : PySem.W.keepIn K (.ref f9) = true)
    (a10 : PySem.W.nsIn K mainGlobals "lows" = some (some (.ref f10)))
    (l10 : K.lookup f10 = some ⟨oc10, od10, .func (PySem.W.fnOf "lows" "lows" (defArgs s_lows) (defBody s_lows) (defScope s_lows) .none kV10 dc10 pm10 an10 cd10 ct10), sl10⟩)
    (c10 : PySem.W.codeIn K cd10 "lows" = true)
    (k10 : PySem.W.keepIn K (.ref f10) = true)
    (a11 : PySem.W.nsIn K mainGlobals "filled" = some (some (.ref f11)))
    (l11 : K.lookup f11 = some ⟨oc11, od11, .func (PySem.W.fnOf "filled" "filled" (defArgs s_filled) (defBody s_filled) (defScope s_filled) .none kV11 dc11 pm11 an11 cd11 ct11), sl11⟩)
    (c11 : PySem.W.codeIn K cd11 "filled" = true)
    (k11 : PySem.W.keepIn K (.ref f11) = true)
    (a12 : PySem.W.nsIn K mainGlobals "turned" = some (some (.ref f12)))
    (l12 : K.lookup f12 = some ⟨oc12, od12, .func (PySem.W.fnOf "turned" "turned" (defArgs s_turned) (defBody s_turned) (defScope s_turned) .none kV12 dc12 pm12 an12 cd12 ct12), sl12⟩)
    (c12 : PySem.W.codeIn K cd12 "turned" = true)
    (k12 : PySem.W.keepIn K (.ref f12) = true)
    (a13 : PySem.W.nsIn K mainGlobals "made" = some (some (.ref f13)))
    (l13 : K.lookup f13 = some ⟨oc13, od13, .func (PySem.W.fnOf "made" "made" (defArgs s_made) (defBody s_made) (defScope s_made) .none kV13 dc13 pm13 an13 cd13 ct13), sl13⟩)
    (c13 : PySem.W.codeIn K cd13 "made" = true)
    (k13 : PySem.W.keepIn K (.ref f13) = true)
    (a14 : PySem.W.nsIn K mainGlobals "without_at" = some (some (.ref f14)))
    (l14 : K.lookup f14 = some ⟨oc14, od14, .func (PySem.W.fnOf "without_at" "without_at" (defArgs s_without_at) (defBody s_without_at) (defScope s_without_at) .none kV14 dc14 pm14 an14 cd14 ct14), sl14⟩)
    (c14 : PySem.W.codeIn K cd14 "without_at" = true)
    (k14 : PySem.W.keepIn K (.ref f14) = true)
    (a15 : PySem.W.nsIn K mainGlobals "ranks" = some (some (.ref f15)))
    (l15 : K.lookup f15 = some ⟨oc15, od15, .func (PySem.W.fnOf "ranks" "ranks" (defArgs s_ranks) (defBody s_ranks) (defScope s_ranks) .none kV15 dc15 pm15 an15 cd15 ct15), sl15⟩)
    (c15 : PySem.W.codeIn K cd15 "ranks" = true)
    (k15 : PySem.W.keepIn K (.ref f15) = true)
    (a16 : PySem.W.nsIn K mainGlobals "fits" = some (some (.ref f16)))
    (l16 : K.lookup f16 = some ⟨oc16, od16, .func (PySem.W.fnOf "fits" "fits" (defArgs s_fits) (defBody s_fits) (defScope s_fits) .none kV16 dc16 pm16 an16 cd16 ct16), sl16⟩)
    (c16 : PySem.W.codeIn K cd16 "fits" = true)
    (k16 : PySem.W.keepIn K (.ref f16) = true)
    (a17 : PySem.W.nsIn K mainGlobals "grown" = some (some (.ref f17)))
    (l17 : K.lookup f17 = some ⟨oc17, od17, .func (PySem.W.fnOf "grown" "grown" (defArgs s_grown) (defBody s_grown) (defScope s_grown) .none kV17 dc17 pm17 an17 cd17 ct17), sl17⟩)
    (c17 : PySem.W.codeIn K cd17 "grown" = true)
    (k17 : PySem.W.keepIn K (.ref f17) = true)
    (a18 : PySem.W.nsIn K mainGlobals "found_from" = some (some (.ref f18)))
    (l18 : K.lookup f18 = some ⟨oc18, od18, .func (PySem.W.fnOf "found_from" "found_from" (defArgs s_found_from) (defBody s_found_from) (defScope s_found_from) .none kV18 dc18 pm18 an18 cd18 ct18), sl18⟩)
    (c18 : PySem.W.codeIn K cd18 "found_from" = true)
    (k18 : PySem.W.keepIn K (.ref f18) = true)
    (a19 : PySem.W.nsIn K mainGlobals "ask_without" = some (some (.ref f19)))
    (l19 : K.lookup f19 = some ⟨oc19, od19, .func (PySem.W.fnOf "ask_without" "ask_without" (defArgs s_ask_without) (defBody s_ask_without) (defScope s_ask_without) .none kV19 dc19 pm19 an19 cd19 ct19), sl19⟩)
    (c19 : PySem.W.codeIn K cd19 "ask_without" = true)
    (k19 : PySem.W.keepIn K (.ref f19) = true)
    (a20 : PySem.W.nsIn K mainGlobals "pile_number" = some (some (.ref f20)))
    (l20 : K.lookup f20 = some ⟨oc20, od20, .func (PySem.W.fnOf "pile_number" "pile_number" (defArgs s_pile_number) (defBody s_pile_number) (defScope s_pile_number) .none kV20 dc20 pm20 an20 cd20 ct20), sl20⟩)
    (c20 : PySem.W.codeIn K cd20 "pile_number" = true)
    (k20 : PySem.W.keepIn K (.ref f20) = true)
    (a21 : PySem.W.nsIn K mainGlobals "numbered" = some (some (.ref f21)))
    (l21 : K.lookup f21 = some ⟨oc21, od21, .func (PySem.W.fnOf "numbered" "numbered" (defArgs s_numbered) (defBody s_numbered) (defScope s_numbered) .none kV21 dc21 pm21 an21 cd21 ct21), sl21⟩)
    (c21 : PySem.W.codeIn K cd21 "numbered" = true)
    (k21 : PySem.W.keepIn K (.ref f21) = true)
    (a22 : PySem.W.nsIn K mainGlobals "number_of" = some (some (.ref f22)))
    (l22 : K.lookup f22 = some ⟨oc22, od22, .func (PySem.W.fnOf "number_of" "number_of" (defArgs s_number_of) (defBody s_number_of) (defScope s_number_of) .none kV22 dc22 pm22 an22 cd22 ct22), sl22⟩)
    (c22 : PySem.W.codeIn K cd22 "number_of" = true)
    (k22 : PySem.W.keepIn K (.ref f22) = true)
    (a23 : PySem.W.nsIn K mainGlobals "_law_all" = some (some (.ref f23)))
    (l23 : K.lookup f23 = some ⟨oc23, od23, .func (PySem.W.fnOf "_law_all" "_law_all" (defArgs s__law_all) (defBody s__law_all) (defScope s__law_all) .none kV23 dc23 pm23 an23 cd23 ct23), sl23⟩)
    (c23 : PySem.W.codeIn K cd23 "_law_all" = true)
    (k23 : PySem.W.keepIn K (.ref f23) = true)
    (a24 : PySem.W.nsIn K mainGlobals "_law_whole" = some (some (.ref f24)))
    (l24 : K.lookup f24 = some ⟨oc24, od24, .func (PySem.W.fnOf "_law_whole" "_law_whole" (defArgs s__law_whole) (defBody s__law_whole) (defScope s__law_whole) .none kV24 dc24 pm24 an24 cd24 ct24), sl24⟩)
    (c24 : PySem.W.codeIn K cd24 "_law_whole" = true)
    (k24 : PySem.W.keepIn K (.ref f24) = true)
    (a25 : PySem.W.nsIn K mainGlobals "_law_numbers" = some (some (.ref f25)))
    (l25 : K.lookup f25 = some ⟨oc25, od25, .func (PySem.W.fnOf "_law_numbers" "_law_numbers" (defArgs s__law_numbers) (defBody s__law_numbers) (defScope s__law_numbers) .none kV25 dc25 pm25 an25 cd25 ct25), sl25⟩)
    (c25 : PySem.W.codeIn K cd25 "_law_numbers" = true)
    (k25 : PySem.W.keepIn K (.ref f25) = true)
    (a26 : PySem.W.nsIn K mainGlobals "_law_has" = some (some (.ref f26)))
    (l26 : K.lookup f26 = some ⟨oc26, od26, .func (PySem.W.fnOf "_law_has" "_law_has" (defArgs s__law_has) (defBody s__law_has) (defScope s__law_has) .none kV26 dc26 pm26 an26 cd26 ct26), sl26⟩)
    (c26 : PySem.W.codeIn K cd26 "_law_has" = true)
    (k26 : PySem.W.keepIn K (.ref f26) = true)
    (a27 : PySem.W.nsIn K mainGlobals "law" = some (some (.ref f27)))
    (l27 : K.lookup f27 = some ⟨oc27, od27, .func (PySem.W.fnOf "law" "law" (defArgs s_law) (defBody s_law) (defScope s_law) .none kV27 dc27 pm27 an27 cd27 ct27), sl27⟩)
    (c27 : PySem.W.codeIn K cd27 "law" = true)
    (k27 : PySem.W.keepIn K (.ref f27) = true)
    (z0 : PySem.W.nsIn K mainGlobals "list" = some none)
    (z1 : PySem.W.nsIn K mainGlobals "range" = some none)
    (z2 : PySem.W.nsIn K mainGlobals "len" = some none)
    (z3 : PySem.W.nsIn K mainGlobals "sorted" = some none)
    (z4 : PySem.W.nsIn K mainGlobals "reversed" = some none)
    (z5 : PySem.W.nsIn K mainGlobals "min" = some none)
    (z6 : PySem.W.nsIn K mainGlobals "tuple" = some none)
    (z7 : PySem.W.nsIn K mainGlobals "isinstance" = some none)
    (z8 : PySem.W.nsIn K mainGlobals "int" = some none)
    (z9 : PySem.W.nsIn K mainGlobals "bool" = some none)
    (n0 : PySem.W.nsIn K mainGlobals "MOST_SIZE" = some (some (.int 20 t0)))
    (n1 : PySem.W.nsIn K mainGlobals "MOST" = some (some (.int 30 t1)))
    (n2 : PySem.W.nsIn K mainGlobals "MOST_ORDER" = some (some (.int 4 t2)))
    (n3 : PySem.W.nsIn K mainGlobals "FALL" = some (some (.ref ca3)))
    (nl3 : K.lookup ca3 = some ⟨.type "list", none, .seq #[.int 2 ct3_0, .int 1 ct3_1, .int 0 ct3_2] cn3, cs3⟩)
    (n4 : PySem.W.nsIn K mainGlobals "RISE" = some (some (.ref ca4)))
    (nl4 : K.lookup ca4 = some ⟨.type "list", none, .seq #[.int 0 ct4_0, .int 1 ct4_1, .int 2 ct4_2] cn4, cs4⟩)
    (x0 : PySem.W.nsIn K mainGlobals "NoSize" = some (some (.ref C0)))
    (xe0 : PySem.W.excIn K C0 [.type "ValueError", .type "Exception", .type "BaseException", .type "object"] "ValueError.__new__" = true)
    (xk0 : PySem.W.keepIn K (.ref C0) = true)
    (xb0 : PySem.W.subIn K (.ref C0) (.type "BaseException") = some true)
    (xt0 : PySem.W.typeIn K (.ref C0) = some (.type "type"))
    (x1 : PySem.W.nsIn K mainGlobals "NoShape" = some (some (.ref C1)))
    (xe1 : PySem.W.excIn K C1 [.type "ValueError", .type "Exception", .type "BaseException", .type "object"] "ValueError.__new__" = true)
    (xk1 : PySem.W.keepIn K (.ref C1) = true)
    (xb1 : PySem.W.subIn K (.ref C1) (.type "BaseException") = some true)
    (xt1 : PySem.W.typeIn K (.ref C1) = some (.type "type"))
    (x2 : PySem.W.nsIn K mainGlobals "NoOrder" = some (some (.ref C2)))
    (xe2 : PySem.W.excIn K C2 [.type "ValueError", .type "Exception", .type "BaseException", .type "object"] "ValueError.__new__" = true)
    (xk2 : PySem.W.keepIn K (.ref C2) = true)
    (xb2 : PySem.W.subIn K (.ref C2) (.type "BaseException") = some true)
    (xt2 : PySem.W.typeIn K (.ref C2) = some (.type "type"))
    (x3 : PySem.W.nsIn K mainGlobals "NoNumber" = some (some (.ref C3)))
    (xe3 : PySem.W.excIn K C3 [.type "ValueError", .type "Exception", .type "BaseException", .type "object"] "ValueError.__new__" = true)
    (xk3 : PySem.W.keepIn K (.ref C3) = true)
    (xb3 : PySem.W.subIn K (.ref C3) (.type "BaseException") = some true)
    (xt3 : PySem.W.typeIn K (.ref C3) = some (.type "type"))
    (x4 : PySem.W.nsIn K mainGlobals "HasOrder" = some (some (.ref C4)))
    (xe4 : PySem.W.excIn K C4 [.type "ValueError", .type "Exception", .type "BaseException", .type "object"] "ValueError.__new__" = true)
    (xk4 : PySem.W.keepIn K (.ref C4) = true)
    (xb4 : PySem.W.subIn K (.ref C4) (.type "BaseException") = some true)
    (xt4 : PySem.W.typeIn K (.ref C4) = some (.type "type")) :
    ∃ fd : FuncData, (∀ (s : Shared) (v : Value), BindsTo s fd ⟨[v], []⟩ [("script", v)]) ∧ ∀ base : Heap, K.In base → base.Ns mainGlobals mg → FnOk l.prog w K mg base CX0 13 fa fd ["script"] (spL K) := by
  have e := hfa.symm.trans (PySem.W.mg_of X G a27)
  cases e
  have F0 := fun_mk (st := s__law_three) l0 c0 k0
  have b0 := F0.binds (ps := ["cell"]) fun _ _ _ _ _ _ us hl => match us, hl with | [_], _ => rfl
  have F1 := fun_mk (st := s_ask_size) l1 c1 k1
  have b1 := F1.binds (ps := ["size"]) fun _ _ _ _ _ _ us hl => match us, hl with | [_], _ => rfl
  have F2 := fun_mk (st := s_ways) l2 c2 k2
  have b2 := F2.binds (ps := ["size"]) fun _ _ _ _ _ _ us hl => match us, hl with | [_], _ => rfl
  have F3 := fun_mk (st := s_many_without) l3 c3 k3
  have b3 := F3.binds (ps := ["size"]) fun _ _ _ _ _ _ us hl => match us, hl with | [_], _ => rfl
  have F4 := fun_mk (st := s__law_cell_at) l4 c4 k4
  have b4 := F4.binds (ps := ["script", "k"]) fun _ _ _ _ _ _ us hl => match us, hl with | [_, _], _ => rfl
  have F5 := fun_mk (st := s_is_shape) l5 c5 k5
  have b5 := F5.binds (ps := ["some"]) fun _ _ _ _ _ _ us hl => match us, hl with | [_], _ => rfl
  have F6 := fun_mk (st := s_ask_shape) l6 c6 k6
  have b6 := F6.binds (ps := ["shape"]) fun _ _ _ _ _ _ us hl => match us, hl with | [_], _ => rfl
  have F7 := fun_mk (st := s_ask_order) l7 c7 k7
  have b7 := F7.binds (ps := ["order"]) fun _ _ _ _ _ _ us hl => match us, hl with | [_], _ => rfl
  have F8 := fun_mk (st := s_ask_three) l8 c8 k8
  have b8 := F8.binds (ps := ["order"]) fun _ _ _ _ _ _ us hl => match us, hl with | [_], _ => rfl
  have F9 := fun_mk (st := s_piled) l9 c9 k9
  have b9 := F9.binds (ps := ["size", "number"]) fun _ _ _ _ _ _ us hl => match us, hl with | [_, _], _ => rfl
  have F10 := fun_mk (st := s_lows) l10 c10 k10
  have b10 := F10.binds (ps := ["shape"]) fun _ _ _ _ _ _ us hl => match us, hl with | [_], _ => rfl
  have F11 := fun_mk (st := s_filled) l11 c11 k11
  have b11 := F11.binds (ps := ["shape", "falling"]) fun _ _ _ _ _ _ us hl => match us, hl with | [_, _], _ => rfl
  have F12 := fun_mk (st := s_turned) l12 c12 k12
  have b12 := F12.binds (ps := ["shape", "order"]) fun _ _ _ _ _ _ us hl => match us, hl with | [_, _], _ => rfl
  have F13 := fun_mk (st := s_made) l13 c13 k13
  have b13 := F13.binds (ps := ["size", "order", "number"]) fun _ _ _ _ _ _ us hl => match us, hl with | [_, _, _], _ => rfl
  have F14 := fun_mk (st := s_without_at) l14 c14 k14
  have b14 := F14.binds (ps := ["size", "order", "number"]) fun _ _ _ _ _ _ us hl => match us, hl with | [_, _, _], _ => rfl
  have F15 := fun_mk (st := s_ranks) l15 c15 k15
  have b15 := F15.binds (ps := ["row"]) fun _ _ _ _ _ _ us hl => match us, hl with | [_], _ => rfl
  have F16 := fun_mk (st := s_fits) l16 c16 k16
  have b16 := F16.binds (ps := ["row", "told", "order"]) fun _ _ _ _ _ _ us hl => match us, hl with | [_, _, _], _ => rfl
  have F17 := fun_mk (st := s_grown) l17 c17 k17
  have b17 := F17.binds (ps := ["row", "order", "told"]) fun _ _ _ _ _ _ us hl => match us, hl with | [_, _, _], _ => rfl
  have F18 := fun_mk (st := s_found_from) l18 c18 k18
  have b18 := F18.binds (ps := ["row", "order", "told"]) fun _ _ _ _ _ _ us hl => match us, hl with | [_, _, _], _ => rfl
  have F19 := fun_mk (st := s_ask_without) l19 c19 k19
  have b19 := F19.binds (ps := ["shape", "order"]) fun _ _ _ _ _ _ us hl => match us, hl with | [_, _], _ => rfl
  have F20 := fun_mk (st := s_pile_number) l20 c20 k20
  have b20 := F20.binds (ps := ["shape"]) fun _ _ _ _ _ _ us hl => match us, hl with | [_], _ => rfl
  have F21 := fun_mk (st := s_numbered) l21 c21 k21
  have b21 := F21.binds (ps := ["shape", "order"]) fun _ _ _ _ _ _ us hl => match us, hl with | [_, _], _ => rfl
  have F22 := fun_mk (st := s_number_of) l22 c22 k22
  have b22 := F22.binds (ps := ["shape", "order"]) fun _ _ _ _ _ _ us hl => match us, hl with | [_, _], _ => rfl
  have F23 := fun_mk (st := s__law_all) l23 c23 k23
  have b23 := F23.binds (ps := ["size"]) fun _ _ _ _ _ _ us hl => match us, hl with | [_], _ => rfl
  have F24 := fun_mk (st := s__law_whole) l24 c24 k24
  have b24 := F24.binds (ps := ["found"]) fun _ _ _ _ _ _ us hl => match us, hl with | [_], _ => rfl
  have F25 := fun_mk (st := s__law_numbers) l25 c25 k25
  have b25 := F25.binds (ps := ["found", "due"]) fun _ _ _ _ _ _ us hl => match us, hl with | [_, _], _ => rfl
  have F26 := fun_mk (st := s__law_has) l26 c26 k26
  have b26 := F26.binds (ps := ["shape", "order"]) fun _ _ _ _ _ _ us hl => match us, hl with | [_, _], _ => rfl
  have F27 := fun_mk (st := s_law) l27 c27 k27
  have b27 := F27.binds (ps := ["script"]) fun _ _ _ _ _ _ us hl => match us, hl with | [_], _ => rfl
  let T : Tx K mg := {
    f__law_three := _, fd__law_three := _, F__law_three := F0, g__law_three := PySem.W.mg_of X G a0, b__law_three := b0,
    f_ask_size := _, fd_ask_size := _, F_ask_size := F1, g_ask_size := PySem.W.mg_of X G a1, b_ask_size := b1,
    f_ways := _, fd_ways := _, F_ways := F2, g_ways := PySem.W.mg_of X G a2, b_ways := b2,
    f_many_without := _, fd_many_without := _, F_many_without := F3, g_many_without := PySem.W.mg_of X G a3, b_many_without := b3,
    f__law_cell_at := _, fd__law_cell_at := _, F__law_cell_at := F4, g__law_cell_at := PySem.W.mg_of X G a4, b__law_cell_at := b4,
    f_is_shape := _, fd_is_shape := _, F_is_shape := F5, g_is_shape := PySem.W.mg_of X G a5, b_is_shape := b5,
    f_ask_shape := _, fd_ask_shape := _, F_ask_shape := F6, g_ask_shape := PySem.W.mg_of X G a6, b_ask_shape := b6,
    f_ask_order := _, fd_ask_order := _, F_ask_order := F7, g_ask_order := PySem.W.mg_of X G a7, b_ask_order := b7,
    f_ask_three := _, fd_ask_three := _, F_ask_three := F8, g_ask_three := PySem.W.mg_of X G a8, b_ask_three := b8,
    f_piled := _, fd_piled := _, F_piled := F9, g_piled := PySem.W.mg_of X G a9, b_piled := b9,
    f_lows := _, fd_lows := _, F_lows := F10, g_lows := PySem.W.mg_of X G a10, b_lows := b10,
    f_filled := _, fd_filled := _, F_filled := F11, g_filled := PySem.W.mg_of X G a11, b_filled := b11,
    f_turned := _, fd_turned := _, F_turned := F12, g_turned := PySem.W.mg_of X G a12, b_turned := b12,
    f_made := _, fd_made := _, F_made := F13, g_made := PySem.W.mg_of X G a13, b_made := b13,
    f_without_at := _, fd_without_at := _, F_without_at := F14, g_without_at := PySem.W.mg_of X G a14, b_without_at := b14,
    f_ranks := _, fd_ranks := _, F_ranks := F15, g_ranks := PySem.W.mg_of X G a15, b_ranks := b15,
    f_fits := _, fd_fits := _, F_fits := F16, g_fits := PySem.W.mg_of X G a16, b_fits := b16,
    f_grown := _, fd_grown := _, F_grown := F17, g_grown := PySem.W.mg_of X G a17, b_grown := b17,
    f_found_from := _, fd_found_from := _, F_found_from := F18, g_found_from := PySem.W.mg_of X G a18, b_found_from := b18,
    f_ask_without := _, fd_ask_without := _, F_ask_without := F19, g_ask_without := PySem.W.mg_of X G a19, b_ask_without := b19,
    f_pile_number := _, fd_pile_number := _, F_pile_number := F20, g_pile_number := PySem.W.mg_of X G a20, b_pile_number := b20,
    f_numbered := _, fd_numbered := _, F_numbered := F21, g_numbered := PySem.W.mg_of X G a21, b_numbered := b21,
    f_number_of := _, fd_number_of := _, F_number_of := F22, g_number_of := PySem.W.mg_of X G a22, b_number_of := b22,
    f__law_all := _, fd__law_all := _, F__law_all := F23, g__law_all := PySem.W.mg_of X G a23, b__law_all := b23,
    f__law_whole := _, fd__law_whole := _, F__law_whole := F24, g__law_whole := PySem.W.mg_of X G a24, b__law_whole := b24,
    f__law_numbers := _, fd__law_numbers := _, F__law_numbers := F25, g__law_numbers := PySem.W.mg_of X G a25, b__law_numbers := b25,
    f__law_has := _, fd__law_has := _, F__law_has := F26, g__law_has := PySem.W.mg_of X G a26, b__law_has := b26,
    f_law := _, fd_law := _, F_law := F27, g_law := PySem.W.mg_of X G a27, b_law := b27,
    m_list := PySem.W.mg_none_of X G z0,
    m_range := PySem.W.mg_none_of X G z1,
    m_len := PySem.W.mg_none_of X G z2,
    m_sorted := PySem.W.mg_none_of X G z3,
    m_reversed := PySem.W.mg_none_of X G z4,
    m_min := PySem.W.mg_none_of X G z5,
    m_tuple := PySem.W.mg_none_of X G z6,
    m_isinstance := PySem.W.mg_none_of X G z7,
    m_int := PySem.W.mg_none_of X G z8,
    m_bool := PySem.W.mg_none_of X G z9,
    t_MOST_SIZE := _, g_MOST_SIZE := PySem.W.mg_of X G n0,
    t_MOST := _, g_MOST := PySem.W.mg_of X G n1,
    t_MOST_ORDER := _, g_MOST_ORDER := PySem.W.mg_of X G n2,
    a_FALL := _, g_FALL := PySem.W.mg_of X G n3, l_FALL := fun H => .inr ⟨_, _, _, nl3, rfl, rfl, rfl, (by show 3 ≤ sizeLine; rw [sizeLine_eq]; decide), .cons ⟨_, rfl⟩ (.cons ⟨_, rfl⟩ (.cons ⟨_, rfl⟩ (.nil)))⟩,
    a_RISE := _, g_RISE := PySem.W.mg_of X G n4, l_RISE := fun H => .inr ⟨_, _, _, nl4, rfl, rfl, rfl, (by show 3 ≤ sizeLine; rw [sizeLine_eq]; decide), .cons ⟨_, rfl⟩ (.cons ⟨_, rfl⟩ (.cons ⟨_, rfl⟩ (.nil)))⟩,
    C_NoSize := _, gC_NoSize := PySem.W.mg_of X G x0, x_NoSize := xe0, kC_NoSize := xk0, bC_NoSize := xb0, tC_NoSize := xt0,
    C_NoShape := _, gC_NoShape := PySem.W.mg_of X G x1, x_NoShape := xe1, kC_NoShape := xk1, bC_NoShape := xb1, tC_NoShape := xt1,
    C_NoOrder := _, gC_NoOrder := PySem.W.mg_of X G x2, x_NoOrder := xe2, kC_NoOrder := xk2, bC_NoOrder := xb2, tC_NoOrder := xt2,
    C_NoNumber := _, gC_NoNumber := PySem.W.mg_of X G x3, x_NoNumber := xe3, kC_NoNumber := xk3, bC_NoNumber := xb3, tC_NoNumber := xt3,
    C_HasOrder := _, gC_HasOrder := PySem.W.mg_of X G x4, x_HasOrder := xe4, kC_HasOrder := xk4, bC_HasOrder := xb4, tC_HasOrder := xt4 }
  exact ⟨_, fun s v => .of_eq rfl, fun base _ _ => ok_law T⟩
end Sh
open PySem PySem.W PyProof.Rows
set_option maxRecDepth 100000 in
set_option maxHeartbeats 0 in
theorem PySem.Challenge.cw_shapeorders_k06_all_without_an_order_holds : PySem.Challenge.rw_shapeorders_k06_all_without_an_order.Holds := by
  w_on; o_law; k_head; (case hw => w_witness2)
  k_fill
  refine L2.walk_of (l := PySem.Challenge.rw_shapeorders_k06_all_without_an_order) (n := 63) (k := 13) (x := "script") (CX := fun _ => L2.CX0) (sp := fun w => Sh.spL _) rfl (by decide) rfl ⟨rfl, by decide, by decide⟩ (fun w h Y => PySem.W.kIn_of Y) ?F (fun _ _ a ns hl _ hS => ⟨a, ns, rfl, hS, hl, fun _ => rfl⟩) (fun _ _ _ _ _ h => h)
  case F =>
    intro w mg fa h KX G hmg
    refine' Sh.all_mk KX G hmg ?a0 ?l0 ?c0 ?k0 ?a1 ?l1 ?c1 ?k1 ?a2 ?l2 ?c2 ?k2 ?a3 ?l3 ?c3 ?k3 ?a4 ?l4 ?c4 ?k4 ?a5 ?l5 ?c5 ?k5 ?a6 ?l6 ?c6 ?k6 ?a7 ?l7 ?c7 ?k7 ?a8 ?l8 ?c8 ?k8 ?a9 ?l9 ?c9 ?k9 ?a10 ?l10 ?c10 ?k10 ?a11 ?l11 ?c11 ?k11 ?a12 ?l12 ?c12 ?k12 ?a13 ?l13 ?c13 ?k13 ?a14 ?l14 ?c14 ?k14 ?a15 ?l15 ?c15 ?k15 ?a16 ?l16 ?c16 ?k16 ?a17 ?l17 ?c17 ?k17 ?a18 ?l18 ?c18 ?k18 ?a19 ?l19 ?c19 ?k19 ?a20 ?l20 ?c20 ?k20 ?a21 ?l21 ?c21 ?k21 ?a22 ?l22 ?c22 ?k22 ?a23 ?l23 ?c23 ?k23 ?a24 ?l24 ?c24 ?k24 ?a25 ?l25 ?c25 ?k25 ?a26 ?l26 ?c26 ?k26 ?a27 ?l27 ?c27 ?k27 ?z0 ?z1 ?z2 ?z3 ?z4 ?z5 ?z6 ?z7 ?z8 ?z9 ?n0 ?n1 ?n2 ?n3 ?nl3 ?n4 ?nl4 ?x0 ?xe0 ?xk0 ?xb0 ?xt0 ?x1 ?xe1 ?xk1 ?xb1 ?xt1 ?x2 ?xe2 ?xk2 ?xb2 ?xt2 ?x3 ?xe3 ?xk3 ?xb3 ?xt3 ?x4 ?xe4 ?xk4 ?xb4 ?xt4
    (case a0 => k_is)
    (case l0 => k_is)
    (case c0 => k_is)
    (case k0 => k_is)
    (case a1 => k_is)
    (case l1 => k_is)
    (case c1 => k_is)
    (case k1 => k_is)
    (case a2 => k_is)
    (case l2 => k_is)
    (case c2 => k_is)
    (case k2 => k_is)
    (case a3 => k_is)
    (case l3 => k_is)
    (case c3 => k_is)
    (case k3 => k_is)
    (case a4 => k_is)
    (case l4 => k_is)
    (case c4 => k_is)
    (case k4 => k_is)
    (case a5 => k_is)
    (case l5 => k_is)
    (case c5 => k_is)
    (case k5 => k_is)
    (case a6 => k_is)
    (case l6 => k_is)
    (case c6 => k_is)
    (case k6 => k_is)
    (case a7 => k_is)
    (case l7 => k_is)
    (case c7 => k_is)
    (case k7 => k_is)
    (case a8 => k_is)
    (case l8 => k_is)
    (case c8 => k_is)
    (case k8 => k_is)
    (case a9 => k_is)
    (case l9 => k_is)
    (case c9 => k_is)
    (case k9 => k_is)
    (case a10 => k_is)
    (case l10 => k_is)
    (case c10 => k_is)
    (case k10 => k_is)
    (case a11 => k_is)
    (case l11 => k_is)
    (case c11 => k_is)
    (case k11 => k_is)
    (case a12 => k_is)
    (case l12 => k_is)
    (case c12 => k_is)
    (case k12 => k_is)
    (case a13 => k_is)
    (case l13 => k_is)
    (case c13 => k_is)
    (case k13 => k_is)
    (case a14 => k_is)
    (case l14 => k_is)
    (case c14 => k_is)
    (case k14 => k_is)
    (case a15 => k_is)
    (case l15 => k_is)
    (case c15 => k_is)
    (case k15 => k_is)
    (case a16 => k_is)
    (case l16 => k_is)
    (case c16 => k_is)
    (case k16 => k_is)
    (case a17 => k_is)
    (case l17 => k_is)
    (case c17 => k_is)
    (case k17 => k_is)
    (case a18 => k_is)
    (case l18 => k_is)
    (case c18 => k_is)
    (case k18 => k_is)
    (case a19 => k_is)
    (case l19 => k_is)
    (case c19 => k_is)
    (case k19 => k_is)
    (case a20 => k_is)
    (case l20 => k_is)
    (case c20 => k_is)
    (case k20 => k_is)
    (case a21 => k_is)
    (case l21 => k_is)
    (case c21 => k_is)
    (case k21 => k_is)
    (case a22 => k_is)
    (case l22 => k_is)
    (case c22 => k_is)
    (case k22 => k_is)
    (case a23 => k_is)
    (case l23 => k_is)
    (case c23 => k_is)
    (case k23 => k_is)
    (case a24 => k_is)
    (case l24 => k_is)
    (case c24 => k_is)
    (case k24 => k_is)
    (case a25 => k_is)
    (case l25 => k_is)
    (case c25 => k_is)
    (case k25 => k_is)
    (case a26 => k_is)
    (case l26 => k_is)
    (case c26 => k_is)
    (case k26 => k_is)
    (case a27 => k_is)
    (case l27 => k_is)
    (case c27 => k_is)
    (case k27 => k_is)
    (case z0 => k_is)
    (case z1 => k_is)
    (case z2 => k_is)
    (case z3 => k_is)
    (case z4 => k_is)
    (case z5 => k_is)
    (case z6 => k_is)
    (case z7 => k_is)
    (case z8 => k_is)
    (case z9 => k_is)
    (case n0 => k_is)
    (case n1 => k_is)
    (case n2 => k_is)
    (case n3 => k_is)
    (case nl3 => k_is)
    (case n4 => k_is)
    (case nl4 => k_is)
    (case x0 => k_is)
    (case xe0 => k_exc)
    (case xk0 => k_is)
    (case xb0 => k_is)
    (case xt0 => k_is)
    (case x1 => k_is)
    (case xe1 => k_exc)
    (case xk1 => k_is)
    (case xb1 => k_is)
    (case xt1 => k_is)
    (case x2 => k_is)
    (case xe2 => k_exc)
    (case xk2 => k_is)
    (case xb2 => k_is)
    (case xt2 => k_is)
    (case x3 => k_is)
    (case xe3 => k_exc)
    (case xk3 => k_is)
    (case xb3 => k_is)
    (case xt3 => k_is)
    (case x4 => k_is)
    (case xe4 => k_exc)
    (case xk4 => k_is)
    (case xb4 => k_is)
    (case xt4 => k_is)
