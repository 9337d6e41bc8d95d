import PyProof.Rows.All
import Wide.All
import OpenK.AllK
import Wide.FinOn
import HandS.ForMost
import HandS.ForExc
import HandS.SortInts
import HandS.Conv
import HandS.Zip
import HandS.Rev
import HandS.RevRange
import HandS.Deep
import HandS.IsInst
import HandS.ExcIs
import HandS.More
import HandS.SetFor
import HandS.Flow
import HandS.Style
import HandS.TupAny
import KE.SortData
import PyProof.P3In
import PySem.Challenge.RW_shapeorders_k10_how_many_of_few

set_option Elab.async false
set_option linter.all false
set_option maxRecDepth 100000
/-! Sh0: own words over the hand layer: loops and comprehensions cut open at their iterator, heaps, and the rules that the layer lacks. -/
namespace Sh
open PySem PySem.Spec PyProof.Rows L2

/-! ### loops: the iterator first, then the turns -/
def ForK (J : It) (g : TG) (tb : TS) (D : Ends) (σ : L2.St) (H : Hp) : Prop := ∃ W : Nat → Nat → L2.St → Hp → Prop, (∃ m, W 0 m σ H) ∧ ∀ i m σ H, W i m σ H →
  (J.stop i H ∧ D.nx σ H) ∨ (J.go i H ∧ ∃ N : L2.St → Hp → Prop, (∀ σ' H', N σ' H' → ∃ m', m' < m ∧ W (i + 1) m' σ' H') ∧ ∀ x H', J.yld i H x H' → g x σ H' fun σ2 H2 => tb { D with nx := N, ct := N, bk := D.nx } σ2 H2)
theorem tFor_eq (wi : TI) (g : TG) (tb : TS) (D : Ends) (σ : L2.St) (H : Hp) : tFor wi g tb D σ H = wi σ H fun J H1 => ForK J g tb D σ H1 := rfl
def LcK (J : It) (g : TG) (tt : TT) (te : TE) (σw : L2.St) (vs : List Nat) (D : Addr) (Q : Hp → Prop) (H1 : Hp) : Prop := ∃ W : Nat → Nat → Hp → Prop, (∃ m, W 0 m (upd H1 D (.lst []))) ∧ ∀ i m H, W i m H →
  (J.stop i H ∧ Q H) ∨ (J.go i H ∧ ∃ Nx : Hp → Prop, (∀ H', Nx H' → ∃ m', m' < m ∧ W (i + 1) m' H') ∧ ∀ x H', J.yld i H x H' → g x σw H' fun σ2 H2 => wipe σ2 vs = σw ∧ tt σ2 H2 fun b H3 =>
    if b = true then te σ2 H3 fun y H4 => ∃ acc, H4 D = some (.lst acc) ∧ acc.length < sizeLine ∧ Nx (upd H4 D (.lst (acc ++ [y]))) else Nx H3)
theorem tLc_eq (wi : TI) (g : TG) (tt : TT) (te : TE) (vs : List Nat) (σ : L2.St) (H : Hp) (Q : VK) :
    tLc wi g tt te vs σ H Q = wi σ H fun J H1 => ∀ D, H1 D = none → LcK J g tt te (wipe σ vs) vs D (fun H2 => Q (.ref D) H2) H1 := rfl
theorem forK_list {K : PySem.W.Frag} {a : Addr} {g : TG} {tb : TS} {D : Ends} {σ : L2.St} {H : Hp} (xs : List V) (Pv : Nat → L2.St → Hp → Prop) (h0 : Pv 0 σ H) (hl : ∀ i σ H, i ≤ xs.length → Pv i σ H → SqL K H a xs)
    (hs : ∀ i x σ H, xs[i]? = some x → Pv i σ H → g x σ H fun σ2 H2 => tb { D with nx := Pv (i + 1), ct := Pv (i + 1), bk := D.nx } σ2 H2) (hd : ∀ σ H, Pv xs.length σ H → D.nx σ H) :
    ForK (Itl K a) g tb D σ H := for_list Pv h0 hl hs hd
theorem forK_tup {K : PySem.W.Frag} {a : Addr} {g : TG} {tb : TS} {D : Ends} {σ : L2.St} {H : Hp} (xs : List V) (Pv : Nat → L2.St → Hp → Prop) (h0 : Pv 0 σ H) (hl : ∀ i σ H, i ≤ xs.length → Pv i σ H → SqT K H a xs)
    (hs : ∀ i x σ H, xs[i]? = some x → Pv i σ H → g x σ H fun σ2 H2 => tb { D with nx := Pv (i + 1), ct := Pv (i + 1), bk := D.nx } σ2 H2) (hd : ∀ σ H, Pv xs.length σ H → D.nx σ H) :
    ForK (Itt K a) g tb D σ H := for_tup Pv h0 hl hs hd
theorem forK_range {lo : Int} {n : Nat} {g : TG} {tb : TS} {D : Ends} {σ : L2.St} {H : Hp} (Pv : Nat → L2.St → Hp → Prop) (h0 : Pv 0 σ H)
    (hs : ∀ i σ H, i < n → Pv i σ H → g (.int (lo + i)) σ H fun σ2 H2 => tb { D with nx := Pv (i + 1), ct := Pv (i + 1), bk := D.nx } σ2 H2) (hd : ∀ σ H, Pv n σ H → D.nx σ H) :
    ForK (Itr lo n) g tb D σ H := for_range Pv h0 hs hd
theorem lcK_list {K : PySem.W.Frag} {a : Addr} {g : TG} {tt : TT} {te : TE} {vs : List Nat} {σw : L2.St} {H1 : Hp} {D : Addr} {Qd : Hp → Prop} (xs : List V) (Pv : Nat → Hp → Prop) (h0 : Pv 0 (upd H1 D (.lst []))) (hl : ∀ i H, i ≤ xs.length → Pv i H → SqL K H a xs)
    (hs : ∀ i x H, xs[i]? = some x → Pv i H → g x σw H fun σ2 H2 => wipe σ2 vs = σw ∧ tt σ2 H2 fun b H3 =>
      if b = true then te σ2 H3 fun y H4 => ∃ acc, H4 D = some (.lst acc) ∧ acc.length < sizeLine ∧ Pv (i + 1) (upd H4 D (.lst (acc ++ [y]))) else Pv (i + 1) H3) (hd : ∀ H, Pv xs.length H → Qd H) :
    LcK (Itl K a) g tt te σw vs D Qd H1 := by
  refine ⟨fun i m H => m = xs.length - i ∧ i ≤ xs.length ∧ Pv i H, ⟨xs.length, by simp, Nat.zero_le _, h0⟩, ?_⟩
  rintro i m H ⟨rfl, hi, p⟩
  have q := hl i H hi p
  by_cases hlt : i < xs.length
  · refine .inr ⟨⟨xs, xs[i], q, by simp [hlt]⟩, Pv (i + 1), fun H' p' => ⟨xs.length - (i + 1), by omega, rfl, hlt, p'⟩, fun x H' y => ?_⟩
    obtain ⟨e, y⟩ := y
    subst e
    exact hs i x _ (y xs q) p
  · have e : i = xs.length := by omega
    subst e
    exact .inl ⟨⟨xs, q, Nat.le_refl _⟩, hd H p⟩
theorem lcK_range {lo : Int} {n : Nat} {g : TG} {tt : TT} {te : TE} {vs : List Nat} {σw : L2.St} {H1 : Hp} {D : Addr} {Qd : Hp → Prop} (Pv : Nat → Hp → Prop) (h0 : Pv 0 (upd H1 D (.lst [])))
    (hs : ∀ i H, i < n → Pv i H → g (.int (lo + i)) σw H fun σ2 H2 => wipe σ2 vs = σw ∧ tt σ2 H2 fun b H3 =>
      if b = true then te σ2 H3 fun y H4 => ∃ acc, H4 D = some (.lst acc) ∧ acc.length < sizeLine ∧ Pv (i + 1) (upd H4 D (.lst (acc ++ [y]))) else Pv (i + 1) H3) (hd : ∀ H, Pv n H → Qd H) :
    LcK (Itr lo n) g tt te σw vs D Qd H1 := by
  refine ⟨fun i m H => m = n - i ∧ i ≤ n ∧ Pv i H, ⟨n, by simp, Nat.zero_le _, h0⟩, ?_⟩
  rintro i m H ⟨rfl, hi, p⟩
  by_cases hlt : i < n
  · refine .inr ⟨hlt, Pv (i + 1), fun H' p' => ⟨n - (i + 1), by omega, rfl, hlt, p'⟩, fun x H' y => ?_⟩
    obtain ⟨e, y⟩ := y
    subst e y
    exact hs i _ hlt p
  · have e : i = n := by omega
    subst e
    exact .inl ⟨Nat.le_refl _, hd H p⟩

/-! ### heaps -/
theorem same_new {H : Hp} {p : Addr} {o : HO} (h : H p = none) : Same H (upd H p o) := fun b u q => by rw [upd_ne (ne_of_none q h)]; exact q
theorem same_mut {H H' : Hp} {p : Addr} {o : HO} (s : Same H H') (h : H p = none) : Same H (upd H' p o) := fun b u q => by rw [upd_ne (ne_of_none q h)]; exact s b u q
theorem sql_self {K : PySem.W.Frag} {H : Hp} {p : Addr} {xs : List V} : SqL K (upd H p (.lst xs)) p xs := .inl (.inl upd_same)
theorem sql_new {K : PySem.W.Frag} {H : Hp} {p a : Addr} {o : HO} {xs : List V} (h : H p = none) (q : SqL K H a xs) : SqL K (upd H p o) a xs := (same_new h).seq q
theorem sqt_new {K : PySem.W.Frag} {H : Hp} {p a : Addr} {o : HO} {xs : List V} (h : H p = none) (q : SqT K H a xs) : SqT K (upd H p o) a xs := by
  rcases q with (q | ⟨u, q⟩) | q
  · exact .inl (.inl (same_new h _ _ q))
  · exact .inl (.inr ⟨u, same_new h _ _ q⟩)
  · exact .inr q
/-! ### readings by name -/
def rLen (K : PySem.W.Frag) : List V → Hp → VK → Prop := fun xs H Q => ∃ p ys, xs = [.ref p] ∧ (SqL K H p ys ∨ SqT K H p ys) ∧ Q (.int ys.length) H
def rListOf (K : PySem.W.Frag) : List V → Hp → VK → Prop := fun xs H Q => ∃ p ys, xs = [.ref p] ∧ (SqL K H p ys ∨ SqT K H p ys) ∧ ∀ l, H l = none → Q (.ref l) (upd H l (.lst ys))
def rTupleOf (K : PySem.W.Frag) : List V → Hp → VK → Prop := fun xs H Q => ∃ p ys, xs = [.ref p] ∧ ((SqL K H p ys ∧ ∀ l, H l = none → Q (.ref l) (upd H l (.tup ys))) ∨ (SqT K H p ys ∧ Q (.ref p) H))
def rInt1 : List V → Hp → VK → Prop := fun xs H Q => (∃ i, xs = [.int i] ∧ Q (.int i) H) ∨ ∃ k, xs = [.bl k] ∧ Q (.int (if k then 1 else 0)) H
section
variable {X : Cx}
theorem call_lenS : CallR X (.builtin "len") (rLen X.K) := call_len_seq
theorem call_listS : CallR X (.type "list") (rListOf X.K) := call_list_of
theorem call_tupleS : CallR X (.type "tuple") (rTupleOf X.K) := call_tuple_of
theorem call_intS : CallR X (.type "int") rInt1 := call_int1
end

/-! ### the context's own part -/
theorem cxOf_K {CX : CXT} {P : Program} {w : World} {K : PySem.W.Frag} {mg : Str → Option Value} {base : Heap} {N : List Str} {qual : Str} {scope : Scope} {f : Addr} {cd : Value} {A : Around} {outer : List Env} {s : Shared} {H : Hp} {E : XK} :
    (cxOf CX P w K mg base N qual scope f cd A outer s H E).K = K := rfl
theorem tBM_list {K : PySem.W.Frag} {H : Hp} {p : Addr} {xs : List V} (h : SqL K H p xs) : tyV K "list" (.ref p) H := .inl ⟨rfl, _, h⟩
theorem tyL {K : PySem.W.Frag} {H : Hp} {p : Addr} {xs : List V} (h : H p = some (.lst xs)) : tyV K "list" (.ref p) H := .inl ⟨rfl, _, SqL.of h⟩
theorem lineLt {n : Nat} (h : n ≤ 16000000) : n < sizeLine := by rw [sizeLine_eq]; omega
theorem lineLe {n : Nat} (h : n ≤ 16000000) : n ≤ sizeLine := Nat.le_of_lt (lineLt h)

theorem atI_ints {ns : List Int} {i : Int} (h0 : 0 ≤ i) (h : i < ns.length) : atI (ns.map V.int) i = some (.int (ns.getD i.toNat 0)) := by
  obtain ⟨j, rfl⟩ : ∃ j : Nat, i = (j : Int) := ⟨i.toNat, by omega⟩
  have hj : j < ns.length := by omega
  refine atI_nat ?_
  rw [List.getElem?_map, List.getElem?_eq_getElem hj, Int.toNat_natCast, List.getD_eq_getElem?_getD, List.getElem?_eq_getElem hj]
  rfl
theorem iteF' {c : Prop} [Decidable c] {A B : Prop} (hc : ¬ c) (h : B) : if c then A else B := by rw [if_neg hc]; exact h
theorem iteT' {c : Prop} [Decidable c] {A B : Prop} (hc : c) (h : A) : if c then A else B := by rw [if_pos hc]; exact h
/-! ### comprehensions whose elements leave nothing that is asked for later -/
section
variable {K : PySem.W.Frag} {a : Addr} {g : TG} {tt : TT} {te : TE} {vs : List Nat} {σw : L2.St} {H1 : Hp} {D : Addr} {Qd : Hp → Prop}
theorem lcK_mapI (xs : List V) (F : Nat → V) (nD : H1 D = none) (hS : SqL K H1 a xs) (hl : xs.length ≤ 16000000)
    (hs : ∀ i x acc H (Q : VK), xs[i]? = some x → Same H1 H → H D = some (.lst acc) → (∀ H4, Same H1 H4 → H4 D = some (.lst acc) → Q (F i) H4) → g x σw H fun σ2 H2 => wipe σ2 vs = σw ∧ te σ2 H2 Q)
    (hd : ∀ H, Same H1 H → H D = some (.lst ((List.range xs.length).map F)) → Qd H) : LcK (Itl K a) g tYes te σw vs D Qd H1 := by
  refine lcK_list xs (fun i H => Same H1 H ∧ H D = some (.lst ((List.range i).map F))) ⟨same_new nD, upd_same⟩ (fun i H _ h => h.1.seq hS) (fun i x H hx h => ?_) fun H h => hd H h.1 h.2
  refine hs i x _ H _ hx h.1 h.2 fun H4 s4 h4 => ?_
  refine ⟨_, h4, ?_, same_mut s4 nD, ?_⟩
  · have hi : i < xs.length := (List.getElem?_eq_some_iff.mp hx).1
    simp only [List.length_map, List.length_range]
    exact lineLt (by omega)
  · rw [upd_same, List.range_succ, List.map_append]
    rfl
theorem lcK_mapR {lo : Int} {n : Nat} (F : Nat → V) (nD : H1 D = none) (hl : n ≤ 16000000)
    (hs : ∀ i acc H (Q : VK), i < n → Same H1 H → H D = some (.lst acc) → (∀ H4, Same H1 H4 → H4 D = some (.lst acc) → Q (F i) H4) → g (.int (lo + i)) σw H fun σ2 H2 => wipe σ2 vs = σw ∧ te σ2 H2 Q)
    (hd : ∀ H, Same H1 H → H D = some (.lst ((List.range n).map F)) → Qd H) : LcK (Itr lo n) g tYes te σw vs D Qd H1 := by
  refine lcK_range (fun i H => Same H1 H ∧ H D = some (.lst ((List.range i).map F))) ⟨same_new nD, upd_same⟩ (fun i H hx h => ?_) fun H h => hd H h.1 h.2
  refine hs i _ H _ hx h.1 h.2 fun H4 s4 h4 => ?_
  refine ⟨_, h4, ?_, same_mut s4 nD, ?_⟩
  · simp only [List.length_map, List.length_range]
    exact lineLt (by omega)
  · rw [upd_same, List.range_succ, List.map_append]
    rfl
theorem take_more {α : Type} : ∀ {l : List α} {i : Nat} {x : α}, l[i]? = some x → l.take (i + 1) = l.take i ++ [x]
  | [], i, x, h => by simp at h
  | a :: l, 0, x, h => by
    have e : a = x := Option.some.inj h
    subst e
    rfl
  | a :: l, i + 1, x, h => by
    have ih := take_more (l := l) (i := i) (x := x) h
    show a :: l.take (i + 1) = a :: l.take i ++ [x]
    rw [ih]
    rfl
theorem at_map {α : Type} {ns : List α} {f : α → V} {i : Nat} {x : V} (h : (ns.map f)[i]? = some x) : ∃ z, ns[i]? = some z ∧ x = f z := by
  rw [List.getElem?_map] at h
  cases e : ns[i]? with
  | none => rw [e] at h; cases h
  | some z => rw [e] at h; exact ⟨z, rfl, (Option.some.inj h).symm⟩
/-- over a list of things told by h : α → V -/
theorem lcK_filt {α : Type} (ns : List α) (h : α → V) (p : α → Bool) (F : α → V) (nD : H1 D = none) (hS : SqL K H1 a (ns.map h)) (hl : ns.length ≤ 16000000)
    (hs : ∀ (i : Nat) (x : α) acc H (Qt : VK) (Qf : Hp → Prop), ns[i]? = some x → Same H1 H → H D = some (.lst acc) → (p x = true → ∀ H4, Same H1 H4 → H4 D = some (.lst acc) → Qt (F x) H4) → (p x = false → ∀ H4, Same H1 H4 → H4 D = some (.lst acc) → Qf H4) →
      g (h x) σw H fun σ2 H2 => wipe σ2 vs = σw ∧ tt σ2 H2 fun b H3 => if b = true then te σ2 H3 Qt else Qf H3)
    (hd : ∀ H, Same H1 H → H D = some (.lst ((ns.filter p).map F)) → Qd H) : LcK (Itl K a) g tt te σw vs D Qd H1 := by
  refine lcK_list (ns.map h) (fun i H => Same H1 H ∧ H D = some (.lst (((ns.take i).filter p).map F))) ⟨same_new nD, upd_same⟩ (fun i H _ h => h.1.seq hS) (fun i y H hy h => ?_) fun H h => ?_
  · obtain ⟨x, hx, rfl⟩ := at_map hy
    refine hs i x _ H _ _ hx h.1 h.2 (fun e H4 s4 h4 => ?_) (fun e H4 s4 h4 => ?_)
    · refine ⟨_, h4, ?_, same_mut s4 nD, ?_⟩
      · have hi : i < ns.length := (List.getElem?_eq_some_iff.mp hx).1
        have := List.length_filter_le p (ns.take i)
        simp only [List.length_map, List.length_take] at *
        exact lineLt (by omega)
      · rw [upd_same, take_more hx, List.filter_append, List.map_append, List.filter_cons_of_pos e]
        rfl
    · refine ⟨s4, ?_⟩
      rw [h4, take_more hx, List.filter_append, List.filter_cons_of_neg (by simp [e]), List.filter_nil, List.append_nil]
  · have e := h.2
    rw [List.length_map, List.take_length] at e
    exact hd H h.1 e
theorem lcK_map {α : Type} (ns : List α) (h : α → V) (F : α → V) (nD : H1 D = none) (hS : SqL K H1 a (ns.map h)) (hl : ns.length ≤ 16000000)
    (hs : ∀ (i : Nat) (x : α) acc H (Q : VK), ns[i]? = some x → Same H1 H → H D = some (.lst acc) → (∀ H4, Same H1 H4 → H4 D = some (.lst acc) → Q (F x) H4) → g (h x) σw H fun σ2 H2 => wipe σ2 vs = σw ∧ te σ2 H2 Q)
    (hd : ∀ H, Same H1 H → H D = some (.lst (ns.map F)) → Qd H) : LcK (Itl K a) g tYes te σw vs D Qd H1 := by
  refine lcK_filt (tt := tYes) ns h (fun _ => true) F nD hS hl (fun i x acc H Qt Qf hx s d ht _ => ?_) (fun H s d => hd H s (by rw [List.filter_eq_self.mpr (fun _ _ => rfl)] at d; exact d))
  exact hs i x acc H Qt hx s d (ht rfl)
theorem lcK_filtR {lo : Int} {n : Nat} (p : Nat → Bool) (F : Nat → V) (nD : H1 D = none) (hl : n ≤ 16000000)
    (hs : ∀ i acc H (Qt : VK) (Qf : Hp → Prop), i < n → Same H1 H → H D = some (.lst acc) → (p i = true → ∀ H4, Same H1 H4 → H4 D = some (.lst acc) → Qt (F i) H4) → (p i = false → ∀ H4, Same H1 H4 → H4 D = some (.lst acc) → Qf H4) →
      g (.int (lo + i)) σw H fun σ2 H2 => wipe σ2 vs = σw ∧ tt σ2 H2 fun b H3 => if b = true then te σ2 H3 Qt else Qf H3)
    (hd : ∀ H, Same H1 H → H D = some (.lst (((List.range n).filter p).map F)) → Qd H) : LcK (Itr lo n) g tt te σw vs D Qd H1 := by
  refine lcK_range (fun i H => Same H1 H ∧ H D = some (.lst (((List.range i).filter p).map F))) ⟨same_new nD, upd_same⟩ (fun i H hi h => ?_) fun H h => hd H h.1 h.2
  refine hs i _ H _ _ hi h.1 h.2 (fun e H4 s4 h4 => ?_) (fun e H4 s4 h4 => ?_)
  · refine ⟨_, h4, ?_, same_mut s4 nD, ?_⟩
    · have := List.length_filter_le p (List.range i)
      simp only [List.length_map, List.length_range] at *
      exact lineLt (by omega)
    · rw [upd_same, List.range_succ, List.filter_append, List.map_append, List.filter_cons_of_pos e]
      rfl
  · refine ⟨s4, ?_⟩
    rw [h4, List.range_succ, List.filter_append, List.filter_cons_of_neg (by simp [e]), List.filter_nil, List.append_nil]
end
/-! ### a loop's turns over things told by h -/
theorem forK_map {K : PySem.W.Frag} {a : Addr} {g : TG} {tb : TS} {D : Ends} {σ : L2.St} {H : Hp} {α : Type} (ns : List α) (h : α → V) (Pv : Nat → L2.St → Hp → Prop) (h0 : Pv 0 σ H) (hl : ∀ i σ H, i ≤ ns.length → Pv i σ H → SqL K H a (ns.map h))
    (hs : ∀ (i : Nat) (x : α) σ H, ns[i]? = some x → Pv i σ H → g (h x) σ H fun σ2 H2 => tb { D with nx := Pv (i + 1), ct := Pv (i + 1), bk := D.nx } σ2 H2) (hd : ∀ σ H, Pv ns.length σ H → D.nx σ H) :
    ForK (Itl K a) g tb D σ H := by
  refine forK_list (ns.map h) Pv h0 (fun i σ H hi p => hl i σ H (by rw [List.length_map] at hi; exact hi) p) (fun i x σ H hx p => ?_) (fun σ H p => hd σ H (by rw [List.length_map] at p; exact p))
  obtain ⟨z, hz, rfl⟩ := at_map hx
  exact hs i z σ H hz p
end Sh

set_option Elab.async false
set_option linter.all false
set_option maxRecDepth 100000
set_option maxHeartbeats 4000000
/-! Sh1: rules that the layer lacks: len(set(a list of ints)), list(reversed(a list)). -/
namespace Sh
open PySem PySem.Spec PyProof.Rows L2
/-! ### how many unlike ints -/
def dedup (ns : List Int) : List Int := firstMet (fun i => ns.getD i 0) ns.length
theorem firstMet_len (val : Nat → Int) : ∀ i, (firstMet val i).length ≤ i := fun i => firstMet_length_le val i
theorem step_dedup_len (l : List Int) (x : Int) : (step_dedup l x).length = if l.any (· == x) then l.length else l.length + 1 := by
  unfold step_dedup
  split
  · rfl
  · rw [List.length_append]
    rfl
theorem firstMet_full (ns : List Int) : ∀ i, i ≤ ns.length → ((firstMet (fun i => ns.getD i 0) i).length = i ↔ (ns.take i).Nodup)
  | 0, _ => by simp [firstMet_zero]
  | i + 1, h => by
    have ih := firstMet_full ns i (by omega)
    have hx : ns[i]? = some (ns.getD i 0) := by
      rw [List.getD_eq_getElem?_getD, List.getElem?_eq_getElem (by omega : i < ns.length)] <;> rfl
    rw [firstMet_succ, step_dedup_len, take_more hx, List.nodup_append]
    have hany : (firstMet (fun i => ns.getD i 0) i).any (· == ns.getD i 0) = (ns.take i).any (· == ns.getD i 0) := by
      rw [firstMet_any]
      congr 1
      apply List.ext_getElem?
      intro j
      by_cases hj : j < i
      · rw [List.getElem?_map, List.getElem?_range hj, List.getElem?_take_of_lt hj, List.getElem?_eq_getElem (by omega : j < ns.length)]
        simp [List.getD_eq_getElem?_getD, List.getElem?_eq_getElem (by omega : j < ns.length)]
      · rw [List.getElem?_eq_none (by simp; omega), List.getElem?_eq_none (by simp; omega)]
    rw [hany]
    have hle := firstMet_len (fun i => ns.getD i 0) i
    by_cases hc : (ns.take i).any (· == ns.getD i 0) = true
    · rw [if_pos hc]
      constructor
      · intro e; omega
      · rintro ⟨_, _, h3⟩
        obtain ⟨y, hy, e⟩ := List.any_eq_true.mp hc
        have e' : y = ns.getD i 0 := by simpa using e
        exact absurd e' (h3 y hy _ (by simp))
    · rw [if_neg hc]
      constructor
      · intro e
        refine ⟨ih.mp (by omega), by simp, fun a ha b hb e2 => hc ?_⟩
        have : b = ns.getD i 0 := by simpa using hb
        exact List.any_eq_true.mpr ⟨a, ha, by simp [e2, this]⟩
      · rintro ⟨h1, _, _⟩
        have := ih.mpr h1
        omega
theorem dedup_le (ns : List Int) : (dedup ns).length ≤ ns.length := firstMet_len _ _
theorem dedup_full (ns : List Int) : (dedup ns).length = ns.length ↔ ns.Nodup := by
  have := firstMet_full ns ns.length (Nat.le_refl _)
  rwa [List.take_length] at this
theorem dedup_lt (ns : List Int) : (((dedup ns).length : Nat) : Int) < ((ns.length : Nat) : Int) ↔ ¬ ns.Nodup := by
  have h1 := dedup_le ns
  have h2 := dedup_full ns
  constructor
  · intro h h3; have := h2.mpr h3; omega
  · intro h; by_cases e : (dedup ns).length = ns.length
    · exact absurd (h2.mp e) h
    · omega
/-- len(set(x)), x a list of ints -/
def tLenSetG (K : PySem.W.Frag) (ta : TE) : TE := fun σ H Q => ta σ H fun x H1 => ∃ (l : Addr) (ns : List Int), x = .ref l ∧ SqL K H1 l (ns.map V.int) ∧ ns.length ≤ 4000 ∧ Q (.int ((dedup ns).length : Nat)) H1
theorem pe_lenSetG {X : Cx} {a : Expr} {ta : TE} {p p2 q pos : Pos} (hg : Gl X "len") (hm : X.mg "len" = none) (hg2 : Gl X "set") (hm2 : X.mg "set" = none) (ha : PE X a ta) (hc : X.calm = true := by rfl)
    (na : starEach [a] X.env = (false, eval a X.env) :: starEach [] X.env := by rfl) : PE X (.Call (.Name "len" p) [.Call (.Name "set" p2) [a] [] q] [] pos) (tLenSetG X.K ta) := by
  refine ⟨fun pins s σ H Q I h => ?_⟩
  refine Call_ (ld_blt I hg hm boot_len ?_)
  refine PyProof.Rows.callWith_builtin1 (PyProof.Rows.args_cons ?_ rfl) rfl rfl
  refine Call_ (ld_blt I hg2 hm2 boot_set ?_)
  refine PyProof.Rows.callWith_type1 (PyProof.Rows.args_cons (thn (ha.run pins s σ H _ I h) fun v s1 ⟨x, H1, I1, r1, q1⟩ => PyProof.Rows.args_nil ?_) na) na rfl
  obtain ⟨l, ns, rfl, hq, hl, q1⟩ := q1
  cases r1
  obtain ⟨its, r, pl, hz⟩ := I1.list hq
  have hlen : its.toArray.size = ns.length := by rw [List.size_toArray, ← r.length, List.length_map]
  refine call_set_list (I1.ok.hd hc) pl.isList (by simpa using Vals.ints r) (by rw [hlen]; unfold scanBound; omega) fun h' tk hS hk => ?_
  refine PyProof.Rows.args_nil ?_
  rw [hlen] at hS
  obtain ⟨o, es, ep, t, ho, hex, hd, _, _, _, hf, hn⟩ := hS
  have hle := dedup_le ns
  have I2 : Inv X pins σ H1 { s1 with heap := h', toks := tk } := I1.kept fun b o e => hk b o (Heap.lt_size e) e
  have hn' : es.size = (dedup ns).length := hn
  exact call_len_set ho hex hd hf (by rw [hn] <;> exact Int.lt_of_le_of_lt (Int.ofNat_le.mpr hle) (by omega)) ⟨.int (dedup ns).length, H1, I2.tok _, ⟨_, by rw [hn]; rfl⟩, q1⟩
/-! ### list(reversed(a list)) -/
section
variable {prog : Program} {w : World} {A : Around} {E : Value → Shared → Prop} {s : Shared}
theorem extend_rev {R : Result → Shared → Prop} {it l : Addr} {items : Array Value} (hh : A.handled = none) (hit : s.heap.IsRevIter it l ((items.size : Int) - 1)) (hl : s.heap.IsList l items) (hne : l ≠ it) (hn : items.size ≤ sizeLine) (S : Addr) (res : Value) (c₀ : Nat)
    (hS : s.heap.get? S = some { cls := .type "list", data := .seq #[] c₀ }) (hSi : S ≠ it) (hSl : S ≠ l)
    (hR : ∀ h' tk acc' c', (∀ b o, b ≠ S → b ≠ it → s.heap.get? b = some o → h'.get? b = some o) → h'.get? S = some { cls := .type "list", dict := none, data := .seq acc' c', slots := #[] } →
      ItemsOf (fun i v => items[items.size - 1 - i]? = some v) acc' items.size → R (.ok (.ret res)) { s with heap := h', toks := tk }) :
    wpAny (model prog w) A.in1 (Builtin.List.listExtendWith (.ref S) (.ref it) res)
      (fun fin s' => match fin with | .done f => R (.ok f) s' | .again c' => c'.quiet = true ∧ codeAny (model prog w) A c' R s') (fun e s' => R (.error e) s') s := by
  have W := (Walks.listRev (prog := prog) (w := w) (A := A.in1) hh it l hne items).toS
  have hSf : S ∉ [it, l] := by simp only [List.mem_cons, List.not_mem_nil, or_false, not_or]; exact ⟨hSi, hSl⟩
  have hT : s.TypeIs (.ref it) "list_reverseiterator" := Heap.IsRevIter.typeIs hit
  have h1 : Builtin.List.listSameRef (.ref S) (.ref it) = false := by simp [Builtin.List.listSameRef, hSi]
  unfold Builtin.List.listExtendWith
  refine wpAny_bind (wpAny_typeOf hT ?_)
  rw [if_neg (by rw [h1]; decide)]
  refine wpAny_bind (wpAny_pyIter_revIter hit ?_)
  refine wpAny_bind (wpAny_holding ?_)
  unfold Builtin.List.listLengthHint
  refine wpAny_bind (wpAny_specialOf hT RT.nolen_lri ?_)
  show wpAny _ A.in1 (specialOf (Value.ref it) (Str.ofString "__length_hint__") >>= _) _ _ _
  refine wpAny_bind (wpAny_specialOf hT RT.hint_lri ?_)
  generalize hid : ("list_reverseiterator.__length_hint__" : String) = id0
  wp_delta
  rw [show splitId id0 = some ("list_reverseiterator", "__length_hint__") from by subst hid; decide +kernel]
  subst hid
  refine wpAny_bind (wpAny_isInstance (b := true) hT (by rw [isSubtype_type]; kernel_rfl) ?_)
  refine wpAny_pure ?_
  rw [if_neg (by decide)]
  have e0 : ((items.size : Nat) : Int) - 1 - ((0 : Nat) : Int) = (items.size : Int) - 1 := by omega
  refine wpAny_pure ⟨plainId_quiet F.plain_extend_loop _, codeAny_extend_loopS W hn _ hSf _ items.size 0 _ _ _ rfl (Nat.zero_le _) ⟨Nat.zero_le _, by rw [e0]; exact hit, hl⟩ hS (ItemsOf.nil _) fun s' acc' c' hm hS' hacc => ?_⟩
  rw [Moved.eq_with hm]
  refine hR s'.heap s'.toks acc' c' (fun b o hb hb2 e => hm.heap b o (fun hmem => ?_) e) hS' hacc
  rcases List.mem_cons.mp hmem with e' | hmem
  · exact hb e'
  · exact hb2 (List.mem_singleton.mp hmem)
theorem list_init_rev {R : Result → Shared → Prop} {it l : Addr} {items : Array Value} (hh : A.handled = none) (hit : s.heap.IsRevIter it l ((items.size : Int) - 1)) (hl : s.heap.IsList l items) (hne : l ≠ it) (hn : items.size ≤ sizeLine) (S : Addr)
    (hS : s.heap.get? S = some { cls := .type "list", data := .seq #[] }) (hSi : S ≠ it) (hSl : S ≠ l)
    (hR : ∀ h' tk acc' c', (∀ b o, b ≠ S → b ≠ it → s.heap.get? b = some o → h'.get? b = some o) → h'.get? S = some { cls := .type "list", dict := none, data := .seq acc' c', slots := #[] } →
      ItemsOf (fun i v => items[items.size - 1 - i]? = some v) acc' items.size → R (.ok (.ret .none)) { s with heap := h', toks := tk }) :
    wpAny (model prog w) A.in1 (Builtin.«list.__init__» ⟨[.ref S, .ref it], []⟩)
      (fun fin s' => match fin with | .done f => R (.ok f) s' | .again c' => c'.quiet = true ∧ codeAny (model prog w) A c' R s') (fun e s' => R (.error e) s') s := by
  show wpAny _ _ (do let old ← Builtin.List.listItems (.ref S); Builtin.List.listUpdate (.ref S) (fun _ => #[]); letGo old.toList.reverse; Builtin.List.listExtendWith (.ref S) (.ref it) .none) _ _ s
  refine wpAny_bind ?_
  unfold Builtin.List.listItems
  refine wpAny_bind (wpAny_seqItems hS rfl (wpAny_pure ?_))
  show wpAny _ _ (updateSeq S (fun _ => #[]) >>= fun _ => letGo (#[] : Array Value).toList.reverse >>= fun _ => Builtin.List.listExtendWith (.ref S) (.ref it) .none) _ _ s
  refine wpAny_bind (wpAny_updateSeq hS rfl ?_)
  have hS₂ := Heap.get?_update_self (Obj.mapSeq (fun _ => (#[] : Array Value))) hS rfl
  have oth : ∀ b o, b ≠ S → s.heap.get? b = some o → (s.heap.update S (Obj.mapSeq (fun _ => (#[] : Array Value)))).get? b = some o :=
    fun b o hb e => (Heap.get?_update_other _ _ (Ne.symm hb)).trans e
  refine wpAny_bind (wpAny_letGo ?_)
  obtain ⟨oi, hoi, ri⟩ := hit
  obtain ⟨ol, hol, rl⟩ := hl
  refine extend_rev (s := { s with heap := s.heap.update S (Obj.mapSeq (fun _ => (#[] : Array Value))) }) hh ⟨oi, oth it oi (Ne.symm hSi) hoi, ri⟩ ⟨ol, oth l ol (Ne.symm hSl) hol, rl⟩ hne hn S .none _ hS₂ hSi hSl fun h' tk acc' c' hk hS' hacc => ?_
  exact hR h' tk acc' c' (fun b o hb hb2 e => hk b o hb hb2 (oth b o hb e)) hS' hacc
theorem call_list_rev {Q : Value → Shared → Prop} {it l : Addr} {items : Array Value} (hh : A.handled = none) (hit : s.heap.IsRevIter it l ((items.size : Int) - 1)) (hl : s.heap.IsList l items) (hne : l ≠ it) (hn : items.size ≤ sizeLine)
    (hQ : ∀ h' tk acc' c', (∀ b o, b ≠ it → s.heap.get? b = some o → h'.get? b = some o) →
      h'.get? s.heap.objs.size = some { cls := .type "list", dict := none, data := .seq acc' c', slots := #[] } → ItemsOf (fun i v => items[items.size - 1 - i]? = some v) acc' items.size → Q (.ref s.heap.objs.size) { s with heap := h', toks := tk }) :
    wpAny (model prog w) A (call (.type "list") [.ref it]) Q E s := by
  obtain ⟨oi, hoi, ri⟩ := id hit
  obtain ⟨ol, hol, rl⟩ := id hl
  refine callType_codes (Q₁ := fun obj s₁ => obj = .ref s.heap.objs.size ∧ s₁ = { s with heap := s.heap.push { cls := .type "list", data := .seq #[] } }) F.called_list (F.typeCall_list_1 _) F.entry_list_init
    (code_list_new _ ⟨rfl, rfl⟩) fun obj s₁ h₁ => ?_
  obtain ⟨rfl, rfl⟩ := h₁
  have hS : (s.heap.push { cls := .type "list", data := .seq #[] }).get? s.heap.objs.size = some { cls := .type "list", data := .seq #[] } := Heap.get?_push_size _ rfl
  refine ⟨⟨_, hS, rfl⟩, F.args_list_init_2 _ _, list_init_rev (A := A.in1) (s := { s with heap := s.heap.push { cls := .type "list", data := .seq #[] } }) hh ⟨oi, Heap.get?_push_of_some _ hoi, ri⟩ ⟨ol, Heap.get?_push_of_some _ hol, rl⟩ hne hn _ hS (Nat.ne_of_gt (Heap.lt_size hoi)) (Nat.ne_of_gt (Heap.lt_size hol)) fun h' tk acc' c' hk hS' hacc => ?_⟩
  exact ⟨rfl, hQ h' tk acc' c' (fun b o hb e => hk b o (Nat.ne_of_lt (Heap.lt_size e)) hb (Heap.get?_push_of_some _ e)) hS' hacc⟩
end
def tListRev (K : PySem.W.Frag) (te : TE) : TE := fun σ H Q => te σ H fun v H1 => ∃ (a : Addr) (xs : List V), v = .ref a ∧ SqL K H1 a xs ∧ ∀ q, H1 q = none → Q (.ref q) (upd H1 q (.lst xs.reverse))
theorem pe_listRev {X : Cx} {e : Expr} {te : TE} {p p2 pos pos2 : Pos} (hc : X.calm = true) (hg : Gl X "list") (hm : X.mg "list" = none) (hg2 : Gl X "reversed") (hm2 : X.mg "reversed" = none) (he : PE X e te)
    (hs : starEach [e] X.env = (false, eval e X.env) :: starEach [] X.env := by rfl)
    (hs2 : starEach [.Call (.Name "reversed" p2) [e] [] pos2] X.env = (false, eval (.Call (.Name "reversed" p2) [e] [] pos2) X.env) :: starEach [] X.env := by rfl) :
    PE X (.Call (.Name "list" p) [.Call (.Name "reversed" p2) [e] [] pos2] [] pos) (tListRev X.K te) := by
  refine ⟨fun pins s σ H Q I h => ?_⟩
  refine Call_ (ld_blt I hg hm boot_list (PyProof.Rows.callWith_type1 (args_cons (Call_ (ld_blt I hg2 hm2 PyProof.Rows.boot_reversed (PyProof.Rows.callWith_type1 (args_cons (thn (he.run pins s σ H _ I h) fun u s1 ⟨v, H1, I1, r1, q1⟩ => args_nil ?_) hs) hs rfl))) hs2) hs2 rfl))
  obtain ⟨a, xs, ev, hq, q⟩ := q1
  subst ev
  obtain rfl : u = Value.ref a := r1
  obtain ⟨its, rv, p', hz⟩ := I1.list hq
  refine call_reversed_list p'.isList (args_nil ?_)
  have k0 : ∀ b o, s1.heap.get? b = some o → (s1.heap.push (revObj a ((its.toArray.size : Int) - 1))).get? b = some o := fun b o e => Heap.get?_push_of_some _ e
  have I2 : Inv X pins σ H1 { s1 with heap := s1.heap.push (revObj a ((its.toArray.size : Int) - 1)) } := I1.kept (t' := s1.toks) k0
  obtain ⟨f0, f1, f2, f3, f4, f5⟩ := I1.fpOk (H' := H1) (b := s1.heap.objs.size) (Nat.le_refl _) (I1.hok.fresh (Nat.le_refl _))
  have hl := p'.isList
  obtain ⟨ol, hol, _⟩ := id hl
  have hne : a ≠ s1.heap.objs.size := Nat.ne_of_lt (Heap.lt_size hol)
  have hn : its.toArray.size ≤ sizeLine := by rw [List.size_toArray, ← rv.length]; exact hz
  refine call_list_rev (s := { s1 with heap := s1.heap.push (revObj a ((its.toArray.size : Int) - 1)) }) (I1.ok.hd hc) ⟨_, Heap.get?_push_size _ rfl, rfl, rfl⟩ (hl.push _) hne hn fun h' tk acc c' hk hD hi => ?_
  have hD0 : H1 (s1.heap.push (revObj a ((its.toArray.size : Int) - 1))).objs.size = none := I2.hok.fresh (Nat.le_refl _)
  have nit : ∀ b u, H1 b = some u → b ≠ s1.heap.objs.size := fun b u e z => by rw [z, f0] at e; cases e
  have nD : ∀ b o, (s1.heap.push (revObj a ((its.toArray.size : Int) - 1))).get? b = some o → b ≠ (s1.heap.push (revObj a ((its.toArray.size : Int) - 1))).objs.size := fun b o e => Nat.ne_of_lt (Heap.lt_size e)
  have I3 : Inv X pins σ (upd H1 (s1.heap.push (revObj a ((its.toArray.size : Int) - 1))).objs.size (.lst xs.reverse)) { s1 with heap := h', toks := tk } := by
    refine L2.Inv.step (s := { s1 with heap := s1.heap.push (revObj a ((its.toArray.size : Int) - 1)) }) (h' := h') (t' := tk) (g' := s1.gens) (d' := s1.drawn) (ch := [s1.heap.objs.size]) I2 (fun b hb => ?_) (fun b o _ _ hc e _ => hk b o (fun z => hc (by simp [z])) e) (fun b o _ _ hc e _ => ⟨o.slots, hk b o (fun z => hc (by simp [z])) e⟩)
      (fun b o _ e n => by rw [upd_ne (nD b o e)]; exact n) (fun b o hc e => ⟨o, hk b o (fun z => hc (by simp [z])) e⟩) (fun b ys e => by rw [upd_ne (ne_of_none e hD0)]; exact e) (fun b o u e => by rw [upd_ne (ne_of_none e hD0)]; exact e)
      (fun b ps e => ⟨#[], by rw [upd_ne (ne_of_none e hD0), e]; simp⟩) (fun m hm => ?_) (fun b u e => ?_) I1.bare
    · have e : b = s1.heap.objs.size := by simpa using hb
      subst e
      exact ⟨f3, f1, f4, f5⟩
    · obtain ⟨o, es, ep, ho, r⟩ := hm
      exact ⟨o, es, ep, hk _ o (Ne.symm f1) ho, r⟩
    · by_cases hb : b = (s1.heap.push (revObj a ((its.toArray.size : Int) - 1))).objs.size
      · subst hb
        rw [upd_same] at e
        cases e
        refine ⟨by rw [List.length_reverse]; exact hz, acc.toList, c', RT.vals_rev rv hi, ?_⟩
        rw [Array.toArray_toList]
        exact hD
      · rw [upd_ne hb] at e
        refine (I2.hok b u e).stay (fun c v hc q => hk c v ?_ q) (fun c q => by rw [upd_ne (ne_of_none q hD0)]; exact q) fun c ys q => by rw [upd_ne (ne_of_none q hD0)]; exact q
        rcases hc with z | z
        · rw [z]; exact nit b u e
        · exact nit c _ z
  exact ⟨.ref _, _, I3, rfl, q _ hD0⟩
end Sh

set_option Elab.async false
set_option linter.all false
set_option maxRecDepth 100000
set_option maxHeartbeats 4000000
/-! M1: data compared, ranks, shapes: plain Lean (and what the layer's readings ask of it). -/
namespace Sh
open PySem PySem.Spec PyProof.Rows L2
/-! ### data of one form -/
structure IsD {α : Type} [DecidableEq α] (f : α → PyData) (k : Nat) : Prop where
  eqv : ∀ x y, PyData.eqv (f x) (f y) = decide (x = y)
  lay : ∀ x, (f x).canLay0 = true
  dep : ∀ x, (f x).depth ≤ k
theorem eqvAll_map {α : Type} [DecidableEq α] {f : α → PyData} {k : Nat} (h : IsD f k) : ∀ xs ys : List α, PyData.eqvAll (xs.map f) (ys.map f) = decide (xs = ys)
  | [], [] => by simp [PyData.eqvAll]
  | [], _ :: _ => by simp [PyData.eqvAll]
  | _ :: _, [] => by simp [PyData.eqvAll]
  | x :: xs, y :: ys => by
    simp only [List.map_cons, PyData.eqvAll, h.eqv, eqvAll_map h xs ys, List.cons.injEq, Bool.decide_and]
theorem layAll_map {α : Type} [DecidableEq α] {f : α → PyData} {k : Nat} (h : IsD f k) : ∀ xs : List α, PyData.canLayAll0 (xs.map f) = true
  | [] => by simp [PyData.canLayAll0]
  | x :: xs => by simp only [List.map_cons, PyData.canLayAll0, h.lay, layAll_map h xs, Bool.and_self]
theorem depAll_map {α : Type} [DecidableEq α] {f : α → PyData} {k : Nat} (h : IsD f k) : ∀ xs : List α, PyData.depthAll (xs.map f) ≤ k
  | [] => by simp [PyData.depthAll]
  | x :: xs => by
    have h1 := h.dep x
    have h2 := depAll_map h xs
    simp only [List.map_cons, PyData.depthAll]
    omega
theorem isD_int : IsD PyData.int 1 := ⟨fun x y => by simp [PyData.eqv, Bool.beq_eq_decide_eq], fun x => by simp [PyData.canLay0], fun x => by simp [PyData.depth]⟩
theorem isD_bool : IsD PyData.bool 1 := ⟨fun x y => by simp [PyData.eqv, Bool.beq_eq_decide_eq], fun x => by simp [PyData.canLay0], fun x => by simp [PyData.depth]⟩
theorem isD_list {α : Type} [DecidableEq α] {f : α → PyData} {k : Nat} (h : IsD f k) : IsD (fun xs : List α => PyData.list (xs.map f)) (k + 1) :=
  ⟨fun x y => by simp only [PyData.eqv, eqvAll_map h], fun x => by simp only [PyData.canLay0, layAll_map h], fun x => by have := depAll_map h x; simp only [PyData.depth]; omega⟩
theorem isD_tup {α : Type} [DecidableEq α] {f : α → PyData} {k : Nat} (h : IsD f k) : IsD (fun xs : List α => PyData.tuple (xs.map f)) (k + 1) :=
  ⟨fun x y => by simp only [PyData.eqv, eqvAll_map h], fun x => by simp only [PyData.canLay0, layAll_map h], fun x => by have := depAll_map h x; simp only [PyData.depth]; omega⟩
theorem shaped_of {α : Type} [DecidableEq α] {f : α → PyData} {k : Nat} (h : IsD f k) (hk : k ≤ 64) (x : α) : SeqAt.shaped (f x) = true := by
  unfold SeqAt.shaped
  rw [h.lay, decide_eq_true (Nat.le_trans (h.dep x) hk)]
  rfl
abbrev dInts : List Int → PyData := fun ns => .list (ns.map .int)
abbrev dTupI : List Int → PyData := fun ns => .tuple (ns.map .int)
abbrev dBools : List Bool → PyData := fun ns => .list (ns.map .bool)
abbrev dTupB : List Bool → PyData := fun ns => .tuple (ns.map .bool)
abbrev dLL : List (List Int) → PyData := fun xs => .list (xs.map dInts)
abbrev dLT : List (List Int) → PyData := fun xs => .list (xs.map dTupI)
theorem isD_ints : IsD dInts 2 := isD_list isD_int
theorem isD_tupI : IsD dTupI 2 := isD_tup isD_int
theorem isD_bools : IsD dBools 2 := isD_list isD_bool
theorem isD_tupB : IsD dTupB 2 := isD_tup isD_bool
theorem isD_LL : IsD dLL 3 := isD_list isD_ints
theorem isD_LT : IsD dLT 3 := isD_list isD_tupI
section
variable {K : PySem.W.Frag} {H : Hp}
theorem dpAll_int : ∀ ns : List Int, DpAll K H (ns.map V.int) (ns.map .int)
  | [] => .nil
  | n :: ns => .cons (.int n) (dpAll_int ns)
theorem dpAll_bool : ∀ ns : List Bool, DpAll K H (ns.map V.bl) (ns.map .bool)
  | [] => .nil
  | n :: ns => .cons (.bl n) (dpAll_bool ns)
theorem dp_ints {a : Addr} {ns : List Int} (h : SqL K H a (ns.map V.int)) : Dp K H (.ref a) (dInts ns) := .lst h (dpAll_int ns)
theorem dp_tupI {a : Addr} {ns : List Int} (h : SqT K H a (ns.map V.int)) : Dp K H (.ref a) (dTupI ns) := .tup h (dpAll_int ns)
theorem dp_bools {a : Addr} {ns : List Bool} (h : SqL K H a (ns.map V.bl)) : Dp K H (.ref a) (dBools ns) := .lst h (dpAll_bool ns)
theorem dp_tupB {a : Addr} {ns : List Bool} (h : SqT K H a (ns.map V.bl)) : Dp K H (.ref a) (dTupB ns) := .tup h (dpAll_bool ns)
theorem dpAll_of {α : Type} {f : α → PyData} : ∀ {vs : List V} {xs : List α}, Paired (fun v x => Dp K H v (f x)) vs xs → DpAll K H vs (xs.map f)
  | _, _, .nil => .nil
  | _, _, .cons h t => .cons h (dpAll_of t)
theorem rEq_of {α : Type} [DecidableEq α] {f : α → PyData} {k : Nat} {x y : V} {a b : α} {Q : VK} (D : IsD f k) (hk : k ≤ 64) (h1 : Dp K H x (f a)) (h2 : Dp K H y (f b)) (q : Q (.bl (decide (a = b))) H) : rEqD K x y H Q :=
  ⟨_, _, h1, h2, shaped_of D hk a, shaped_of D hk b, by rw [D.eqv]; exact q⟩
theorem rNe_of {α : Type} [DecidableEq α] {f : α → PyData} {k : Nat} {x y : V} {a b : α} {Q : VK} (D : IsD f k) (hk : k ≤ 64) (h1 : Dp K H x (f a)) (h2 : Dp K H y (f b)) (q : Q (.bl (!decide (a = b))) H) : rNeD K x y H Q :=
  ⟨_, _, h1, h2, shaped_of D hk a, shaped_of D hk b, by rw [D.eqv]; exact q⟩
theorem rEq_ints {a b : Addr} {ns ms : List Int} {Q : VK} (h1 : SqL K H a (ns.map V.int)) (h2 : SqL K H b (ms.map V.int)) (q : Q (.bl (decide (ns = ms))) H) : rEqD K (.ref a) (.ref b) H Q :=
  rEq_of isD_ints (by decide) (dp_ints h1) (dp_ints h2) q
theorem rNe_ints {a b : Addr} {ns ms : List Int} {Q : VK} (h1 : SqL K H a (ns.map V.int)) (h2 : SqL K H b (ms.map V.int)) (q : Q (.bl (!decide (ns = ms))) H) : rNeD K (.ref a) (.ref b) H Q :=
  rNe_of isD_ints (by decide) (dp_ints h1) (dp_ints h2) q
end
/-! ### x in (lists) -/
def rInDT (K : PySem.W.Frag) (neg : Bool) : R2 := fun x y H Q => ∃ d ds, Dp K H x d ∧ Dp K H y (.tuple ds) ∧ SeqAt.shaped d = true ∧ SeqAt.shaped (.list ds) = true ∧ Q (.bl (if neg then !(ds.any fun z => PyData.eqv z d) else ds.any fun z => PyData.eqv z d)) H
/-! ### the numbers 0 .. n - 1 -/
def rangeI (n : Nat) : List Int := (List.range n).map Int.ofNat
theorem rangeI_len (n : Nat) : (rangeI n).length = n := by simp [rangeI]
theorem rangeI_get {n i : Nat} (h : i < n) : (rangeI n)[i]? = some (i : Int) := by simp [rangeI, h]
theorem mem_rangeI {n : Nat} {x : Int} : x ∈ rangeI n ↔ 0 ≤ x ∧ x < n := by
  unfold rangeI
  simp only [List.mem_map, List.mem_range]
  constructor
  · rintro ⟨k, hk, rfl⟩
    exact ⟨Int.natCast_nonneg k, Int.ofNat_lt.mpr hk⟩
  · rintro ⟨h1, h2⟩
    exact ⟨x.toNat, by omega, by show ((x.toNat : Nat) : Int) = x; omega⟩
theorem rangeI_nodup (n : Nat) : (rangeI n).Nodup := by
  unfold rangeI List.Nodup
  rw [List.pairwise_map]
  exact List.Pairwise.imp (fun h e => h (Int.ofNat.inj e)) (List.nodup_range (n := n))
theorem rangeI_sorted (n : Nat) : (rangeI n).Pairwise (· ≤ ·) := by
  unfold rangeI
  rw [List.pairwise_map]
  exact List.pairwise_lt_range.imp fun h => Int.ofNat_le.mpr (Nat.le_of_lt h)
theorem rgV_range (n : Nat) : rgV 0 (n : Int) = (rangeI n).map V.int := by
  unfold rgV rangeI
  simp only [Int.sub_zero, Int.toNat_natCast, List.map_map]
  apply List.map_congr_left
  intro a _
  simp
/-! ### two ways to be sorted -/
theorem sorted_eq {ns ms : List Int} (p : ns.Perm ms) (h1 : ns.Pairwise (· ≤ ·)) (h2 : ms.Pairwise (· ≤ ·)) : ns = ms :=
  p.eq_of_pairwise (fun a b _ _ h h' => Int.le_antisymm h h') h1 h2
/-! ### ranks -/
def lessN (ns : List Int) (x : Int) : Int := ((ns.filter (· < x)).length : Int)
def rk (ns : List Int) : List Int := ns.map (lessN ns)
theorem rk_len (ns : List Int) : (rk ns).length = ns.length := by simp [rk]
theorem sorted_index : ∀ {l : List Int}, l.Pairwise (· ≤ ·) → ∀ {x : Int}, x ∈ l → l[(l.filter (· < x)).length]? = some x ∧ ∀ m y, m < (l.filter (· < x)).length → l[m]? = some y → y ≠ x
  | [], _, _, h => by simp at h
  | a :: l, hp, x, hx => by
    have h1 := (List.pairwise_cons.mp hp).1
    have h2 := (List.pairwise_cons.mp hp).2
    by_cases c : a < x
    · have hxl : x ∈ l := by
        rcases List.mem_cons.mp hx with e | e
        · omega
        · exact e
      have ih := sorted_index h2 hxl
      rw [List.filter_cons_of_pos (by simpa using c), List.length_cons]
      refine ⟨by rw [List.getElem?_cons_succ]; exact ih.1, fun m y hm hy => ?_⟩
      cases m with
      | zero =>
        have : a = y := by simpa using hy
        omega
      | succ m => exact ih.2 m y (by omega) (by simpa using hy)
    · have hall : ∀ y ∈ a :: l, ¬ y < x := fun y hy => by
        rcases List.mem_cons.mp hy with e | e
        · omega
        · have := h1 y e; omega
      have hz : (a :: l).filter (· < x) = [] := List.filter_eq_nil_iff.mpr (fun y hy => by simpa using hall y hy)
      rw [hz]
      have : a = x := by
        rcases List.mem_cons.mp hx with e | e
        · exact e.symm
        · have := h1 x e; omega
      exact ⟨by simp [this], fun m y hm => by simp at hm⟩
theorem rk_index {ns ns' : List Int} (perm : ns'.Perm ns) (ri : ns'.Pairwise (· ≤ ·)) (x : Int) (hx : x ∈ ns) : ∃ j : Nat, (j : Int) = lessN ns x ∧ ns'[j]? = some x ∧ ∀ m y, m < j → ns'[m]? = some y → y ≠ x := by
  have h := sorted_index ri (perm.mem_iff.mpr hx)
  have e : (ns'.filter (· < x)).length = (ns.filter (· < x)).length := (perm.filter _).length_eq
  exact ⟨(ns'.filter (· < x)).length, by unfold lessN; rw [e], h.1, h.2⟩
/-! ### rows and shapes -/
def rowOk (ns : List Int) : Prop := ns.length ≤ 30 ∧ ns.Nodup
def shapeOk (ns : List Int) : Prop := ns.length ≤ 30 ∧ ns.Perm (rangeI ns.length)
instance (ns : List Int) : Decidable (rowOk ns) := by unfold rowOk; infer_instance
instance (ns : List Int) : Decidable (shapeOk ns) := by unfold shapeOk; infer_instance
theorem shape_sorted {ns ns' : List Int} (p : ns'.Perm ns) (h : ns'.Pairwise (· ≤ ·)) : ns' = rangeI ns.length ↔ ns.Perm (rangeI ns.length) := by
  constructor
  · intro e; rw [← e]; exact p.symm
  · intro e; exact sorted_eq (p.trans e) h (rangeI_sorted _)
theorem shapeOk_row {ns : List Int} (h : shapeOk ns) : rowOk ns := ⟨h.1, h.2.nodup_iff.mpr (rangeI_nodup _)⟩
theorem shapeOk_mem {ns : List Int} (h : shapeOk ns) {x : Int} : x ∈ ns ↔ 0 ≤ x ∧ x < ns.length := by rw [h.2.mem_iff, mem_rangeI]
/-- flat ints within a list of values -/
theorem flat_ints (ns : List Int) : (ns.map V.int).all flatV = true := by
  rw [List.all_map]
  exact List.all_eq_true.mpr fun _ _ => rfl
theorem eqV_int (x y : Int) : eqV (.int x) (.int y) = decide (x = y) := by
  show (x == y) = _
  exact Bool.beq_eq_decide_eq _ _
theorem inV_ints (x : Int) (ns : List Int) : inV (.int x) (ns.map V.int) = decide (x ∈ ns) := by
  unfold inV
  rw [List.any_map]
  by_cases h : x ∈ ns
  · rw [decide_eq_true h]
    exact List.any_eq_true.mpr ⟨x, h, by simp [Function.comp, eqV_int]⟩
  · rw [decide_eq_false h]
    refine List.any_eq_false.mpr fun y hy => ?_
    simp only [Function.comp, eqV_int, decide_eq_true_eq]
    intro e; exact h (e ▸ hy)
end Sh

set_option Elab.async false
set_option linter.all false
set_option maxRecDepth 100000
set_option maxHeartbeats 4000000
/-! ShX: own errors caught: which class an except clause takes, isinstance of what was caught. -/
namespace Sh
open PySem PySem.Spec PyProof.Rows L2
section
variable {K : PySem.W.Frag}
theorem kit_ref {D C : Addr} {b : Bool} (hdct : PySem.W.hasDictIn K C = true) (ht : PySem.W.typeIn K (.ref C) = some (.type "type")) (h : PySem.W.subIn K (.ref D) (.ref C) = some b) (self : PySem.W.subIn K (.ref D) (.ref D) = some true) :
    PySem.W.kitOne K (.ref D) (.ref C) = some b := by
  obtain ⟨cd, hc, _⟩ := PySem.W.any_some hdct
  have e2 : ((PySem.W.clsIn K C).isSome && PySem.W.typeIn K (.ref C) == some (.type "type")) = true := by rw [hc, ht] <;> rfl
  unfold PySem.W.kitOne
  by_cases e : D = C
  · subst e
    rw [self] at h
    rw [if_pos (by simp)]
    exact h
  · rw [if_neg (by simpa using e)]
    show (if ((PySem.W.clsIn K C).isSome && PySem.W.typeIn K (.ref C) == some (.type "type")) = true then PySem.W.subIn K (.ref D) (.ref C) else none) = some b
    rw [if_pos e2]
    exact h
theorem kit_val {D : Addr} (h : PySem.W.subIn K (.ref D) (.type "ValueError") = some true) : PySem.W.kitOne K (.ref D) (.type "ValueError") = some true := by
  unfold PySem.W.kitOne
  rw [if_neg (by simp)]
  show (if PySem.W.kitMeta "ValueError" = true then PySem.W.subIn K (.ref D) (.type "ValueError") else none) = some true
  rw [if_pos (by decide +kernel)]
  exact h
end
/-- isinstance(e, c), e the error that the suite holds, of class cls -/
def rIsX (K : PySem.W.Frag) (a : Addr) (cls : Value) (d : Option Addr) : List V → Hp → VK → Prop := fun xs H Q => ∃ D, cls = .ref D ∧ d = none ∧ ExcC K D ∧ rIsE K D a xs H Q
theorem call_isX {X : Cx} {a : Addr} {oe : Obj} {pn : List (Addr × Obj)} {cls : Value} {d : Option Addr} (hz : Zc cls d oe) (hf : ∃ vs, oe.data = .fields vs) : CallR (X.suite a ((a, oe) :: pn)) (.builtin "isinstance") (rIsX X.K a cls d) := by
  intro pins s σ H xs us Q I r h
  obtain ⟨D, rfl, rfl, C, h⟩ := h
  exact call_isE C hz hf pins s σ H xs us Q I r h
theorem seq_of {t u : TS} {D : Ends} {σ : L2.St} {H : Hp} (Post : L2.St → Hp → Prop) (hu : ∀ σ H, Post σ H → u D σ H) (ht : ∀ U : L2.St → Hp → Prop, (∀ σ H, Post σ H → U σ H) → t { D with nx := U } σ H) : tSeq t u D σ H := ht _ hu
theorem seq_intro {t u : TS} {D : Ends} {σ : L2.St} {H : Hp} (h : t { D with nx := u D } σ H) : tSeq t u D σ H := h
/-! ### a loop over a list from its end -/
theorem forK_rev {K : PySem.W.Frag} {a : Addr} {g : TG} {tb : TS} {D : Ends} {σ : L2.St} {H : Hp} {α : Type} {n : Nat} (ns : List α) (h : α → V) (hn : n = ns.length) (Pv : Nat → L2.St → Hp → Prop) (h0 : Pv 0 σ H) (hl : ∀ i σ H, i ≤ ns.length → Pv i σ H → SqL K H a (ns.map h))
    (hs : ∀ (i : Nat) (x : α) σ H, i < ns.length → ns[ns.length - 1 - i]? = some x → Pv i σ H → g (h x) σ H fun σ2 H2 => tb { D with nx := Pv (i + 1), ct := Pv (i + 1), bk := D.nx } σ2 H2) (hd : ∀ σ H, Pv ns.length σ H → D.nx σ H) :
    ForK (Itv K a n) g tb D σ H := by
  subst hn
  refine ⟨fun i m σ H => m = ns.length - i ∧ i ≤ ns.length ∧ Pv i σ H, ⟨ns.length, by simp, Nat.zero_le _, h0⟩, ?_⟩
  rintro i m σ H ⟨rfl, hi, p⟩
  have q := hl i σ H hi p
  by_cases hlt : i < ns.length
  · have hx : ns[ns.length - 1 - i]? = some (ns[ns.length - 1 - i]'(by omega)) := List.getElem?_eq_getElem _
    have hy : (ns.map h)[ns.length - 1 - i]? = some (h (ns[ns.length - 1 - i]'(by omega))) := by rw [List.getElem?_map, hx]; rfl
    refine .inr ⟨⟨hlt, ns.map h, _, q, hy⟩, Pv (i + 1), fun σ' H' p' => ⟨ns.length - (i + 1), by omega, rfl, hlt, p'⟩, fun x H' y => ?_⟩
    obtain ⟨e, y⟩ := y
    subst e
    have e2 := (y _ q).symm.trans hy
    cases e2
    exact hs i _ σ _ hlt hx p
  · have e : i = ns.length := by omega
    subst e
    exact .inl ⟨Nat.le_refl _, hd σ H p⟩
end Sh

set_option Elab.async false
set_option linter.all false
set_option maxRecDepth 100000
set_option maxHeartbeats 4000000
/-! ShY: x in a written tuple of lists; sorted of lists of ints. -/
namespace Sh
open PySem PySem.Spec PyProof.Rows L2
theorem room65 {k : Nat} {A : Around} (r : Room k A) : A.units + 65 < cLine := by have := r.un; omega
theorem room66 {k : Nat} {A : Around} (r : Room k A) : A.units + 66 < cLine := by have := r.un; omega
section
variable {X : Cx}
theorem op_inDT (hu : X.A.units + 65 < cLine) : OpR X (compareOp .In) (rInDT X.K false) := by
  intro pins s σ H x y v u Q I rx ry h
  obtain ⟨d, ds, hd, he, sd, se, q⟩ := h
  obtain ⟨as, r1⟩ := Dp.reads I d x v hd rx
  obtain ⟨bs, r2⟩ := Dp.reads I (.tuple ds) y u he ry
  exact SeqAt.in_tuple_reads r2 r1 (SeqAt.canLay_of_shaped se) (SeqAt.canLay_of_shaped sd) (room_in_shaped sd hu) ⟨.bl _, H, I, rfl, q⟩
/-- sorted(xs), xs a list of lists of ints, each told by its address and its ints -/
def rSortedLL (K : PySem.W.Frag) : List V → Hp → VK → Prop := fun vs H Q => ∃ (a : Addr) (bs : List (Addr × List Int)), vs = [V.ref a] ∧ SqL K H a (bs.map fun b => V.ref b.1) ∧ (∀ b ∈ bs, H b.1 = some (.lst (b.2.map V.int))) ∧
  ∀ (rs : List (Addr × List Int)) (p : Addr), rs.Perm bs → rs.Pairwise (fun x y => x.2 ≤ y.2) → H p = none → Q (.ref p) (upd H p (.lst (rs.map fun b => V.ref b.1)))
theorem refs_vals : ∀ {bs : List (Addr × List Int)} {us : List Value}, Vals (bs.map fun b => V.ref b.1) us → us = bs.map fun b => Value.ref b.1
  | [], _, r => by cases r; rfl
  | b :: bs, us, r => by
    cases r with
    | cons r1 r2 =>
      cases r1
      rw [refs_vals r2]; rfl
theorem vals_refs : ∀ (bs : List (Addr × List Int)), Vals (bs.map fun b => V.ref b.1) (bs.map fun b => Value.ref b.1)
  | [] => .nil
  | b :: bs => .cons rfl (vals_refs bs)
theorem each_of {α β : Type} {R : Value → β → Prop} (f : β → Value) : ∀ (bs : List β), (∀ b ∈ bs, R (f b) b) → PySem.W.EachIs R (bs.map f) bs
  | [], _ => .nil
  | b :: bs, h => .cons (h b (by simp)) (each_of (α := α) f bs fun c hc => h c (by simp [hc]))
theorem each_eq {β : Type} (f : β → Value) : ∀ {vs : List Value} {bs : List β}, PySem.W.EachIs (fun v b => v = f b) vs bs → vs = bs.map f
  | _, _, .nil => rfl
  | _, _, .cons h t => by rw [h, each_eq f t]; rfl
theorem le_total_ll (a b : List Int) : a ≤ b ∨ b ≤ a := by
  by_cases h : b < a
  · exact .inr (List.le_of_lt h)
  · exact .inl (List.not_lt.mp h)
theorem cr_sortedLL (hu : X.A.units + 66 < cLine) : CallR X (.builtin "sorted") (rSortedLL X.K) := by
  intro pins s σ H vs us Q I r h
  obtain ⟨a, bs, rfl, hs, hb, q⟩ := h
  obtain ⟨its, rv, hl, hz⟩ := I.list hs
  rw [Vals.ref1 r]
  have ei := refs_vals rv
  subst ei
  rw [List.length_map] at hz
  have er : PySem.W.EachIs (fun v (b : Addr × List Int) => ∃ as, Reads s.heap v (dInts b.2) as) (bs.map fun b => Value.ref b.1) bs :=
    each_of (α := Unit) (fun b => Value.ref b.1) bs fun b hm => Dp.reads I (dInts b.2) (.ref b.1) _ (dp_ints (SqL.of (hb b hm))) rfl
  have e0 : PySem.W.EachIs (fun v (b : Addr × List Int) => v = Value.ref b.1) (bs.map fun b => Value.ref b.1) bs := each_of (α := Unit) (fun b => Value.ref b.1) bs fun b _ => rfl
  refine PySem.W.sorted_data (enc := fun b : Addr × List Int => dInts b.2) hl.isList e0 er (PySem.W.AllAlike.of fun b b' => ?_) (PySem.W.Sortable.others fun b => ⟨fun z => (nomatch z), fun xs z => (nomatch z)⟩) hz (fun b _ => ?_) fun out ho hout => ?_
  · show PySem.W.alike (.list (b.2.map .int)) (.list (b'.2.map .int)) = true
    rw [PySem.W.alike]
    exact PySem.W.alike_ints _ _
  · have := isD_ints.dep b.2
    show X.A.units + 2 + (dInts b.2).depth < cLine
    omega
  · have eo := each_eq (fun b : Addr × List Int => Value.ref b.1) hout
    rw [PySem.W.dataLe_rows (fun b : Addr × List Int => b.2)] at eo
    subst eo
    obtain ⟨ep, he'⟩ := PyProof.Rows.sortedAll_at s.heap (bs.map fun b => Value.ref b.1) ((bs.mergeSort fun p q => decide (p.2 ≤ q.2)).map fun b => Value.ref b.1).toArray
    have pm : (bs.mergeSort fun p q => decide (p.2 ≤ q.2)).Perm bs := List.mergeSort_perm _ _
    have pw : (bs.mergeSort fun p q => decide (p.2 ≤ q.2)).Pairwise (fun x y => x.2 ≤ y.2) := by
      refine (List.pairwise_mergeSort (le := fun p q : Addr × List Int => decide (p.2 ≤ q.2)) (fun x y z h1 h2 => ?_) (fun x y => ?_) bs).imp fun h => of_decide_eq_true h
      · exact decide_eq_true (List.le_trans (of_decide_eq_true h1) (of_decide_eq_true h2))
      · rcases le_total_ll x.2 y.2 with h | h
        · rw [decide_eq_true h]; rfl
        · rw [decide_eq_true h]; simp
    have hlen : ((bs.mergeSort fun p q => decide (p.2 ≤ q.2)).map fun b => V.ref b.1).length ≤ sizeLine := by
      rw [List.length_map, pm.length_eq]; exact hz
    exact ⟨.ref _, upd H (s.heap.objs.size + 1) (.lst ((bs.mergeSort fun p q => decide (p.2 ≤ q.2)).map fun b => V.ref b.1)), I.laid (t' := s.toks) (fun _ _ => PyProof.Rows.sortedAll_old) (Nat.le_succ _) ⟨hlen, _, ep, vals_refs _, he'⟩, rfl, q _ _ pm pw (I.hok.fresh (Nat.le_succ _))⟩
end
end Sh

set_option Elab.async false
set_option linter.all false
set_option maxRecDepth 100000
set_option maxHeartbeats 4000000
/-! M2: contrary, turned over: plain Lean. -/
namespace Sh
open PySem PySem.Spec PyProof.Rows L2
/-! ### contrary, turned over -/
def contraryL (ns : List Int) : List Int := ns.map fun x => (ns.length : Int) - 1 - x
def overL (ns : List Int) : List Int := (List.range ns.length).map fun i : Nat => ((ns.idxOf (i : Int) : Nat) : Int)
theorem idxOf_at : ∀ {ns : List Int} {x : Int}, x ∈ ns → ns[ns.idxOf x]? = some x
  | [], _, h => by simp at h
  | a :: ns, x, h => by
    by_cases e : a = x
    · subst e; simp [List.idxOf_cons]
    · have h' : x ∈ ns := by
        rcases List.mem_cons.mp h with z | z
        · exact absurd z.symm e
        · exact z
      have q : (a == x) = false := by simpa using e
      rw [List.idxOf_cons, q]
      simpa using idxOf_at h'
theorem idxOf_min : ∀ {ns : List Int} {x : Int} {m : Nat} {y : Int}, m < ns.idxOf x → ns[m]? = some y → y ≠ x
  | [], _, _, _, h, _ => by simp at h
  | a :: ns, x, m, y, h, hy => by
    by_cases e : a = x
    · subst e; simp [List.idxOf_cons] at h
    · have q : (a == x) = false := by simpa using e
      rw [List.idxOf_cons, q] at h
      cases m with
      | zero =>
        have : a = y := by simpa using hy
        rw [← this]; exact e
      | succ m => exact idxOf_min (ns := ns) (m := m) (by simpa using h) (by simpa using hy)
theorem filter_len_le {α : Type} {p q : α → Bool} (h : ∀ x, q x = true → p x = true) : ∀ l : List α, (l.filter q).length ≤ (l.filter p).length
  | [] => by simp
  | a :: l => by
    have ih := filter_len_le h l
    by_cases c : q a = true
    · rw [List.filter_cons_of_pos c, List.filter_cons_of_pos (h a c)]
      simp; omega
    · rw [List.filter_cons_of_neg c]
      by_cases d : p a = true
      · rw [List.filter_cons_of_pos d]; simp; omega
      · rw [List.filter_cons_of_neg d]; exact ih
theorem filter_len_lt {α : Type} {p q : α → Bool} (h : ∀ x, q x = true → p x = true) {x : α} (hp : p x = true) (hq : q x = false) : ∀ l : List α, x ∈ l → (l.filter q).length < (l.filter p).length
  | a :: l, hm => by
    have le := filter_len_le h l
    by_cases e : a = x
    · subst e
      rw [List.filter_cons_of_neg (by simp [hq]), List.filter_cons_of_pos hp]
      simp; omega
    · have ih := filter_len_lt h hp hq l (by rcases List.mem_cons.mp hm with z | z; exact absurd z.symm e; exact z)
      by_cases c : q a = true
      · rw [List.filter_cons_of_pos c, List.filter_cons_of_pos (h a c)]
        simp; omega
      · rw [List.filter_cons_of_neg c]
        by_cases d : p a = true
        · rw [List.filter_cons_of_pos d]; simp; omega
        · rw [List.filter_cons_of_neg d]; exact ih
theorem filter_next {row : List Int} {num : Int} (h : num ∈ row) : (row.filter (fun y => decide (num + 1 ≤ y))).length < (row.filter (fun y => decide (num ≤ y))).length :=
  filter_len_lt (x := num) (fun x hx => by simp at hx ⊢; omega) (by simp) (by simp; omega) row h
end Sh

set_option Elab.async false
set_option linter.all false
set_option maxRecDepth 100000
set_option maxHeartbeats 4000000
/-! M3: shapes of rows, and shapes turned: plain Lean. -/
namespace Sh
open PySem PySem.Spec PyProof.Rows L2
theorem perm_of_sub {α : Type} [DecidableEq α] : ∀ {l m : List α}, l.Nodup → (∀ x ∈ l, x ∈ m) → m.length ≤ l.length → l.Perm m
  | [], m, _, _, h => by
    have : m = [] := by cases m with
      | nil => rfl
      | cons a r => simp at h
    subst this; exact List.Perm.nil
  | a :: l, m, hn, hs, h => by
    have ha : a ∈ m := hs a (by simp)
    have hn' := List.nodup_cons.mp hn
    have p : m.Perm (a :: m.erase a) := List.perm_cons_erase ha
    have hs' : ∀ x ∈ l, x ∈ m.erase a := fun x hx => by
      have hx' : x ∈ a :: m.erase a := p.mem_iff.mp (hs x (by simp [hx]))
      rcases List.mem_cons.mp hx' with e | e
      · exact absurd (e ▸ hx) hn'.1
      · exact e
    have hl : (m.erase a).length ≤ l.length := by
      have := List.length_erase_of_mem ha
      simp at h; omega
    exact ((perm_of_sub hn'.2 hs' hl).cons a).trans p.symm
theorem lessN_lt {ns : List Int} {x y : Int} (hx : x ∈ ns) (h : x < y) : lessN ns x < lessN ns y := by
  unfold lessN
  have := filter_len_lt (p := fun z => decide (z < y)) (q := fun z => decide (z < x)) (fun z hz => by simp at hz ⊢; omega) (x := x) (by simpa using h) (by simp) ns hx
  omega
theorem lessN_inj {ns : List Int} {x y : Int} (hx : x ∈ ns) (hy : y ∈ ns) (e : lessN ns x = lessN ns y) : x = y := by
  rcases Int.lt_trichotomy x y with h | h | h
  · have := lessN_lt hx h; omega
  · exact h
  · have := lessN_lt hy h; omega
theorem lessN_bound {ns : List Int} {x : Int} (hx : x ∈ ns) : 0 ≤ lessN ns x ∧ lessN ns x < ns.length := by
  unfold lessN
  refine ⟨by omega, ?_⟩
  have := filter_len_lt (p := fun _ => true) (q := fun z => decide (z < x)) (fun z _ => rfl) (x := x) rfl (by simp) ns hx
  rw [List.filter_eq_self.mpr (fun _ _ => rfl)] at this
  omega
theorem nodup_map {α β : Type} {f : α → β} {l : List α} (h : l.Nodup) (inj : ∀ a ∈ l, ∀ b ∈ l, f a = f b → a = b) : (l.map f).Nodup := by
  unfold List.Nodup
  rw [List.pairwise_map]
  exact List.Pairwise.imp_of_mem (fun {a b} ha hb hne e => hne (inj a ha b hb e)) h
theorem shape_of_nodup {ns : List Int} (hl : ns.length ≤ 30) (nd : ns.Nodup) (b : ∀ x ∈ ns, 0 ≤ x ∧ x < ns.length) : shapeOk ns :=
  ⟨hl, perm_of_sub nd (fun x hx => mem_rangeI.mpr (b x hx)) (by rw [rangeI_len]; exact Nat.le_refl _)⟩
theorem rk_shape {ns : List Int} (h : rowOk ns) : shapeOk (rk ns) := by
  refine shape_of_nodup (by rw [rk_len]; exact h.1) (nodup_map h.2 fun a ha b hb e => lessN_inj ha hb e) fun x hx => ?_
  obtain ⟨y, hy, rfl⟩ := List.mem_map.mp hx
  rw [rk_len]
  exact lessN_bound hy
theorem range_less (n : Nat) : ∀ k : Nat, k ≤ n → ((List.range n).filter (fun i => decide (i < k))).length = k := by
  induction n with
  | zero => intro k hk; have : k = 0 := by omega
            subst this; rfl
  | succ n ih =>
    intro k hk
    rw [List.range_succ, List.filter_append, List.length_append]
    by_cases e : k ≤ n
    · rw [ih k e, List.filter_cons_of_neg (by simp; omega)]; simp
    · have : k = n + 1 := by omega
      subst this
      have h1 : (List.range n).filter (fun i => decide (i < n + 1)) = List.range n := List.filter_eq_self.mpr fun i hi => by have := List.mem_range.mp hi; simp; omega
      rw [h1, List.filter_cons_of_pos (by simp)]
      simp
theorem lessN_range {n : Nat} {x : Int} (h0 : 0 ≤ x) (h : x ≤ n) : lessN (rangeI n) x = x := by
  obtain ⟨k, rfl⟩ : ∃ k : Nat, x = (k : Int) := ⟨x.toNat, by omega⟩
  unfold lessN rangeI
  rw [List.filter_map, List.length_map]
  have := range_less n k (by omega)
  have e : ((fun x => decide (x < (k : Int))) ∘ Int.ofNat) = fun i : Nat => decide (i < k) := by
    funext i
    simp [Function.comp]
  rw [e, this]
theorem lessN_perm {a b : List Int} (p : a.Perm b) (x : Int) : lessN a x = lessN b x := by
  unfold lessN; rw [(p.filter _).length_eq]
theorem rk_self {ns : List Int} (h : shapeOk ns) : rk ns = ns := by
  unfold rk
  conv => rhs; rw [← List.map_id ns]
  refine List.map_congr_left fun x hx => ?_
  have := (shapeOk_mem h).mp hx
  rw [lessN_perm h.2, lessN_range this.1 (by omega)]
  rfl
theorem reverse_shape {ns : List Int} (h : shapeOk ns) : shapeOk ns.reverse := ⟨by rw [List.length_reverse]; exact h.1, by rw [List.length_reverse]; exact (List.reverse_perm ns).trans h.2⟩
theorem contrary_len (ns : List Int) : (contraryL ns).length = ns.length := by simp [contraryL]
theorem contrary_shape {ns : List Int} (h : shapeOk ns) : shapeOk (contraryL ns) := by
  refine shape_of_nodup (by rw [contrary_len]; exact h.1) (nodup_map (shapeOk_row h).2 fun a _ b _ e => by omega) fun x hx => ?_
  obtain ⟨y, hy, rfl⟩ := List.mem_map.mp hx
  rw [contrary_len]
  have := (shapeOk_mem h).mp hy
  omega
theorem contrary_back (ns : List Int) : contraryL (contraryL ns) = ns := by
  unfold contraryL
  rw [List.map_map, List.length_map]
  conv => rhs; rw [← List.map_id ns]
  refine List.map_congr_left fun x _ => ?_
  simp only [Function.comp, id]
  omega
theorem over_len (ns : List Int) : (overL ns).length = ns.length := by simp [overL]
theorem over_get {ns : List Int} {i : Nat} (h : i < ns.length) : (overL ns)[i]? = some ((ns.idxOf (i : Int) : Nat) : Int) := by simp [overL, h]
theorem idxOf_of {ns : List Int} (nd : ns.Nodup) {i : Nat} {x : Int} (h : ns[i]? = some x) : ns.idxOf x = i := by
  have hm := List.mem_of_getElem? h
  exact nd_ix nd (idxOf_at hm) h
theorem idxOf_inj {ns : List Int} {x y : Int} (hx : x ∈ ns) (hy : y ∈ ns) (e : ns.idxOf x = ns.idxOf y) : x = y := by
  have h1 := idxOf_at hx
  rw [e, idxOf_at hy] at h1
  exact (Option.some.inj h1).symm
theorem idxOf_lt {ns : List Int} {x : Int} (hx : x ∈ ns) : ns.idxOf x < ns.length := (List.getElem?_eq_some_iff.mp (idxOf_at hx)).1
theorem over_shape {ns : List Int} (h : shapeOk ns) : shapeOk (overL ns) := by
  have hm : ∀ i ∈ List.range ns.length, ((i : Nat) : Int) ∈ ns := fun i hi => (shapeOk_mem h).mpr ⟨by omega, by have := List.mem_range.mp hi; omega⟩
  refine shape_of_nodup (by rw [over_len]; exact h.1) (nodup_map List.nodup_range fun a ha b hb e => ?_) fun x hx => ?_
  · have := idxOf_inj (hm a ha) (hm b hb) (by omega)
    omega
  · obtain ⟨y, hy, rfl⟩ := List.mem_map.mp hx
    rw [over_len]
    have := idxOf_lt (hm y hy)
    omega
theorem over_back {ns : List Int} (h : shapeOk ns) : overL (overL ns) = ns := by
  apply List.ext_getElem?
  intro i
  by_cases hi : i < ns.length
  · rw [over_get (by rw [over_len]; exact hi), List.getElem?_eq_getElem hi]
    have hx : ns[i] ∈ ns := List.getElem_mem hi
    have b := (shapeOk_mem h).mp hx
    have e : (overL ns)[(ns[i]).toNat]? = some (i : Int) := by
      rw [over_get (by omega)]
      have : (((ns[i]).toNat : Nat) : Int) = ns[i] := by omega
      rw [this, idxOf_of (shapeOk_row h).2 (List.getElem?_eq_getElem hi)]
    rw [idxOf_of (shapeOk_row (over_shape h)).2 e]
    congr 1
    omega
  · rw [List.getElem?_eq_none (by rw [over_len, over_len]; omega), List.getElem?_eq_none (by omega)]
def ovAt (s : List Int) (i : Nat) : List Int := (List.range s.length).map fun j : Nat => if s.idxOf (j : Int) < i then ((s.idxOf (j : Int) : Nat) : Int) else 0
theorem ovAt_len (s : List Int) (i : Nat) : (ovAt s i).length = s.length := by simp [ovAt]
theorem ovAt_zero (s : List Int) : ovAt s 0 = List.replicate s.length 0 := by
  unfold ovAt
  apply List.ext_getElem?
  intro j
  by_cases hj : j < s.length
  · simp [hj]
  · simp [hj]
theorem ovAt_full {s : List Int} (h : shapeOk s) : ovAt s s.length = overL s := by
  unfold ovAt overL
  refine List.map_congr_left fun j hj => ?_
  rw [if_pos (idxOf_lt ((shapeOk_mem h).mpr ⟨by omega, by have := List.mem_range.mp hj; omega⟩))]
theorem ovAt_step {s : List Int} (h : shapeOk s) {i : Nat} {x : Int} (hx : s[i]? = some x) : (ovAt s i).set x.toNat (i : Int) = ovAt s (i + 1) := by
  have b := (shapeOk_mem h).mp (List.mem_of_getElem? hx)
  have e := idxOf_of (shapeOk_row h).2 hx
  apply List.ext_getElem?
  intro j
  by_cases hj : j < s.length
  · by_cases ej : j = x.toNat
    · subst ej
      rw [List.getElem?_set_self (by rw [ovAt_len]; exact hj)]
      have : ((x.toNat : Nat) : Int) = x := by omega
      simp [ovAt, hj, this, e]
    · rw [List.getElem?_set_ne (Ne.symm ej)]
      have hjm : (j : Int) ∈ s := (shapeOk_mem h).mpr ⟨by omega, by omega⟩
      have ne : s.idxOf (j : Int) ≠ i := fun z => ej (by
        have := idxOf_at hjm
        rw [z, hx] at this
        have := Option.some.inj this
        omega)
      simp only [ovAt, List.getElem?_map, List.getElem?_range hj, Option.map_some]
      congr 1
      by_cases c : s.idxOf (j : Int) < i
      · rw [if_pos c, if_pos (by omega)]
      · rw [if_neg c, if_neg (by omega)]
  · rw [List.getElem?_eq_none (by rw [List.length_set, ovAt_len]; omega), List.getElem?_eq_none (by rw [ovAt_len]; omega)]
theorem rev_range (s : List Int) : (List.range s.length).map (fun k : Nat => s.getD (s.length - 1 - k) 0) = s.reverse := by
  apply List.ext_getElem?
  intro j
  by_cases hj : j < s.length
  · rw [List.getElem?_map, List.getElem?_range hj, List.getElem?_reverse hj, List.getElem?_eq_getElem (by omega)]
    simp [List.getD_eq_getElem?_getD, List.getElem?_eq_getElem (show s.length - 1 - j < s.length by omega)]
  · rw [List.getElem?_eq_none (by simp; omega), List.getElem?_eq_none (by simp; omega)]
theorem shape_iff (s : List Int) : (s.length < 31 ∧ ∀ j : Nat, j < s.length → (j : Int) ∈ s) ↔ shapeOk s := by
  constructor
  · rintro ⟨h1, h2⟩
    refine ⟨by omega, (perm_of_sub (rangeI_nodup _) (fun x hx => ?_) (by rw [rangeI_len]; exact Nat.le_refl _)).symm⟩
    have := mem_rangeI.mp hx
    have e : ((x.toNat : Nat) : Int) = x := by omega
    rw [← e]
    exact h2 _ (by omega)
  · intro h
    exact ⟨by have := h.1; omega, fun j hj => (shapeOk_mem h).mpr ⟨by omega, by omega⟩⟩
end Sh

set_option Elab.async false
set_option linter.all false
set_option maxRecDepth 100000
set_option maxHeartbeats 4000000
/-! M4: falls and wrong pairs: plain Lean. -/
namespace Sh
open PySem PySem.Spec PyProof.Rows L2
def inv : List Int → Nat
  | [] => 0
  | x :: r => (r.filter (· < x)).length + inv r
def fallsL (ns : List Int) : List Int := ((List.range (ns.length - 1)).filter fun k => decide (ns.getD (k + 1) 0 < ns.getD k 0)).map Int.ofNat
theorem inv_snoc : ∀ (l : List Int) (x : Int), inv (l ++ [x]) = inv l + (l.filter (fun y => decide (x < y))).length
  | [], x => by simp [inv]
  | a :: l, x => by
    have ih := inv_snoc l x
    simp only [List.cons_append, inv, List.filter_append, List.length_append, ih]
    by_cases c : x < a
    · rw [List.filter_cons_of_pos (by simpa using c), List.filter_cons_of_pos (by simpa using c)]
      simp; omega
    · rw [List.filter_cons_of_neg (by simpa using c), List.filter_cons_of_neg (by simpa using c)]
      simp; omega
theorem drop_get {ns : List Int} {i : Nat} (h : i < ns.length) : ns.drop i = ns.getD i 0 :: ns.drop (i + 1) := by
  rw [List.drop_eq_getElem_cons h, List.getD_eq_getElem?_getD, List.getElem?_eq_getElem h]
  rfl
theorem take_get {ns : List Int} {i : Nat} (h : i < ns.length) : ns.take (i + 1) = ns.take i ++ [ns.getD i 0] := by
  rw [List.getD_eq_getElem?_getD, List.getElem?_eq_getElem h, take_more (List.getElem?_eq_getElem h)]
  rfl
theorem inv_drop {ns : List Int} {i : Nat} (h : i < ns.length) : inv (ns.drop i) = ((ns.drop (i + 1)).filter (· < ns.getD i 0)).length + inv (ns.drop (i + 1)) := by
  rw [drop_get h]; rfl
theorem inv_take {ns : List Int} {i : Nat} (h : i < ns.length) : inv (ns.take (i + 1)) = inv (ns.take i) + ((ns.take i).filter (fun y => decide (ns.getD i 0 < y))).length := by
  rw [take_get h, inv_snoc]
theorem cut_from (xs : List V) (k : Nat) : cutV xs (some ((k : Int))) none = xs.drop k := by
  unfold cutV
  rw [HT.sIx_nat, HT.sIx_none]
  by_cases h : k ≤ xs.length
  · rw [Nat.min_eq_left h, List.take_of_length_le (by simp)]
  · rw [Nat.min_eq_right (by omega), List.drop_eq_nil_of_le (by omega : xs.length ≤ k)]
    simp
theorem insert_perm {s : List Int} {i : Nat} (p : s.Perm (rangeI i)) (j : Nat) : (s.take j ++ [(i : Int)] ++ s.drop j).Perm (rangeI (i + 1)) := by
  have h1 : (s.take j ++ [(i : Int)] ++ s.drop j).Perm ([(i : Int)] ++ s) := by
    conv => rhs; rw [← List.take_append_drop j s]
    rw [← List.append_assoc]
    exact List.Perm.append_right _ List.perm_append_comm
  refine h1.trans ?_
  have h2 : rangeI (i + 1) = rangeI i ++ [(i : Int)] := by
    unfold rangeI; rw [List.range_succ, List.map_append]; rfl
  rw [h2]
  exact (List.Perm.append_left _ p).trans List.perm_append_comm
end Sh

set_option Elab.async false
set_option linter.all false
set_option maxRecDepth 100000
set_option maxHeartbeats 4000000
/-! M5: wrong pairs of a shape backward and turned over: plain Lean. -/
namespace Sh
open PySem PySem.Spec PyProof.Rows L2
theorem split_len (x : Int) : ∀ l : List Int, x ∉ l → (l.filter (· < x)).length + (l.filter (fun y => decide (x < y))).length = l.length
  | [], _ => rfl
  | a :: l, h => by
    have h1 : x ≠ a := fun e => h (by simp [e])
    have ih := split_len x l (fun z => h (by simp [z]))
    by_cases c : a < x
    · rw [List.filter_cons_of_pos (by simpa using c), List.filter_cons_of_neg (by simp; omega)]
      simp; omega
    · rw [List.filter_cons_of_neg (by simpa using c), List.filter_cons_of_pos (by simp; omega)]
      simp; omega
theorem inv_reverse : ∀ l : List Int, l.Nodup → 2 * (inv l.reverse + inv l) = l.length * (l.length - 1)
  | [], _ => by simp [inv]
  | x :: l, h => by
    have hn := List.nodup_cons.mp h
    have ih := inv_reverse l hn.2
    have e := split_len x l hn.1
    have er : (l.reverse.filter (fun y => decide (x < y))).length = (l.filter (fun y => decide (x < y))).length := ((List.reverse_perm l).filter _).length_eq
    rw [List.reverse_cons, inv_snoc, er]
    simp only [inv, List.length_cons, Nat.add_sub_cancel]
    have e2 : (l.length + 1) * l.length = l.length * (l.length - 1) + 2 * l.length := by
      cases hl : l.length with
      | zero => rfl
      | succ n =>
        simp only [Nat.add_sub_cancel]
        generalize hm : (n + 1) * n = m
        have h3 : (n + 1 + 1) * (n + 1) = (n + 1) * n + 2 * (n + 1) := by
          rw [show n + 1 + 1 = n + 2 from rfl, Nat.mul_comm (n + 2) (n + 1), Nat.mul_add, Nat.mul_comm (n + 1) 2]
        omega
    rw [e2, ← ih]
    omega
theorem perm_sum {l m : List Nat} (p : l.Perm m) : l.sum = m.sum := by
  induction p with
  | nil => rfl
  | cons x _ ih => simp [ih]
  | swap x y l => simp; omega
  | trans _ _ h1 h2 => rw [h1, h2]
theorem fubini {α β : Type} (p : α → β → Bool) : ∀ (l : List α) (m : List β), (l.map fun x => m.countP (p x)).sum = (m.map fun y => l.countP (fun x => p x y)).sum
  | [], m => by
    induction m with
    | nil => rfl
    | cons a m ih => simp only [List.map_cons, List.sum_cons, ← ih]; rfl
  | a :: l, m => by
    have ih := fubini p l m
    simp only [List.map_cons, List.sum_cons, ih]
    clear ih
    induction m with
    | nil => rfl
    | cons b m ih =>
      simp only [List.countP_cons] at ih ⊢
      simp only [List.map_cons, List.sum_cons]
      omega
theorem count_below (p : Nat → Bool) (j : Nat) : ∀ n, j ≤ n → (List.range n).countP (fun i => decide (i < j) && p i) = (List.range j).countP p := by
  intro n
  induction n with
  | zero => intro h; have : j = 0 := by omega
            subst this; rfl
  | succ n ih =>
    intro h
    by_cases e : j ≤ n
    · rw [List.range_succ, List.countP_append, ih e, List.countP_cons_of_neg (by simp; omega)]; rfl
    · have : j = n + 1 := by omega
      subst this
      refine List.countP_congr fun i hi => ?_
      have := List.mem_range.mp hi
      simp [this]
theorem filter_take (ns : List Int) (x : Int) : ∀ m, m ≤ ns.length → ((ns.take m).filter (fun y => decide (x < y))).length = (List.range m).countP (fun i => decide (x < ns.getD i 0)) := by
  intro m
  induction m with
  | zero => intro _; rfl
  | succ m ih =>
    intro h
    rw [take_get (by omega), List.filter_append, List.length_append, ih (by omega), List.range_succ, List.countP_append]
    congr 1
    by_cases c : x < ns.getD m 0
    · rw [List.filter_cons_of_pos (by simpa using c), List.countP_cons_of_pos (by simpa using c)]; rfl
    · rw [List.filter_cons_of_neg (by simpa using c), List.countP_cons_of_neg (by simpa using c)]; rfl
theorem inv_sum (ns : List Int) : ∀ m, m ≤ ns.length → inv (ns.take m) = ((List.range m).map fun j => (List.range j).countP (fun i => decide (ns.getD j 0 < ns.getD i 0))).sum := by
  intro m
  induction m with
  | zero => intro _; rfl
  | succ m ih =>
    intro h
    rw [inv_take (by omega), ih (by omega), filter_take _ _ _ (by omega), List.range_succ, List.map_append, List.sum_append]
    simp
theorem inv_pairs (ns : List Int) : inv ns = ((List.range ns.length).map fun j => (List.range ns.length).countP (fun i => decide (i < j) && decide (ns.getD j 0 < ns.getD i 0))).sum := by
  have h := inv_sum ns ns.length (Nat.le_refl _)
  rw [List.take_length] at h
  rw [h]
  congr 1
  refine List.map_congr_left fun j hj => ?_
  have := List.mem_range.mp hj
  rw [count_below _ j _ (by omega)]
theorem getD_at {s : List Int} {i : Nat} (h : i < s.length) : s[i]? = some (s.getD i 0) := by
  rw [List.getD_eq_getElem?_getD, List.getElem?_eq_getElem h]; rfl
theorem map_getD (s : List Int) : (List.range s.length).map (fun i => s.getD i 0) = s := by
  apply List.ext_getElem?
  intro i
  by_cases h : i < s.length
  · rw [List.getElem?_map, List.getElem?_range h, getD_at h]; rfl
  · rw [List.getElem?_eq_none (by simp; omega), List.getElem?_eq_none (by omega)]
theorem shape_perm_nat {s : List Int} (h : shapeOk s) : ((List.range s.length).map (fun i => (s.getD i 0).toNat)).Perm (List.range s.length) := by
  have h1 : (s.map Int.toNat).Perm ((rangeI s.length).map Int.toNat) := h.2.map _
  have h2 : (rangeI s.length).map Int.toNat = List.range s.length := by
    unfold rangeI
    rw [List.map_map]
    conv => rhs; rw [← List.map_id (List.range s.length)]
    exact List.map_congr_left fun i _ => by simp
  rw [h2] at h1
  have h3 : (List.range s.length).map (fun i => (s.getD i 0).toNat) = s.map Int.toNat := by
    conv => rhs; rw [← map_getD s]
    rw [List.map_map]; rfl
  rw [h3]; exact h1
theorem inv_over {s : List Int} (h : shapeOk s) : inv (overL s) = inv s := by
  rw [inv_pairs (overL s), inv_pairs s, over_len]
  have P := shape_perm_nat h
  have at' : ∀ i, i < s.length → (overL s).getD (s.getD i 0).toNat 0 = (i : Int) := fun i hi => by
    have b := (shapeOk_mem h).mp (List.mem_of_getElem? (getD_at hi))
    have e : (((s.getD i 0).toNat : Nat) : Int) = s.getD i 0 := by omega
    rw [List.getD_eq_getElem?_getD, over_get (by omega), e, idxOf_of (shapeOk_row h).2 (getD_at hi)]
    rfl
  have pos : ∀ i, i < s.length → 0 ≤ s.getD i 0 := fun i hi => ((shapeOk_mem h).mp (List.mem_of_getElem? (getD_at hi))).1
  rw [perm_sum (P.map _).symm, List.map_map]
  rw [fubini (fun j i => decide (i < j) && decide (s.getD j 0 < s.getD i 0)) (List.range s.length) (List.range s.length)]
  congr 1
  refine List.map_congr_left fun i hi => ?_
  have hi' := List.mem_range.mp hi
  simp only [Function.comp]
  rw [← P.countP_eq, List.countP_map]
  refine List.countP_congr fun j hj => ?_
  have hj' := List.mem_range.mp hj
  simp only [Function.comp, at' i hi', at' j hj']
  have p1 := pos i hi'
  have p2 := pos j hj'
  simp only [Bool.and_eq_true, decide_eq_true_eq]
  omega
theorem eraseIdx_map {α β : Type} (f : α → β) : ∀ (l : List α) (i : Nat), (l.map f).eraseIdx i = (l.eraseIdx i).map f
  | [], _ => rfl
  | _ :: _, 0 => rfl
  | a :: l, i + 1 => by simp [eraseIdx_map f l i]
end Sh

set_option Elab.async false
set_option linter.all false
set_option maxRecDepth 100000
set_option maxHeartbeats 4000000
/-! M6: rows parted and exchanged: what the text computes. -/
namespace Sh
open PySem PySem.Spec PyProof.Rows L2
def pstep (b : Int → Bool) (s : List (List Int) × List Int) (x : Int) : List (List Int) × List Int := if b x = true then (s.1 ++ [s.2 ++ [x]], []) else (s.1, s.2 ++ [x])
def pfold (b : Int → Bool) (l : List Int) : List (List Int) × List Int := l.foldl (pstep b) ([], [])
def sideOf (row : List Int) (number : Int) : Int → Bool := fun x => decide (decide (x < number) = decide (row.getLastD 0 < number))
def partedL (row : List Int) (number : Int) : List (List Int) := (pfold (sideOf row number) row).1
def rotR (xs : List Int) : List Int := xs.drop (xs.length - 1) ++ xs.take (xs.length - 1)
def rotL (xs : List Int) : List Int := xs.drop 1 ++ xs.take 1
def exRow (row : List Int) (number : Int) : List Int := if 0 < row.length then ((partedL row number).map rotR).flatten else []
def exStep (row : List Int) (number : Int) : List Int := exRow row number ++ [number]
def exL (shape : List Int) : List Int := shape.foldl exStep []
theorem pfold_snoc (b : Int → Bool) (l : List Int) (x : Int) : pfold b (l ++ [x]) = pstep b (pfold b l) x := by simp [pfold, List.foldl_append]
theorem pfold_flat (b : Int → Bool) (l : List Int) : (pfold b l).1.flatten ++ (pfold b l).2 = l := by
  suffices h : ∀ (l : List Int) (s : List (List Int) × List Int), (l.foldl (pstep b) s).1.flatten ++ (l.foldl (pstep b) s).2 = s.1.flatten ++ s.2 ++ l by
    simpa [pfold] using h l ([], [])
  intro l
  induction l with
  | nil => intro s; simp
  | cons x l ih =>
    intro s
    rw [List.foldl_cons, ih]
    unfold pstep
    split <;> simp
theorem flatten_len_le {α : Type} (x : List α) : ∀ xss : List (List α), x ∈ xss → x.length ≤ xss.flatten.length
  | a :: r, h => by
    rw [List.flatten_cons, List.length_append]
    rcases List.mem_cons.mp h with e | e
    · subst e; omega
    · have := flatten_len_le x r e; omega
theorem parted_flat_len (row : List Int) (number : Int) : (partedL row number).flatten.length ≤ row.length := by
  have := congrArg List.length (pfold_flat (sideOf row number) row)
  rw [List.length_append] at this
  unfold partedL
  omega
theorem rotR_len (xs : List Int) : (rotR xs).length = xs.length := by unfold rotR; rw [List.length_append, List.length_drop, List.length_take]; omega
theorem rotL_len (xs : List Int) : (rotL xs).length = xs.length := by unfold rotL; rw [List.length_append, List.length_drop, List.length_take]; omega
theorem flat_map_len (f : List Int → List Int) (hf : ∀ xs, (f xs).length = xs.length) : ∀ xss : List (List Int), ((xss.map f).flatten).length = xss.flatten.length
  | [] => rfl
  | a :: r => by simp only [List.map_cons, List.flatten_cons, List.length_append, hf, flat_map_len f hf r]
theorem exRow_len (row : List Int) (number : Int) : (exRow row number).length ≤ row.length := by
  unfold exRow
  split
  · rw [flat_map_len _ rotR_len]; exact parted_flat_len row number
  · simp
theorem exL_len (l : List Int) : (exL l).length ≤ l.length := by
  suffices h : ∀ (l : List Int) (r : List Int), (l.foldl exStep r).length ≤ r.length + l.length by simpa [exL] using h l []
  intro l
  induction l with
  | nil => intro r; simp
  | cons x l ih =>
    intro r
    have h1 := ih (exStep r x)
    have h2 := exRow_len r x
    have h3 : (exStep r x).length = (exRow r x).length + 1 := by simp [exStep]
    rw [List.foldl_cons, List.length_cons]
    omega
theorem exL_snoc (l : List Int) (x : Int) : exL (l ++ [x]) = exStep (exL l) x := by simp [exL, List.foldl_append]
/-! ### cuts -/
theorem cut_last (xs : List V) : cutV xs (some (-1)) none = xs.drop (xs.length - 1) := by
  unfold cutV
  have e : HT.sIx xs.length 0 (some (-1)) = xs.length - 1 := by
    unfold HT.sIx
    simp only []
    split <;> omega
  rw [e, HT.sIx_none, List.take_of_length_le (by simp)]
theorem cut_init (xs : List V) : cutV xs none (some (-1)) = xs.take (xs.length - 1) := by
  unfold cutV
  have e : HT.sIx xs.length xs.length (some (-1)) = xs.length - 1 := by
    unfold HT.sIx
    simp only []
    split <;> omega
  rw [e, HT.sIx_none, List.drop_zero, Nat.sub_zero]
theorem cut_to (xs : List V) (k : Nat) : cutV xs none (some (k : Int)) = xs.take k := by
  unfold cutV
  rw [HT.sIx_nat, HT.sIx_none, List.drop_zero, Nat.sub_zero]
  by_cases h : k ≤ xs.length
  · rw [Nat.min_eq_left h]
  · rw [Nat.min_eq_right (by omega), List.take_of_length_le (Nat.le_refl _), List.take_of_length_le (by omega)]
theorem cut_mid (xs : List V) (i j : Nat) (hj : j ≤ xs.length) : cutV xs (some (i : Int)) (some (j : Int)) = (xs.take j).drop i := by
  unfold cutV
  rw [HT.sIx_nat, HT.sIx_nat, Nat.min_eq_left hj, List.drop_take]
  by_cases h : i ≤ xs.length
  · rw [Nat.min_eq_left h]
  · rw [Nat.min_eq_right (by omega)]
    rw [List.drop_eq_nil_of_le (Nat.le_refl _), List.drop_eq_nil_of_le (by omega : xs.length ≤ i)]
    simp
/-! ### a list of lists, each of its own -/
structure Own2 (H0 H : Hp) (qs : List Addr) (xss : List (List Int)) : Prop where
  at_ : Paired (fun q xs => H q = some (.lst (xs.map V.int))) qs xss
  nd : qs.Nodup
  new : ∀ q ∈ qs, H0 q = none
theorem paired_snoc {α β : Type} {R : α → β → Prop} : ∀ {xs : List α} {ys : List β} {x : α} {y : β}, Paired R xs ys → R x y → Paired R (xs ++ [x]) (ys ++ [y])
  | _, _, _, _, .nil, r => .cons r .nil
  | _, _, _, _, .cons a t, r => .cons a (paired_snoc t r)
theorem paired_imp {α β : Type} {R S : α → β → Prop} : ∀ {xs : List α} {ys : List β}, Paired R xs ys → (∀ x y, x ∈ xs → R x y → S x y) → Paired S xs ys
  | _, _, .nil, _ => .nil
  | _, _, .cons a t, f => .cons (f _ _ (by simp) a) (paired_imp t fun x y hx r => f x y (by simp [hx]) r)
theorem paired_get {α β : Type} {R : α → β → Prop} : ∀ {xs : List α} {ys : List β} {i : Nat} {x : α}, Paired R xs ys → xs[i]? = some x → ∃ y, ys[i]? = some y ∧ R x y
  | _, _, _, _, .nil, h => by simp at h
  | _, _, 0, _, .cons r _, h => by simp at h; subst h; exact ⟨_, rfl, r⟩
  | _, _, i + 1, x, .cons _ t, h => by
    obtain ⟨y, h1, h2⟩ := paired_get (i := i) (x := x) t (by simpa using h)
    exact ⟨y, by simpa using h1, h2⟩
theorem paired_len {α β : Type} {R : α → β → Prop} : ∀ {xs : List α} {ys : List β}, Paired R xs ys → xs.length = ys.length
  | _, _, .nil => rfl
  | _, _, .cons _ t => by simp [paired_len t]
theorem paired_at {α β : Type} {R : α → β → Prop} : ∀ {xs : List α} {ys : List β} {x : α}, Paired R xs ys → x ∈ xs → ∃ y, R x y
  | _, _, _, .nil, h => by simp at h
  | _, _, x, .cons r t, h => by
    rcases List.mem_cons.mp h with e | e
    · subst e; exact ⟨_, r⟩
    · exact paired_at t e
theorem Own2.mut {H0 H : Hp} {qs : List Addr} {xss : List (List Int)} {r : Addr} {o : HO} (h : Own2 H0 H qs xss) (hr : r ∉ qs) : Own2 H0 (upd H r o) qs xss :=
  ⟨paired_imp h.at_ fun q xs hq e => by rw [upd_ne (fun z : q = r => hr (z ▸ hq))]; exact e, h.nd, h.new⟩
theorem Own2.same {H0 H H' : Hp} {qs : List Addr} {xss : List (List Int)} (h : Own2 H0 H qs xss) (s : Same H H') : Own2 H0 H' qs xss :=
  ⟨paired_imp h.at_ fun q xs hq e => s _ _ e, h.nd, h.new⟩
theorem Own2.there {H0 H : Hp} {qs : List Addr} {xss : List (List Int)} (h : Own2 H0 H qs xss) {r : Addr} (hr : H r = none) : r ∉ qs := fun z => by
  obtain ⟨y, e⟩ := paired_at h.at_ z
  rw [hr] at e; cases e
theorem Own2.snoc {H0 H : Hp} {qs : List Addr} {xss : List (List Int)} {r : Addr} {xs : List Int} (h : Own2 H0 H qs xss) (hr : r ∉ qs) (h0 : H0 r = none) (e : H r = some (.lst (xs.map V.int))) : Own2 H0 H (qs ++ [r]) (xss ++ [xs]) :=
  ⟨paired_snoc h.at_ e, by
    rw [List.nodup_append]
    refine ⟨h.nd, by simp, fun a ha b hb z => hr ?_⟩
    have hb' : b = r := by simpa using hb
    rw [← hb', ← z]; exact ha, fun q hq => by
    rcases List.mem_append.mp hq with z | z
    · exact h.new q z
    · have hz : q = r := by simpa using z
      rw [hz]; exact h0⟩
theorem snoc_ind {α : Type} {P : List α → Prop} (h0 : P []) (h : ∀ l x, P l → P (l ++ [x])) : ∀ l, P l := by
  intro l
  rw [← List.reverse_reverse l]
  induction l.reverse with
  | nil => exact h0
  | cons a r ih => rw [List.reverse_cons]; exact h _ _ ih
theorem pfold_cur_len (b : Int → Bool) (l : List Int) : (pfold b l).2.length ≤ l.length := by
  have := congrArg List.length (pfold_flat b l)
  rw [List.length_append] at this; omega
theorem pfold_ne (b : Int → Bool) : ∀ l : List Int, ∀ p ∈ (pfold b l).1, p ≠ [] := by
  refine snoc_ind ?_ ?_
  · intro p hp; simp [pfold] at hp
  · intro l x ih p hp
    rw [pfold_snoc] at hp
    unfold pstep at hp
    split at hp
    · rcases List.mem_append.mp hp with z | z
      · exact ih p z
      · have hz : p = (pfold b l).2 ++ [x] := by simpa using z
        subst hz; simp
    · exact ih p hp
theorem pfold_count (b : Int → Bool) (l : List Int) : (pfold b l).1.length ≤ l.length := by
  have h : ∀ xss : List (List Int), (∀ p ∈ xss, p ≠ []) → xss.length ≤ xss.flatten.length := by
    intro xss
    induction xss with
    | nil => intro _; simp
    | cons a r ih =>
      intro hh
      have h1 := ih fun p hp => hh p (by simp [hp])
      have h2 : 0 < a.length := by
        have := hh a (by simp)
        exact List.length_pos_iff.mpr this
      simp only [List.length_cons, List.flatten_cons, List.length_append]; omega
  have h1 := h _ (pfold_ne b l)
  have := congrArg List.length (pfold_flat b l)
  rw [List.length_append] at this; omega
theorem drop_of_append {α : Type} {a b l : List α} (h : a ++ b = l) : l.drop a.length = b := by rw [← h, List.drop_left]
end Sh

set_option Elab.async false
set_option linter.all false
set_option maxRecDepth 100000
set_option maxHeartbeats 4000000
/-! M10: all shapes of a size: plain Lean. -/
namespace Sh
open PySem PySem.Spec PyProof.Rows L2
def insAt (k : Nat) (row : List Int) (p : Nat) : List Int := row.take p ++ [(k : Int)] ++ row.drop p
def insAll (k : Nat) (row : List Int) : List (List Int) := (List.range (k + 1)).map (insAt k row)
def allU : Nat → List (List Int)
  | 0 => [[]]
  | k + 1 => ((allU k).map (insAll k)).flatten
theorem allU_len : ∀ k, k ≤ 6 → (allU k).length ≤ 720 := by decide +kernel
theorem insAt_len (k : Nat) (row : List Int) (p : Nat) : (insAt k row p).length = row.length + 1 := by
  unfold insAt
  rw [List.length_append, List.length_append, List.length_take, List.length_drop, List.length_singleton]; omega
theorem allU_mem : ∀ (k : Nat) (x : List Int), x ∈ allU k → x.length = k
  | 0, x, h => by have : x = [] := by simpa [allU] using h
                  subst this; rfl
  | k + 1, x, h => by
    rw [allU] at h
    obtain ⟨l, hl, hx⟩ := List.mem_flatten.mp h
    obtain ⟨r, hr, rfl⟩ := List.mem_map.mp hl
    obtain ⟨p, hp, rfl⟩ := List.mem_map.mp hx
    rw [insAt_len, allU_mem k r hr]
theorem flat_prefix_len {α β : Type} (f : α → List β) (l : List α) (i : Nat) : (((l.take i).map f).flatten).length ≤ ((l.map f).flatten).length := by
  conv => rhs; rw [← List.take_append_drop i l]
  rw [List.map_append, List.flatten_append, List.length_append]; omega
/-! ### lists of lists, by address and ints -/
def LLs (H : Hp) (bs : List (Addr × List Int)) : Prop := ∀ b ∈ bs, H b.1 = some (.lst (b.2.map V.int))
theorem LLs.same {H H' : Hp} {bs : List (Addr × List Int)} (h : LLs H bs) (s : Same H H') : LLs H' bs := fun b hb => s _ _ (h b hb)
theorem LLs.mut {H : Hp} {bs : List (Addr × List Int)} {r : Addr} {o : HO} (h : LLs H bs) (hr : ∀ b ∈ bs, b.1 ≠ r) : LLs (upd H r o) bs := fun b hb => by rw [upd_ne (hr b hb)]; exact h b hb
theorem LLs.snoc {H : Hp} {bs : List (Addr × List Int)} {r : Addr} {xs : List Int} (h : LLs H bs) (e : H r = some (.lst (xs.map V.int))) : LLs H (bs ++ [(r, xs)]) := fun b hb => by
  rcases List.mem_append.mp hb with z | z
  · exact h b z
  · have e2 : b = (r, xs) := by simpa using z
    subst e2; exact e
theorem LLs.ne {H : Hp} {bs : List (Addr × List Int)} {r : Addr} (h : LLs H bs) (hr : H r = none) : ∀ b ∈ bs, b.1 ≠ r := fun b hb z => by
  have := h b hb
  rw [z, hr] at this; cases this
theorem LLs.dp {K : PySem.W.Frag} {H : Hp} {bs : List (Addr × List Int)} (h : LLs H bs) : DpAll K H (bs.map fun b => V.ref b.1) ((bs.map Prod.snd).map dInts) := by
  induction bs with
  | nil => exact .nil
  | cons b bs ih => exact .cons (dp_ints (SqL.of (h b (by simp)))) (ih fun c hc => h c (by simp [hc]))
theorem dp_LLs {K : PySem.W.Frag} {H : Hp} {a : Addr} {bs : List (Addr × List Int)} (h : LLs H bs) (hs : SqL K H a (bs.map fun b => V.ref b.1)) : Dp K H (.ref a) (dLL (bs.map Prod.snd)) := .lst hs h.dp
theorem snd_get {bs : List (Addr × List Int)} {xss : List (List Int)} (e : bs.map Prod.snd = xss) {i : Nat} {b : Addr × List Int} (h : bs[i]? = some b) : xss[i]? = some b.2 := by
  rw [← e, List.getElem?_map, h]; rfl
end Sh

set_option Elab.async false
set_option linter.all false
set_option maxRecDepth 100000
set_option maxHeartbeats 4000000
/-! M8: how many shapes have so many falls, so many wrong pairs: rows, plain Lean. -/
namespace Sh
open PySem PySem.Spec PyProof.Rows L2
def fcell (k : Nat) (row : List Int) (j : Nat) : Int := ((j : Int) + 1) * (row ++ [0]).getD j 0 + ((k : Int) - (j : Int)) * (if 0 < j then (row ++ [0]).getD (j - 1) 0 else 0)
def fstep (k : Nat) (row : List Int) : List Int := (List.range (row.length + 1)).map (fcell k row)
def frow : Nat → List Int
  | 0 => [1]
  | n + 1 => fstep (n + 2) (frow n)
theorem fstep_len (k : Nat) (row : List Int) : (fstep k row).length = row.length + 1 := by simp [fstep]
theorem frow_len : ∀ n, (frow n).length = n + 1
  | 0 => rfl
  | n + 1 => by rw [frow, fstep_len, frow_len n]
/-- row's j-th number put in from place j on, k times -/
def wadd (row : List Int) (j : Nat) : Nat → List Int → List Int
  | 0, l => l
  | s + 1, l => let l' := wadd row j s l; l'.set (j + s) (l'.getD (j + s) 0 + row.getD j 0)
def wrows (row : List Int) (k : Nat) : Nat → List Int
  | 0 => List.replicate (row.length + k - 1) 0
  | j + 1 => wadd row j k (wrows row k j)
def wstep (k : Nat) (row : List Int) : List Int := wrows row k row.length
theorem wadd_len (row : List Int) (j : Nat) (l : List Int) : ∀ s, (wadd row j s l).length = l.length
  | 0 => rfl
  | s + 1 => by simp only [wadd, List.length_set]; exact wadd_len row j l s
theorem wrows_len (row : List Int) (k : Nat) : ∀ j, (wrows row k j).length = row.length + k - 1
  | 0 => by simp [wrows]
  | j + 1 => by rw [wrows, wadd_len, wrows_len row k j]
theorem getD_set (l : List Int) (i j : Nat) (x : Int) : (l.set i x).getD j 0 = if i = j ∧ i < l.length then x else l.getD j 0 := by
  simp only [List.getD_eq_getElem?_getD, List.getElem?_set]
  by_cases e : i = j
  · subst e
    by_cases h : i < l.length
    · simp [h]
    · simp [h]
  · simp [e]
theorem wadd_get (row : List Int) (j : Nat) (l : List Int) (p : Nat) : ∀ s, j + s ≤ l.length → (wadd row j s l).getD p 0 = l.getD p 0 + if j ≤ p ∧ p < j + s then row.getD j 0 else 0
  | 0, _ => by rw [if_neg (by omega)]; simp [wadd]
  | s + 1, h => by
    have ih := wadd_get row j l p s (by omega)
    have ih2 := wadd_get row j l (j + s) s (by omega)
    simp only [wadd]
    rw [getD_set, wadd_len, ih2]
    rw [if_neg (show ¬ (j ≤ j + s ∧ j + s < j + s) by omega)]
    by_cases e : j + s = p
    · subst e
      rw [if_pos ⟨rfl, by omega⟩, if_pos (by omega)]; omega
    · rw [if_neg (by omega), ih]
      by_cases c : j ≤ p ∧ p < j + s
      · rw [if_pos c, if_pos (by omega)]
      · rw [if_neg c, if_neg (by omega)]
def wsum (row : List Int) (k p : Nat) : Nat → Int
  | 0 => 0
  | j + 1 => wsum row k p j + if j ≤ p ∧ p < j + k then row.getD j 0 else 0
theorem wrows_get (row : List Int) (k p : Nat) (hk : 0 < k) : ∀ j, j ≤ row.length → (wrows row k j).getD p 0 = wsum row k p j
  | 0, _ => by
    simp only [wrows, wsum, List.getD_eq_getElem?_getD, List.getElem?_replicate]
    split <;> rfl
  | j + 1, h => by
    rw [wrows, wsum, wadd_get _ _ _ _ _ (by rw [wrows_len]; omega), wrows_get row k p hk j (by omega)]
def wrow : Nat → List Int
  | 0 => [1]
  | n + 1 => wstep (n + 2) (wrow n)
def tri : Nat → Nat
  | 0 => 0
  | n + 1 => tri n + (n + 1)
theorem wrow_len : ∀ n, (wrow n).length = tri n + 1
  | 0 => rfl
  | n + 1 => by rw [wrow, wstep, wrows_len, wrow_len n, tri]; omega
theorem tri_le : ∀ n, n ≤ 19 → tri n ≤ 190 := by decide
end Sh

set_option Elab.async false
set_option linter.all false
set_option maxRecDepth 100000
set_option maxHeartbeats 4000000
/-! M9: what the rows of counts keep: plain Lean. -/
namespace Sh
open PySem PySem.Spec PyProof.Rows L2
theorem getD_beyond {l : List Int} {i : Nat} (h : l.length ≤ i) : l.getD i 0 = 0 := by
  rw [List.getD_eq_getElem?_getD, List.getElem?_eq_none h]; rfl
theorem getD_map_range {n i : Nat} (f : Nat → Int) (h : i < n) : ((List.range n).map f).getD i 0 = f i := by
  rw [List.getD_eq_getElem?_getD, List.getElem?_map, List.getElem?_range h]; rfl
theorem getD_snoc0 (l : List Int) (i : Nat) : (l ++ [0]).getD i 0 = l.getD i 0 := by
  simp only [List.getD_eq_getElem?_getD]
  by_cases h : i < l.length
  · rw [List.getElem?_append_left h]
  · rw [List.getElem?_append_right (by omega), List.getElem?_eq_none (by omega : l.length ≤ i)]
    by_cases e : i = l.length
    · subst e; simp
    · rw [List.getElem?_eq_none (by simp; omega)]
theorem pal_get {l : List Int} (h : l = l.reverse) {i : Nat} (hi : i < l.length) : l.getD (l.length - 1 - i) 0 = l.getD i 0 := by
  simp only [List.getD_eq_getElem?_getD]
  conv => rhs; rw [h]
  rw [List.getElem?_reverse hi]
theorem sum_getD (l : List Int) : ((List.range l.length).map fun i => l.getD i 0).sum = l.sum := by rw [map_getD]
def factI : Nat → Int
  | 0 => 1
  | n + 1 => factI n * ((n : Int) + 1)
/-! ### falls -/
theorem frow_pal : ∀ n, n < 20 → frow n = (frow n).reverse := by decide +kernel
theorem frow_sum : ∀ n, n < 20 → (frow n).sum = factI (n + 1) := by decide +kernel
theorem frow_step (n w : Nat) : (frow (n + 1)).getD w 0 = ((w : Int) + 1) * (frow n).getD w 0 + (if 0 < w then ((n : Int) + 2 - w) * (frow n).getD (w - 1) 0 else 0) := by
  have hl := frow_len n
  have hl2 := frow_len (n + 1)
  by_cases h : w < n + 2
  · rw [frow, fstep, getD_map_range _ (by omega), fcell, getD_snoc0, getD_snoc0]
    congr 1
    by_cases c : 0 < w
    · rw [if_pos c, if_pos c]; rfl
    · rw [if_neg c, if_neg c, Int.mul_zero]
  · rw [getD_beyond (by omega), getD_beyond (by omega), getD_beyond (by omega), Int.mul_zero, Int.mul_zero]
    split <;> rfl
/-! ### wrong pairs -/
def addL : List Int → List Int → List Int
  | [], b => b
  | a :: r, [] => a :: r
  | a :: r, b :: s => (a + b) :: addL r s
theorem addL_get : ∀ (a b : List Int) (i : Nat), (addL a b).getD i 0 = a.getD i 0 + b.getD i 0
  | [], b, i => by simp [addL]
  | a :: r, [], i => by simp [addL]
  | a :: r, b :: s, 0 => by simp [addL]
  | a :: r, b :: s, i + 1 => by
    have := addL_get r s i
    simpa [addL] using this
def vconv (row : List Int) : Nat → List Int
  | 0 => []
  | s + 1 => addL row (0 :: vconv row s)
def below (row : List Int) (k p : Nat) : Int := ((List.range (min k (p + 1))).map fun t => row.getD (p - t) 0).sum
theorem vconv_get (row : List Int) : ∀ (s p : Nat), (vconv row s).getD p 0 = below row s p
  | 0, p => by simp [vconv, below]
  | s + 1, 0 => by
    have e : min (s + 1) (0 + 1) = 1 := by omega
    rw [vconv, addL_get, below, e]; simp
  | s + 1, p + 1 => by
    have ih := vconv_get row s p
    have e : min (s + 1) (p + 1 + 1) = min s (p + 1) + 1 := by omega
    rw [vconv, addL_get, below, e, List.range_succ_eq_map, List.map_cons, List.sum_cons, List.map_map]
    have e2 : (0 :: vconv row s).getD (p + 1) 0 = (vconv row s).getD p 0 := by simp
    rw [e2, ih, below]
    congr 1
    congr 1
    refine List.map_congr_left fun t _ => ?_
    simp only [Function.comp]
    congr 1
    omega
theorem wsum_succ (row : List Int) (k p : Nat) : ∀ J, wsum row (k + 1) p J = wsum row k p J + if k ≤ p ∧ p - k < J then row.getD (p - k) 0 else 0
  | 0 => by rw [if_neg (by omega)]; rfl
  | J + 1 => by
    have ih := wsum_succ row k p J
    simp only [wsum, ih]
    by_cases e : p = J + k
    · subst e
      have e2 : J + k - k = J := by omega
      rw [e2, if_neg (show ¬ (k ≤ J + k ∧ J < J) by omega), if_pos (show J ≤ J + k ∧ J + k < J + (k + 1) by omega), if_neg (show ¬ (J ≤ J + k ∧ J + k < J + k) by omega), if_pos (show k ≤ J + k ∧ J < J + 1 by omega)]
    · by_cases c : J ≤ p ∧ p < J + k
      · rw [if_pos c, if_pos (show J ≤ p ∧ p < J + (k + 1) by omega)]
        by_cases d : k ≤ p ∧ p - k < J
        · rw [if_pos d, if_pos (show k ≤ p ∧ p - k < J + 1 by omega)]; omega
        · rw [if_neg d, if_neg (show ¬ (k ≤ p ∧ p - k < J + 1) by omega)]; omega
      · rw [if_neg c, if_neg (show ¬ (J ≤ p ∧ p < J + (k + 1)) by omega)]
        by_cases d : k ≤ p ∧ p - k < J
        · rw [if_pos d, if_pos (show k ≤ p ∧ p - k < J + 1 by omega)]; omega
        · rw [if_neg d, if_neg (show ¬ (k ≤ p ∧ p - k < J + 1) by omega)]
theorem wsum_zero (row : List Int) (p : Nat) : ∀ J, wsum row 0 p J = 0
  | 0 => rfl
  | J + 1 => by rw [wsum, wsum_zero row p J, if_neg (by omega)]; rfl
theorem below_succ (row : List Int) (k p : Nat) : below row (k + 1) p = below row k p + if k ≤ p then row.getD (p - k) 0 else 0 := by
  unfold below
  by_cases c : k ≤ p
  · have e1 : min (k + 1) (p + 1) = k + 1 := by omega
    have e2 : min k (p + 1) = k := by omega
    rw [e1, e2, if_pos c, List.range_succ, List.map_append, List.sum_append]
    simp
  · have e1 : min (k + 1) (p + 1) = p + 1 := by omega
    have e2 : min k (p + 1) = p + 1 := by omega
    rw [e1, e2, if_neg c, Int.add_zero]
theorem wsum_below (row : List Int) (p : Nat) : ∀ k, wsum row k p row.length = below row k p
  | 0 => by rw [wsum_zero]; simp [below]
  | k + 1 => by
    rw [wsum_succ, wsum_below row p k, below_succ]
    congr 1
    by_cases c : k ≤ p
    · rw [if_pos c]
      by_cases d : p - k < row.length
      · rw [if_pos ⟨c, d⟩]
      · rw [if_neg (by omega), getD_beyond (by omega)]
    · rw [if_neg c, if_neg (by omega)]
theorem wrow_step (n p : Nat) : (wrow (n + 1)).getD p 0 = below (wrow n) (n + 2) p := by
  rw [wrow, wstep, wrows_get _ _ _ (by omega) _ (Nat.le_refl _), wsum_below]
def vrow : Nat → List Int
  | 0 => [1]
  | n + 1 => vconv (vrow n) (n + 2)
theorem below_congr {a b : List Int} (h : ∀ i, a.getD i 0 = b.getD i 0) (k p : Nat) : below a k p = below b k p := by
  unfold below
  congr 1
  exact List.map_congr_left fun t _ => h _
theorem wrow_vrow : ∀ n p, (wrow n).getD p 0 = (vrow n).getD p 0
  | 0, _ => rfl
  | n + 1, p => by rw [wrow_step, vrow, vconv_get, below_congr (wrow_vrow n)]
theorem vrow_pal : ∀ n, n < 20 → vrow n = (vrow n).reverse ∧ (vrow n).length = tri n + 1 := by decide +kernel
theorem wrow_pal {n p : Nat} (h : n < 20) (hp : p ≤ tri n) : (wrow n).getD (tri n - p) 0 = (wrow n).getD p 0 := by
  obtain ⟨h1, h2⟩ := vrow_pal n h
  rw [wrow_vrow, wrow_vrow]
  have := pal_get h1 (i := p) (by omega)
  rw [h2] at this
  rwa [show tri n + 1 - 1 - p = tri n - p by omega] at this
theorem tri_eq : ∀ n : Nat, 2 * tri n = n * (n + 1)
  | 0 => rfl
  | n + 1 => by
    have ih := tri_eq n
    have e : (n + 1) * (n + 1 + 1) = n * (n + 1) + 2 * (n + 1) := by
      rw [show n + 1 + 1 = n + 2 from rfl, Nat.mul_add, Nat.mul_comm (n + 1) n]
      omega
    rw [tri, e]; omega
theorem frow_pal_get {n w : Nat} (h : n < 20) (hw : w ≤ n) : (frow n).getD (n - w) 0 = (frow n).getD w 0 := by
  have := pal_get (frow_pal n h) (i := w) (by rw [frow_len]; omega)
  rw [frow_len] at this
  rwa [show n + 1 - 1 - w = n - w by omega] at this
end Sh

set_option Elab.async false
set_option linter.all false
set_option maxRecDepth 100000
set_option maxHeartbeats 4000000
/-! M7: exchanged and back, and what becomes of the wrong pairs: plain Lean. -/
namespace Sh
open PySem PySem.Spec PyProof.Rows L2
def good (b : Int → Bool) (p : List Int) : Prop := ∃ u z, p = u ++ [z] ∧ b z = true ∧ ∀ y ∈ u, b y = false
theorem pfold_run (b : Int → Bool) : ∀ (u : List Int), (∀ y ∈ u, b y = false) → ∀ s : List (List Int) × List Int, u.foldl (pstep b) s = (s.1, s.2 ++ u)
  | [], _, s => by simp
  | y :: u, h, s => by
    have hy : pstep b s y = (s.1, s.2 ++ [y]) := by
      unfold pstep; rw [if_neg]; rw [h y (by simp)]; simp
    rw [List.foldl_cons, hy, pfold_run b u (fun z hz => h z (by simp [hz]))]
    simp
theorem foldl_good (b : Int → Bool) : ∀ (ps : List (List Int)), (∀ p ∈ ps, good b p) → ∀ s, ps.flatten.foldl (pstep b) (s, []) = (s ++ ps, [])
  | [], _, s => by simp
  | p :: ps, h, s => by
    obtain ⟨u, z, rfl, hz, hu⟩ := h p (by simp)
    rw [List.flatten_cons, List.foldl_append, List.foldl_append, pfold_run b u hu]
    have e : List.foldl (pstep b) (s, [] ++ u) [z] = (s ++ [u ++ [z]], []) := by
      simp [pstep, hz]
    rw [show ((s, ([] : List Int)).1, (s, ([] : List Int)).2 ++ u) = (s, [] ++ u) from rfl, e, foldl_good b ps (fun q hq => h q (by simp [hq]))]
    simp
theorem pfold_of_good {b : Int → Bool} {ps : List (List Int)} (h : ∀ p ∈ ps, good b p) : pfold b ps.flatten = (ps, []) := by
  unfold pfold
  rw [foldl_good b ps h]
  simp
theorem pfold_good (b : Int → Bool) : ∀ l : List Int, (∀ p ∈ (pfold b l).1, good b p) ∧ ∀ y ∈ (pfold b l).2, b y = false := by
  refine snoc_ind ?_ ?_
  · exact ⟨fun p hp => by simp [pfold] at hp, fun y hy => by simp [pfold] at hy⟩
  · intro l x ih
    rw [pfold_snoc]
    unfold pstep
    by_cases hb : b x = true
    · rw [if_pos hb]
      refine ⟨fun p hp => ?_, fun y hy => by simp at hy⟩
      rcases List.mem_append.mp hp with z | z
      · exact ih.1 p z
      · have e : p = (pfold b l).2 ++ [x] := by simpa using z
        exact ⟨_, x, e, hb, ih.2⟩
    · rw [if_neg hb]
      refine ⟨ih.1, fun y hy => ?_⟩
      rcases List.mem_append.mp hy with z | z
      · exact ih.2 y z
      · have e : y = x := by simpa using z
        rw [e]; simpa using hb
theorem parted_spec {row : List Int} {x : Int} (h : 0 < row.length) : (partedL row x).flatten = row ∧ ∀ p ∈ partedL row x, good (sideOf row x) p := by
  refine ⟨?_, (pfold_good (sideOf row x) row).1⟩
  obtain ⟨r, z, rfl⟩ : ∃ r z, row = r ++ [z] := ⟨row.dropLast, row.getLast (by intro e; simp [e] at h), (List.dropLast_concat_getLast _).symm⟩
  have hz : sideOf (r ++ [z]) x z = true := by unfold sideOf; rw [List.getLastD_concat]; simp
  have e := pfold_flat (sideOf (r ++ [z]) x) (r ++ [z])
  have e2 : (pfold (sideOf (r ++ [z]) x) (r ++ [z])).2 = [] := by
    rw [pfold_snoc]; unfold pstep; rw [if_pos hz]
  rw [e2, List.append_nil] at e
  exact e
theorem rotR_snoc (u : List Int) (z : Int) : rotR (u ++ [z]) = z :: u := by
  unfold rotR
  simp
theorem rotL_cons (u : List Int) (z : Int) : rotL (z :: u) = u ++ [z] := by
  unfold rotL
  simp
theorem rotR_perm (p : List Int) : (rotR p).Perm p := by
  unfold rotR
  refine List.perm_append_comm.trans ?_
  rw [List.take_append_drop]
def bkRow (row : List Int) (x : Int) : List Int := if 0 < row.length then ((partedL row.reverse x).reverse.map fun p => rotL p.reverse).flatten else []
theorem side_of {row row' : List Int} {x : Int} (h : sideOf row x (row'.getLastD 0) = true) : sideOf row' x = sideOf row x := by
  funext y
  unfold sideOf at h ⊢
  have h' := of_decide_eq_true h
  rw [h']
theorem exRow_bk {row : List Int} {x : Int} (h : 0 < row.length) : bkRow (exRow row x) x = row := by
  obtain ⟨hf, hg⟩ := parted_spec (x := x) h
  have el : (exRow row x).length = row.length := by
    unfold exRow; rw [if_pos h, flat_map_len _ rotR_len, hf]
  have ee : exRow row x = ((partedL row x).map rotR).flatten := by unfold exRow; rw [if_pos h]
  have hr : (exRow row x).reverse = (((partedL row x).map rotR).map List.reverse).reverse.flatten := by
    rw [ee, List.reverse_flatten]
  have hs : sideOf (exRow row x).reverse x = sideOf row x := by
    apply side_of
    rw [ee]
    cases hp : partedL row x with
    | nil => rw [hp] at hf; rw [← hf] at h; simp at h
    | cons p ps =>
      obtain ⟨u, z, rfl, hz, _⟩ := hg p (by rw [hp]; simp)
      rw [List.map_cons, rotR_snoc, List.flatten_cons]
      have : ((z :: u) ++ (ps.map rotR).flatten).reverse = (u ++ (ps.map rotR).flatten).reverse ++ [z] := by simp
      rw [this, List.getLastD_concat]
      exact hz
  have hq : ∀ q ∈ (((partedL row x).map rotR).map List.reverse).reverse, good (sideOf row x) q := by
    intro q hq
    rw [List.mem_reverse, List.map_map] at hq
    obtain ⟨p, hp, rfl⟩ := List.mem_map.mp hq
    obtain ⟨u, z, rfl, hz, hu⟩ := hg p hp
    refine ⟨u.reverse, z, ?_, hz, fun y hy => hu y (List.mem_reverse.mp hy)⟩
    simp only [Function.comp, rotR_snoc, List.reverse_cons]
  have hP : partedL (exRow row x).reverse x = (((partedL row x).map rotR).map List.reverse).reverse := by
    show (pfold (sideOf (exRow row x).reverse x) (exRow row x).reverse).1 = _
    rw [hs, hr, pfold_of_good hq]
  unfold bkRow
  rw [if_pos (by omega), hP, List.reverse_reverse, List.map_map, List.map_map]
  conv => rhs; rw [← hf]
  congr 1
  conv => rhs; rw [← List.map_id (partedL row x)]
  refine List.map_congr_left fun p hp => ?_
  obtain ⟨u, z, rfl, hz, hu⟩ := hg p hp
  simp only [Function.comp, rotR_snoc, List.reverse_reverse, rotL_cons, id]
theorem rot_rev {b : Int → Bool} {p : List Int} (h : good b p) : rotR (rotL p.reverse) = p.reverse ∧ good b (rotL p.reverse) := by
  obtain ⟨u, z, rfl, hz, hu⟩ := h
  rw [List.reverse_append, List.reverse_singleton, List.singleton_append, rotL_cons, rotR_snoc]
  exact ⟨rfl, _, _, rfl, hz, fun y hy => hu y (List.mem_reverse.mp hy)⟩
theorem bkRow_len {row : List Int} {x : Int} : (bkRow row x).length = row.length := by
  unfold bkRow
  by_cases h : 0 < row.length
  · obtain ⟨hf, hg⟩ := parted_spec (row := row.reverse) (x := x) (by rw [List.length_reverse]; exact h)
    rw [if_pos h, flat_map_len (fun p => rotL p.reverse) (fun p => by rw [rotL_len, List.length_reverse])]
    have e := congrArg List.length hf
    rw [List.length_reverse] at e
    rw [← e]
    have : ∀ l : List (List Int), l.reverse.flatten.length = l.flatten.length := fun l => by
      rw [List.length_flatten, List.length_flatten, List.map_reverse, List.sum_reverse]
    exact this _
  · rw [if_neg h]; simp; omega
theorem bkRow_ex {row : List Int} {x : Int} (h : 0 < row.length) : exRow (bkRow row x) x = row := by
  have hlen : (bkRow row x).length = row.length := bkRow_len
  obtain ⟨hf, hg⟩ := parted_spec (row := row.reverse) (x := x) (by rw [List.length_reverse]; exact h)
  have ee : bkRow row x = ((partedL row.reverse x).reverse.map fun p => rotL p.reverse).flatten := by unfold bkRow; rw [if_pos h]
  have hq : ∀ q ∈ (partedL row.reverse x).reverse.map (fun p => rotL p.reverse), good (sideOf row.reverse x) q := by
    intro q hq
    obtain ⟨p, hp, rfl⟩ := List.mem_map.mp hq
    exact (rot_rev (hg p (List.mem_reverse.mp hp))).2
  have hs : sideOf (bkRow row x) x = sideOf row.reverse x := by
    apply side_of
    rw [ee]
    cases hp : partedL row.reverse x with
    | nil => 
      rw [hp] at hf
      have := congrArg List.length hf
      simp at this; omega
    | cons p ps =>
      obtain ⟨u, z, rfl, hz, _⟩ := hg p (by rw [hp]; simp)
      have : (((u ++ [z]) :: ps).reverse.map fun p => rotL p.reverse).flatten = ((ps.reverse.map fun p => rotL p.reverse).flatten ++ u.reverse) ++ [z] := by
        rw [List.reverse_cons, List.map_append, List.flatten_append]
        simp [rotL_cons]
      rw [this, List.getLastD_concat]
      exact hz
  have hP : partedL (bkRow row x) x = (partedL row.reverse x).reverse.map fun p => rotL p.reverse := by
    show (pfold (sideOf (bkRow row x) x) (bkRow row x)).1 = _
    rw [hs, ee, pfold_of_good hq]
  unfold exRow
  rw [if_pos (by omega), hP, List.map_map]
  have e3 : (partedL row.reverse x).reverse.map (rotR ∘ fun p => rotL p.reverse) = (partedL row.reverse x).reverse.map List.reverse := by
    refine List.map_congr_left fun p hp => ?_
    exact (rot_rev (hg p (List.mem_reverse.mp hp))).1
  rw [e3, List.map_reverse, ← List.reverse_flatten, hf, List.reverse_reverse]
theorem exRow_perm (row : List Int) (x : Int) : (exRow row x).Perm row := by
  by_cases h : 0 < row.length
  · obtain ⟨hf, _⟩ := parted_spec (x := x) h
    unfold exRow
    rw [if_pos h]
    conv => rhs; rw [← hf]
    generalize partedL row x = ps
    induction ps with
    | nil => exact List.Perm.refl _
    | cons p ps ih =>
      rw [List.map_cons, List.flatten_cons, List.flatten_cons]
      exact (rotR_perm p).append ih
  · have : row = [] := List.length_eq_zero_iff.mp (by omega)
    subst this
    exact List.Perm.refl _
theorem exL_perm : ∀ l : List Int, (exL l).Perm l := by
  refine snoc_ind (List.Perm.refl _) fun l x ih => ?_
  rw [exL_snoc]
  exact ((exRow_perm _ x).trans ih).append_right _
def exBn : Nat → List Int → List Int
  | 0, _ => []
  | n + 1, row => exBn n (bkRow row.dropLast (row.getLastD 0)) ++ [row.getLastD 0]
def exB (row : List Int) : List Int := exBn row.length row
theorem exB_snoc (row : List Int) (x : Int) : exB (row ++ [x]) = exB (bkRow row x) ++ [x] := by
  unfold exB
  rw [List.length_append, List.length_singleton, exBn, List.getLastD_concat, List.dropLast_concat, bkRow_len]
theorem bk_nil (x : Int) : bkRow [] x = [] := rfl
theorem exB_ex : ∀ l : List Int, exB (exL l) = l := by
  refine snoc_ind rfl fun l x ih => ?_
  rw [exL_snoc]
  unfold exStep
  rw [exB_snoc]
  by_cases h : 0 < (exL l).length
  · rw [exRow_bk h, ih]
  · have e : exL l = [] := List.length_eq_zero_iff.mp (by omega)
    have e2 : l = [] := by
      have := (exL_perm l).length_eq
      rw [e] at this
      exact List.length_eq_zero_iff.mp (by simpa using this.symm)
    subst e2
    rfl
theorem exL_bk : ∀ (n : Nat) (l : List Int), l.length = n → exL (exB l) = l
  | 0, l, h => by
    have e : l = [] := List.length_eq_zero_iff.mp h
    subst e; rfl
  | n + 1, l, h => by
    obtain ⟨r, z, rfl⟩ : ∃ r z, l = r ++ [z] := ⟨l.dropLast, l.getLast (by intro e; simp [e] at h), (List.dropLast_concat_getLast _).symm⟩
    have hr : r.length = n := by simpa using h
    rw [exB_snoc, exL_snoc, exL_bk n (bkRow r z) (by rw [bkRow_len]; exact hr)]
    unfold exStep
    by_cases h0 : 0 < r.length
    · rw [bkRow_ex h0]
    · have e : r = [] := List.length_eq_zero_iff.mp (by omega)
      subst e; rfl
theorem exB_perm (l : List Int) : (exB l).Perm l := by
  have h := exL_perm (exB l)
  rw [exL_bk _ l rfl] at h
  exact h.symm
theorem exL_len_eq (l : List Int) : (exL l).length = l.length := (exL_perm l).length_eq
theorem exB_len_eq (l : List Int) : (exB l).length = l.length := (exB_perm l).length_eq
theorem exL_last {l : List Int} : (exL l).getLastD 0 = l.getLastD 0 := by
  refine snoc_ind (P := fun l => (exL l).getLastD 0 = l.getLastD 0) rfl (fun l x _ => ?_) l
  rw [exL_snoc, exStep, List.getLastD_concat, List.getLastD_concat]
theorem exB_last {l : List Int} : (exB l).getLastD 0 = l.getLastD 0 := by
  refine snoc_ind (P := fun l => (exB l).getLastD 0 = l.getLastD 0) rfl (fun l x _ => ?_) l
  rw [exB_snoc, List.getLastD_concat, List.getLastD_concat]
/-! ### wrong pairs -/
def cr (a b : List Int) : Nat := (a.map fun z => (b.filter (· < z)).length).sum
theorem inv_append : ∀ a b : List Int, inv (a ++ b) = inv a + inv b + cr a b
  | [], b => by simp [inv, cr]
  | x :: a, b => by
    have ih := inv_append a b
    simp only [List.cons_append, inv, ih, List.filter_append, List.length_append, cr, List.map_cons, List.sum_cons]
    omega
theorem cr_left {a a' : List Int} (p : a.Perm a') (b : List Int) : cr a b = cr a' b := perm_sum (p.map _)
theorem cr_right (a : List Int) {b b' : List Int} (p : b.Perm b') : cr a b = cr a b' := by
  unfold cr
  congr 1
  exact List.map_congr_left fun z _ => (p.filter _).length_eq
theorem rots_perm : ∀ ps : List (List Int), ((ps.map rotR).flatten).Perm ps.flatten
  | [] => List.Perm.refl _
  | p :: ps => by
    rw [List.map_cons, List.flatten_cons, List.flatten_cons]
    exact (rotR_perm p).append (rots_perm ps)
theorem inv_flat_less (x : Int) : ∀ ps : List (List Int), (∀ p ∈ ps, inv p = inv (rotR p) + (p.filter (fun y => decide (x < y))).length) → inv (ps.map rotR).flatten + (ps.flatten.filter (fun y => decide (x < y))).length = inv ps.flatten
  | [], _ => rfl
  | p :: ps, h => by
    have ih := inv_flat_less x ps fun q hq => h q (by simp [hq])
    have hp := h p (by simp)
    rw [List.map_cons, List.flatten_cons, List.flatten_cons, inv_append, inv_append, cr_left (rotR_perm p), cr_right p (rots_perm ps), List.filter_append, List.length_append]
    omega
theorem inv_flat_more (x : Int) : ∀ ps : List (List Int), (∀ p ∈ ps, inv (rotR p) = inv p + (p.filter (fun y => decide (y < x))).length) → inv (ps.map rotR).flatten = inv ps.flatten + (ps.flatten.filter (fun y => decide (y < x))).length
  | [], _ => rfl
  | p :: ps, h => by
    have ih := inv_flat_more x ps fun q hq => h q (by simp [hq])
    have hp := h p (by simp)
    rw [List.map_cons, List.flatten_cons, List.flatten_cons, inv_append, inv_append, cr_left (rotR_perm p), cr_right p (rots_perm ps), List.filter_append, List.length_append]
    omega
theorem filter_all {p : Int → Bool} {u : List Int} (h : ∀ y ∈ u, p y = true) : (u.filter p).length = u.length := by rw [List.filter_eq_self.mpr h]
theorem filter_none {p : Int → Bool} {u : List Int} (h : ∀ y ∈ u, p y = false) : (u.filter p).length = 0 := by
  rw [List.filter_eq_nil_iff.mpr fun y hy => by rw [h y hy]; simp]; rfl
theorem one_z {p : Int → Bool} {z : Int} (h : p z = false) : ∀ y ∈ [z], p y = false := fun y hy => by
  have e : y = z := by simpa using hy
  rw [e]; exact h
theorem inv_ex {row : List Int} {x : Int} (h : 0 < row.length) (hx : x ∉ row) : inv (exRow row x ++ [x]) = inv row + if x < row.getLastD 0 then row.length else 0 := by
  obtain ⟨hf, hg⟩ := parted_spec (x := x) h
  have ee : exRow row x = ((partedL row x).map rotR).flatten := by unfold exRow; rw [if_pos h]
  have hne : ∀ p ∈ partedL row x, x ∉ p := fun p hp z => hx (by rw [← hf]; exact List.mem_flatten.mpr ⟨p, hp, z⟩)
  have hlast : row.getLastD 0 ∈ row := by
    obtain ⟨r, z, rfl⟩ : ∃ r z, row = r ++ [z] := ⟨row.dropLast, row.getLast (by intro e; simp [e] at h), (List.dropLast_concat_getLast _).symm⟩
    rw [List.getLastD_concat]; simp
  have hl : row.getLastD 0 ≠ x := fun e => hx (e ▸ hlast)
  have hsp := split_len x row hx
  have hpm : ((exRow row x).filter (fun y => decide (x < y))).length = (row.filter (fun y => decide (x < y))).length := ((exRow_perm row x).filter _).length_eq
  rw [inv_snoc, hpm, ee]
  by_cases c : row.getLastD 0 < x
  · rw [if_neg (by omega), Nat.add_zero]
    have := inv_flat_less x (partedL row x) fun p hp => ?_
    · rw [hf] at this; exact this
    obtain ⟨u, z, rfl, hz, hu⟩ := hg p hp
    have hn := hne _ hp
    have hz' : z < x := by
      unfold sideOf at hz; rw [decide_eq_true c] at hz; simpa using hz
    have hu' : ∀ y ∈ u, x < y := fun y hy => by
      have h1 := hu y hy
      unfold sideOf at h1; rw [decide_eq_true c] at h1
      have h2 : ¬ y < x := by simpa using h1
      have h3 : y ≠ x := fun e => hn (by rw [← e]; simp [hy])
      omega
    rw [rotR_snoc, inv_snoc, List.filter_append, List.length_append]
    simp only [inv]
    rw [filter_all (p := fun y => decide (z < y)) (fun y hy => by have := hu' y hy; simp; omega), filter_none (p := fun y => decide (y < z)) (fun y hy => by have := hu' y hy; simp; omega), filter_all (p := fun y => decide (x < y)) (fun y hy => by simpa using hu' y hy), filter_none (p := fun y => decide (x < y)) (u := [z]) (one_z (by simp; omega))]
    omega
  · rw [if_pos (by omega)]
    have := inv_flat_more x (partedL row x) fun p hp => ?_
    · rw [hf] at this; omega
    obtain ⟨u, z, rfl, hz, hu⟩ := hg p hp
    have hn := hne _ hp
    have hz' : x < z := by
      unfold sideOf at hz; rw [decide_eq_false c] at hz
      have h1 : ¬ z < x := by simpa using hz
      have h3 : z ≠ x := fun e => hn (by rw [← e]; simp)
      omega
    have hu' : ∀ y ∈ u, y < x := fun y hy => by
      have h1 := hu y hy
      unfold sideOf at h1; rw [decide_eq_false c] at h1
      simpa using h1
    rw [rotR_snoc, inv_snoc, List.filter_append, List.length_append]
    simp only [inv]
    rw [filter_none (p := fun y => decide (z < y)) (fun y hy => by have := hu' y hy; simp; omega), filter_all (p := fun y => decide (y < z)) (fun y hy => by have := hu' y hy; simp; omega), filter_all (p := fun y => decide (y < x)) (fun y hy => by simpa using hu' y hy), filter_none (p := fun y => decide (y < x)) (u := [z]) (one_z (by simp; omega))]
    omega
/-! ### the sum of falls -/
def majI (ns : List Int) : Int := ((fallsL ns).map (· + 1)).sum
theorem range_filter_congr {n : Nat} {p q : Nat → Bool} (h : ∀ k, k < n → p k = q k) : (List.range n).filter p = (List.range n).filter q :=
  List.filter_congr fun k hk => h k (List.mem_range.mp hk)
theorem maj_snoc {l : List Int} (h : 0 < l.length) (x : Int) : majI (l ++ [x]) = majI l + if x < l.getLastD 0 then (l.length : Int) else 0 := by
  obtain ⟨r, z, rfl⟩ : ∃ r z, l = r ++ [z] := ⟨l.dropLast, l.getLast (by intro e; simp [e] at h), (List.dropLast_concat_getLast _).symm⟩
  rw [List.getLastD_concat]
  unfold majI fallsL
  have e1 : (r ++ [z] ++ [x]).length - 1 = r.length + 1 := by simp
  have e2 : (r ++ [z]).length - 1 = r.length := by simp
  rw [e1, e2, List.range_succ, List.filter_append]
  have e3 : (List.range r.length).filter (fun k => decide ((r ++ [z] ++ [x]).getD (k + 1) 0 < (r ++ [z] ++ [x]).getD k 0)) = (List.range r.length).filter (fun k => decide ((r ++ [z]).getD (k + 1) 0 < (r ++ [z]).getD k 0)) := by
    refine range_filter_congr fun k hk => ?_
    have a1 : (r ++ [z] ++ [x]).getD (k + 1) 0 = (r ++ [z]).getD (k + 1) 0 := by
      simp only [List.getD_eq_getElem?_getD]
      rw [List.getElem?_append_left (by simp; omega)]
    have a2 : (r ++ [z] ++ [x]).getD k 0 = (r ++ [z]).getD k 0 := by
      simp only [List.getD_eq_getElem?_getD]
      rw [List.getElem?_append_left (by simp; omega)]
    rw [a1, a2]
  have e4 : (r ++ [z] ++ [x]).getD (r.length + 1) 0 = x := by
    simp only [List.getD_eq_getElem?_getD]
    rw [List.getElem?_append_right (by simp)]
    simp
  have e5 : (r ++ [z] ++ [x]).getD r.length 0 = z := by
    simp only [List.getD_eq_getElem?_getD]
    rw [List.getElem?_append_left (by simp), List.getElem?_append_right (by simp)]
    simp
  rw [e3, List.map_append, List.map_append, List.sum_append]
  congr 1
  by_cases c : x < z
  · rw [if_pos c, List.filter_cons_of_pos (by rw [e4, e5]; simpa using c)]
    simp
  · rw [if_neg c, List.filter_cons_of_neg (by rw [e4, e5]; simpa using c)]
    simp
theorem inv_exL : ∀ l : List Int, l.Nodup → (inv (exL l) : Int) = majI l := by
  refine snoc_ind (fun _ => rfl) fun l x ih hn => ?_
  have hn' := List.nodup_append.mp hn
  have h1 := ih hn'.1
  have hx : x ∉ l := fun z => hn'.2.2 x z x (by simp) rfl
  rw [exL_snoc]
  unfold exStep
  by_cases h : 0 < l.length
  · have hx2 : x ∉ exL l := fun z => hx ((exL_perm l).mem_iff.mp z)
    rw [inv_ex (by rw [exL_len_eq]; exact h) hx2, exL_last, exL_len_eq, maj_snoc h, ← h1]
    split <;> simp
  · have e : l = [] := List.length_eq_zero_iff.mp (by omega)
    subst e
    rfl
theorem paired_split {α β : Type} {R : α → β → Prop} {x : α} {y : β} : ∀ {xs : List α} {ys : List β}, xs.length = ys.length → Paired R (xs ++ [x]) (ys ++ [y]) → Paired R xs ys ∧ R x y
  | [], [], _, h => by cases h with | cons r _ => exact ⟨.nil, r⟩
  | [], _ :: _, hl, _ => by simp at hl
  | _ :: _, [], hl, _ => by simp at hl
  | a :: xs, b :: ys, hl, h => by
    cases h with
    | cons r t =>
      obtain ⟨h1, h2⟩ := paired_split (xs := xs) (ys := ys) (by simpa using hl) t
      exact ⟨.cons r h1, h2⟩
theorem Own2.split {H0 H : Hp} {qs : List Addr} {xss : List (List Int)} {q : Addr} {xs : List Int} (hl : qs.length = xss.length) (h : Own2 H0 H (qs ++ [q]) (xss ++ [xs])) :
    Own2 H0 H qs xss ∧ H q = some (.lst (xs.map V.int)) ∧ q ∉ qs ∧ H0 q = none := by
  obtain ⟨h1, h2⟩ := paired_split hl h.at_
  have n := List.nodup_append.mp h.nd
  exact ⟨⟨h1, n.1, fun r hr => h.new r (by simp [hr])⟩, h2, fun z => n.2.2 q z q (by simp) rfl, h.new q (by simp)⟩
theorem rev_at {α : Type} {l : List α} {k : Nat} (h : k < l.length) : l.reverse[k]? = l[l.length - 1 - k]? := by rw [List.getElem?_reverse h]
theorem atI_lastD {ns : List Int} (h : 0 < ns.length) : atI (ns.map V.int) (-1) = some (.int (ns.getLastD 0)) := by
  obtain ⟨r, z, rfl⟩ : ∃ r z, ns = r ++ [z] := ⟨ns.dropLast, ns.getLast (by intro e; simp [e] at h), (List.dropLast_concat_getLast _).symm⟩
  rw [List.map_append]
  simp only [List.map_cons, List.map_nil, List.getLastD_concat]
  exact atI_last _ _
theorem exL_shape {s : List Int} (h : shapeOk s) : shapeOk (exL s) := ⟨by rw [exL_len_eq]; exact h.1, by rw [exL_len_eq]; exact (exL_perm s).trans h.2⟩
theorem exB_shape {s : List Int} (h : shapeOk s) : shapeOk (exB s) := ⟨by rw [exB_len_eq]; exact h.1, by rw [exB_len_eq]; exact (exB_perm s).trans h.2⟩
theorem sorted_of {s t l : List Int} (h : shapeOk s) (hl : s.length = l.length) (p : t.Perm s) (w : t.Pairwise (· ≤ ·)) : t = rangeI l.length := by
  rw [← hl]
  exact (shape_sorted p w).mpr h.2
end Sh

set_option Elab.async false
set_option linter.all false
set_option maxRecDepth 100000
set_option maxHeartbeats 4000000
/-! M11: how many of the few: counted by the kernel. -/
namespace Sh
open PySem PySem.Spec PyProof.Rows L2
theorem few_falls : ∀ n, n < 6 → ∀ w, w < 18 → (frow n).getD w 0 = ((((allU (n + 1)).map fun x => (fallsL x).length).countP (· == w) : Nat) : Int) := by decide +kernel
theorem few_wrong : ∀ n, n < 6 → ∀ w, w < 18 → (vrow n).getD w 0 = ((((allU (n + 1)).map inv).countP (· == w) : Nat) : Int) := by decide +kernel
theorem few_sum : ∀ n, n < 6 → ∀ w, w < 18 → (vrow n).getD w 0 = ((((allU (n + 1)).map majI).countP (· == (w : Int)) : Nat) : Int) := by decide +kernel
end Sh

open PySem PySem.Spec PyProof.Rows L2
local macro_rules | `(tactic| walk_at "rd") => `(tactic| try simp only [Sh.cxOf_K, tSeq, tAsg, tRet, tRetN, tVar, tC, tOp, tUn, tCB, tCons, tNil, tLst, tTup, gName, gSub, Sh.tFor_eq, Sh.tLc_eq, iList, iTup, iRng1, iRng2, tBM, tBM0, tNext, tIfS, tTest, tB, tYes, tAnd, tOr, tNot, tAndV, tOrV, tNotV, tIf, tDrop, tChain, tSl, tPart, tNoPart, tCall, tCallS, rI0, rI, rU, rEq, rNe, rIsB, rNotB, wipe,
   rSortedI, rIndex, rSlL, rIxL, rIxT, rSetL, rAppend, rExtend, rPop, rReverse, rCat, rRep, rCatT, rCatA, Sh.rSortedLL, Sh.rInDT, rRemI, rSum, rMin, rIn, Sh.rLen, Sh.rListOf, Sh.rTupleOf, Sh.rInt1, tLstRg, tRg1, tRg2, Sh.tLenSetG, Sh.tListRev, iRevR, iRev, List.length_map, List.length_range, Int.toNat_natCast, Int.zero_add, CDiv, Int.reduceLT, Int.reduceLE,
   List.getElem?_cons_zero, List.getElem?_cons_succ, List.set_cons_zero, List.set_cons_succ, Option.some.injEq, V.int.injEq, V.ref.injEq, V.bl.injEq, List.cons.injEq, and_true, true_and, and_assoc, reduceCtorEq, false_and, and_false, exists_false, false_or, or_false, exists_eq_left', exists_eq_left, exists_and_left, exists_and_right, List.map_cons, List.map_nil, List.append_nil, List.nil_append, List.cons_append, reduceIte, Bool.true_eq_false, Bool.false_eq_true, exists_eq', exists_eq, eq_self, not_true_eq_false, not_false_eq_true, decide_true, decide_false, Bool.not_true, Bool.not_false, if_true, if_false, decide_eq_true_eq, Bool.not_eq_true', decide_eq_false_iff_not])
local macro_rules | `(tactic| walk_at "r1") => `(tactic| try simp only [Sh.cxOf_K, tAsg, tRet, tRetN, tVar, tC, tOp, tUn, tCB, tCons, tNil, tLst, tTup, gName, gSub, Sh.tFor_eq, Sh.tLc_eq, iList, iTup, iRng1, iRng2, tBM, tBM0, tNext, tIfS, tTest, tB, tYes, tAnd, tOr, tNot, tAndV, tOrV, tNotV, tIf, tDrop, tChain, tSl, tPart, tNoPart, tCall, tCallS, rI0, rI, rU, rEq, rNe, rIsB, rNotB, wipe,
   rSortedI, rIndex, rSlL, rIxL, rIxT, rSetL, rAppend, rExtend, rPop, rReverse, rCat, rRep, rCatT, rCatA, Sh.rSortedLL, Sh.rInDT, rRemI, rSum, rMin, rIn, Sh.rLen, Sh.rListOf, Sh.rTupleOf, Sh.rInt1, tLstRg, tRg1, tRg2, Sh.tLenSetG, Sh.tListRev, iRevR, iRev, List.length_map, List.length_range, Int.toNat_natCast, Int.zero_add, CDiv, Int.reduceLT, Int.reduceLE,
   List.getElem?_cons_zero, List.getElem?_cons_succ, List.set_cons_zero, List.set_cons_succ, Option.some.injEq, V.int.injEq, V.ref.injEq, V.bl.injEq, List.cons.injEq, and_true, true_and, and_assoc, reduceCtorEq, false_and, and_false, exists_false, false_or, or_false, exists_eq_left', exists_eq_left, exists_and_left, exists_and_right, List.map_cons, List.map_nil, List.append_nil, List.nil_append, List.cons_append, reduceIte, Bool.true_eq_false, Bool.false_eq_true, exists_eq', exists_eq, eq_self, not_true_eq_false, not_false_eq_true, decide_true, decide_false, Bool.not_true, Bool.not_false, if_true, if_false, decide_eq_true_eq, Bool.not_eq_true', decide_eq_false_iff_not])

namespace Sh
def topS (i : Nat) : Stmt := PySem.Challenge.pw_shapeorders_k10_how_many_of_few.main.body.getD i (.Pass ⟨0, 0, 0, 0⟩)
abbrev s__law_all : Stmt := topS 13
theorem sc__law_all : FnScope ["size", "found", "k", "longer", "row", "place"] ["size"] (defScope s__law_all) := ⟨rfl, rfl, rfl, by decide +kernel, rfl, by decide +kernel, by decide +kernel⟩
abbrev s_ask_size : Stmt := topS 6
theorem sc_ask_size : FnScope ["size"] ["size"] (defScope s_ask_size) := ⟨rfl, rfl, rfl, by decide +kernel, rfl, by decide +kernel, by decide +kernel⟩
abbrev s_many_falls : Stmt := topS 8
theorem sc_many_falls : FnScope ["size", "wanted", "row", "k", "j"] ["size", "wanted"] (defScope s_many_falls) := ⟨rfl, rfl, rfl, by decide +kernel, rfl, by decide +kernel, by decide +kernel⟩
abbrev s_many_wrong : Stmt := topS 9
theorem sc_many_wrong : FnScope ["size", "wanted", "row", "k", "longer", "j", "step"] ["size", "wanted"] (defScope s_many_wrong) := ⟨rfl, rfl, rfl, by decide +kernel, rfl, by decide +kernel, by decide +kernel⟩
abbrev s__law_cell_at : Stmt := topS 11
theorem sc__law_cell_at : FnScope ["script", "k"] ["script", "k"] (defScope s__law_cell_at) := ⟨rfl, rfl, rfl, by decide +kernel, rfl, by decide +kernel, by decide +kernel⟩
abbrev s__law_whole : Stmt := topS 12
theorem sc__law_whole : FnScope ["found"] ["found"] (defScope s__law_whole) := ⟨rfl, rfl, rfl, by decide +kernel, rfl, by decide +kernel, by decide +kernel⟩
abbrev s__law_sum : Stmt := topS 15
theorem sc__law_sum : FnScope ["shape", "k"] ["shape"] (defScope s__law_sum) := ⟨rfl, rfl, rfl, by decide +kernel, rfl, by decide +kernel, by decide +kernel⟩
abbrev s__law_pairs : Stmt := topS 14
theorem sc__law_pairs : FnScope ["shape", "found", "j", "i"] ["shape"] (defScope s__law_pairs) := ⟨rfl, rfl, rfl, by decide +kernel, rfl, by decide +kernel, by decide +kernel⟩
abbrev s_law : Stmt := topS 16
theorem sc_law : FnScope ["script", "size", "wanted", "some", "due", "shape", "found", "k"] ["script"] (defScope s_law) := ⟨rfl, rfl, rfl, by decide +kernel, rfl, by decide +kernel, by decide +kernel⟩
/-- what the top has written -/
structure Tx (K : PySem.W.Frag) (mg : Str → Option Value) where
  f__law_all : Addr
  fd__law_all : FuncData
  F__law_all : Fun K "_law_all" "_law_all" s__law_all f__law_all fd__law_all
  g__law_all : mg "_law_all" = some (.ref f__law_all)
  b__law_all : Binds K fd__law_all ["size"] []
  f_ask_size : Addr
  fd_ask_size : FuncData
  F_ask_size : Fun K "ask_size" "ask_size" s_ask_size f_ask_size fd_ask_size
  g_ask_size : mg "ask_size" = some (.ref f_ask_size)
  b_ask_size : Binds K fd_ask_size ["size"] []
  f_many_falls : Addr
  fd_many_falls : FuncData
  F_many_falls : Fun K "many_falls" "many_falls" s_many_falls f_many_falls fd_many_falls
  g_many_falls : mg "many_falls" = some (.ref f_many_falls)
  b_many_falls : Binds K fd_many_falls ["size", "wanted"] []
  f_many_wrong : Addr
  fd_many_wrong : FuncData
  F_many_wrong : Fun K "many_wrong" "many_wrong" s_many_wrong f_many_wrong fd_many_wrong
  g_many_wrong : mg "many_wrong" = some (.ref f_many_wrong)
  b_many_wrong : Binds K fd_many_wrong ["size", "wanted"] []
  f__law_cell_at : Addr
  fd__law_cell_at : FuncData
  F__law_cell_at : Fun K "_law_cell_at" "_law_cell_at" s__law_cell_at f__law_cell_at fd__law_cell_at
  g__law_cell_at : mg "_law_cell_at" = some (.ref f__law_cell_at)
  b__law_cell_at : Binds K fd__law_cell_at ["script", "k"] []
  f__law_whole : Addr
  fd__law_whole : FuncData
  F__law_whole : Fun K "_law_whole" "_law_whole" s__law_whole f__law_whole fd__law_whole
  g__law_whole : mg "_law_whole" = some (.ref f__law_whole)
  b__law_whole : Binds K fd__law_whole ["found"] []
  f__law_sum : Addr
  fd__law_sum : FuncData
  F__law_sum : Fun K "_law_sum" "_law_sum" s__law_sum f__law_sum fd__law_sum
  g__law_sum : mg "_law_sum" = some (.ref f__law_sum)
  b__law_sum : Binds K fd__law_sum ["shape"] []
  f__law_pairs : Addr
  fd__law_pairs : FuncData
  F__law_pairs : Fun K "_law_pairs" "_law_pairs" s__law_pairs f__law_pairs fd__law_pairs
  g__law_pairs : mg "_law_pairs" = some (.ref f__law_pairs)
  b__law_pairs : Binds K fd__law_pairs ["shape"] []
  f_law : Addr
  fd_law : FuncData
  F_law : Fun K "law" "law" s_law f_law fd_law
  g_law : mg "law" = some (.ref f_law)
  b_law : Binds K fd_law ["script"] []
  m_range : mg "range" = none
  m_sorted : mg "sorted" = none
  m_len : mg "len" = none
  m_isinstance : mg "isinstance" = none
  m_int : mg "int" = none
  m_bool : mg "bool" = none
  m_sum : mg "sum" = none
  t_MOST_SIZE : Tok
  g_MOST_SIZE : mg "MOST_SIZE" = some (.int 20 t_MOST_SIZE)
  C_NoSize : Addr
  gC_NoSize : mg "NoSize" = some (.ref C_NoSize)
  x_NoSize : PySem.W.excIn K C_NoSize [.type "ValueError", .type "Exception", .type "BaseException", .type "object"] "ValueError.__new__" = true
  kC_NoSize : PySem.W.keepIn K (.ref C_NoSize) = true
  bC_NoSize : PySem.W.subIn K (.ref C_NoSize) (.type "BaseException") = some true
  tC_NoSize : PySem.W.typeIn K (.ref C_NoSize) = some (.type "type")
  C_NoNumber : Addr
  gC_NoNumber : mg "NoNumber" = some (.ref C_NoNumber)
  x_NoNumber : PySem.W.excIn K C_NoNumber [.type "ValueError", .type "Exception", .type "BaseException", .type "object"] "ValueError.__new__" = true
  kC_NoNumber : PySem.W.keepIn K (.ref C_NoNumber) = true
  bC_NoNumber : PySem.W.subIn K (.ref C_NoNumber) (.type "BaseException") = some true
  tC_NoNumber : PySem.W.typeIn K (.ref C_NoNumber) = some (.type "type")
end Sh

namespace Sh
section
variable {P : Program} {w : World} {K : PySem.W.Frag} {mg : Str → Option Value} {base : Heap}
def sp__law_all (T : Tx K mg) : Sp := fun vs H Q E => ∃ (n : Nat), vs = [.int n] ∧ n ≤ 6 ∧ ∀ (rs : List (Addr × List Int)) H' p, Same H H' → H p = none → H' p = some (.lst (rs.map fun b => V.ref b.1)) → LLs H' rs → (rs.map Prod.snd).Perm (allU n) → (rs.map Prod.snd).Pairwise (· ≤ ·) → Q (.ref p) H'
theorem ok__law_all (T : Tx K mg) : FnOk P w K mg base CX0 1 T.f__law_all T.fd__law_all ["size"] (sp__law_all T) := by
  refine T.F__law_all.ok sc__law_all (fun vs H Q E h => ?_) (fun cdv A outer s H vs Q E hr h => ?_)
  · obtain ⟨n, rfl, _⟩ := h
    rfl
  · obtain ⟨n, rfl, hn, q⟩ := h
    refine ⟨_, (pss_cons (by exact (ps_set (i := 1) sc__law_all.nd rfl (Or.inl rfl) (pe_lst (pa_cons (pe_lst pa_nil) pa_nil))))
        (pss_cons (by exact (ps_for PassesOwn.never rfl (pi_range1 rfl T.m_range (pa_cons (pv 0) pa_nil)) (pg_name (i := 2) sc__law_all.nd rfl (Or.inl rfl))
        (pss_cons (by exact (ps_set (i := 3) sc__law_all.nd rfl (Or.inl rfl) (pe_lst pa_nil)))
        (pss_cons (by exact (ps_for PassesOwn.never rfl (pi_list (pv 1)) (pg_name (i := 4) sc__law_all.nd rfl (Or.inl rfl))
        (pss_one (by exact (ps_for PassesOwn.never rfl (pi_range1 rfl T.m_range (pa_cons (pe_op op_add (pv 2) pe_int) pa_nil)) (pg_name (i := 5) sc__law_all.nd rfl (Or.inl rfl))
        (pss_one (by exact (ps_expr (by exact (pe_bm PySem.F.plainAttrs_list PySem.F.slot_list_append PySem.F.type_list_append mt_append (pv 3) (pa_cons (pe_op op_cat (pe_op op_cat (pe_slice sl_list (pv 4) po_none (po_some (pv 5))) (pe_lst (pa_cons (pv 2) pa_nil))) (pe_slice sl_list (pv 4) (po_some (pv 5)) po_none)) pa_nil)))))))))))
        (pss_one (by exact (ps_set (i := 1) sc__law_all.nd rfl (Or.inl rfl) (pv 3))))))))
        (pss_one (by exact (ps_ret (by exact (pe_callB (cr_sortedLL (room66 hr)) (by rfl) T.m_sorted (by decide +kernel) (pa_cons (pv 1) pa_nil)))))))), ?_⟩
    rw [show (start ["size", "found", "k", "longer", "row", "place"] [V.int n] : L2.St) = [some (V.int n), none, none, none, none, none] from rfl]
    walk_at "rd"
    refine ⟨lineLe (by simp), fun e0 ne0 => ⟨lineLe (by simp), fun f0 nf0 => ⟨by omega, by omega, ?_⟩⟩⟩
    refine forK_range (fun k σ H' => ∃ (f : Addr) (bs : List (Addr × List Int)) (y2 y3 y4 y5 : Option V), σ = [some (V.int n), some (V.ref f), y2, y3, y4, y5] ∧ Same H H' ∧ H' f = some (.lst (bs.map fun b => V.ref b.1)) ∧ LLs H' bs ∧ bs.map Prod.snd = allU k)
      ⟨f0, [(e0, [])], _, _, _, _, rfl, (same_new ne0).trans (same_new nf0), upd_same, fun b hb => by
        have e : b = (e0, []) := by simpa using hb
        subst e
        exact same_new nf0 _ _ upd_same, rfl⟩ (fun k σ H' hk h => ?_) (fun σ H' h => ?_)
    · obtain ⟨f, bs, y2, y3, y4, y5, rfl, s1, hf, ll, eb⟩ := h
      walk_at "rd"
      refine ⟨lineLe (by simp), fun g ng => ⟨⟨_, SqL.of (same_new ng _ _ hf)⟩, ?_⟩⟩
      have hf1 := same_new (o := .lst []) ng _ _ hf
      have ll1 := ll.same (same_new (o := .lst []) ng)
      have s2 := s1.trans (same_new (o := .lst []) ng)
      have ng' : H g = none := s1.free ng
      have hg1 : (upd H' g (.lst [])) g = some (.lst []) := upd_same
      have neb := ll.ne ng
      have nfg : f ≠ g := ne_of_none hf ng
      generalize upd H' g (.lst []) = H1 at hf1 ll1 s2 hg1 ⊢
      have tot := allU_len (k + 1) (by omega)
      rw [allU] at tot
      refine forK_map bs (fun b => V.ref b.1) (fun i σ H' => ∃ (cs : List (Addr × List Int)) (y4 y5 : Option V), σ = [some (V.int n), some (V.ref f), some (V.int k), some (V.ref g), y4, y5] ∧ Same H H' ∧ H' f = some (.lst (bs.map fun b => V.ref b.1)) ∧ LLs H' bs ∧
          H' g = some (.lst (cs.map fun b => V.ref b.1)) ∧ LLs H' cs ∧ (∀ b ∈ cs, b.1 ≠ g) ∧ cs.map Prod.snd = (((allU k).take i).map (insAll k)).flatten)
        ⟨[], _, _, rfl, s2, hf1, ll1, hg1, fun b hb => by simp at hb, by simp, rfl⟩ (fun i σ H' _ h => ?_) (fun i b σ H' hb h => ?_) (fun σ H' h => ?_)
      · obtain ⟨cs, y4, y5, rfl, _, hf2, _⟩ := h
        exact SqL.of hf2
      · obtain ⟨cs, y4, y5, rfl, s3, hf2, ll2, hg2, lc2, nc2, ec⟩ := h
        walk_at "rd"
        refine ⟨by omega, by omega, ?_⟩
        rw [show ((k : Int) + 1).toNat = k + 1 by omega]
        have hx := snd_get eb hb
        have hxl := allU_mem k b.2 (List.mem_of_getElem? hx)
        have tk := take_more hx
        have hlen1 := flat_prefix_len (insAll k) (allU k) (i + 1)
        rw [tk, List.map_append, List.flatten_append, List.length_append] at hlen1
        have hil : ([b.2].map (insAll k)).flatten = insAll k b.2 := by simp
        have hil2 : (insAll k b.2).length = k + 1 := by simp [insAll]
        rw [hil, hil2] at hlen1
        have hb' : b ∈ bs := List.mem_of_getElem? hb
        refine forK_range (fun p σ H' => ∃ (cs : List (Addr × List Int)) (y5 : Option V), σ = [some (V.int n), some (V.ref f), some (V.int k), some (V.ref g), some (V.ref b.1), y5] ∧ Same H H' ∧ H' f = some (.lst (bs.map fun b => V.ref b.1)) ∧ LLs H' bs ∧
            H' g = some (.lst (cs.map fun b => V.ref b.1)) ∧ LLs H' cs ∧ (∀ b ∈ cs, b.1 ≠ g) ∧ cs.map Prod.snd = (((allU k).take i).map (insAll k)).flatten ++ (List.range p).map (insAt k b.2))
          ⟨cs, _, rfl, s3, hf2, ll2, hg2, lc2, nc2, by simpa using ec⟩ (fun p σ H' hp h => ?_) (fun σ H' h => ?_)
        · obtain ⟨cs, y5, rfl, s4, hf3, ll3, hg3, lc3, nc3, ec3⟩ := h
          walk_at "rd"
          have hb3 := ll3 b hb'
          have cl := congrArg List.length ec3
          rw [List.length_map, List.length_append, List.length_map, List.length_range] at cl
          refine ⟨tyL hg3, _, SqL.of hb3, fun p1 np1 => ?_⟩
          rw [cut_to]
          refine ⟨lineLe (by simp), fun p2 np2 => ?_⟩
          have e1 := same_new (o := .lst [V.int k]) np2 _ _ (upd_same (H := H') (a := p1) (o := .lst ((b.2.map V.int).take p)))
          refine ⟨_, e1, _, upd_same, lineLe (by simp; omega), fun p3 np3 => ⟨_, SqL.of (same_new np3 _ _ (same_new np2 _ _ (same_new np1 _ _ hb3))), fun p4 np4 => ?_⟩⟩
          rw [cut_from]
          refine ⟨_, same_new np4 _ _ upd_same, _, upd_same, lineLe (by simp; omega), fun p5 np5 => ?_⟩
          have t5 := ((((same_new (o := .lst ((b.2.map V.int).take p)) np1).trans (same_new (o := .lst [V.int k]) np2)).trans (same_new (o := .lst ((b.2.map V.int).take p ++ [V.int k])) np3)).trans (same_new (o := .lst ((b.2.map V.int).drop p)) np4))
          have n5 : H' p5 = none := t5.free np5
          replace t5 := t5.trans (same_new (o := .lst ((b.2.map V.int).take p ++ [V.int k] ++ (b.2.map V.int).drop p)) np5)
          have h5 : (upd (upd (upd (upd (upd H' p1 (.lst ((b.2.map V.int).take p))) p2 (.lst [V.int k])) p3 (.lst ((b.2.map V.int).take p ++ [V.int k]))) p4 (.lst ((b.2.map V.int).drop p))) p5 (.lst ((b.2.map V.int).take p ++ [V.int k] ++ (b.2.map V.int).drop p))) p5 = some (.lst ((insAt k b.2 p).map V.int)) := by
            rw [upd_same, insAt]; simp
          generalize (upd (upd (upd (upd (upd H' p1 (.lst ((b.2.map V.int).take p))) p2 (.lst [V.int k])) p3 (.lst ((b.2.map V.int).take p ++ [V.int k]))) p4 (.lst ((b.2.map V.int).drop p))) p5 (.lst ((b.2.map V.int).take p ++ [V.int k] ++ (b.2.map V.int).drop p))) = H5 at t5 h5 ⊢
          have n5g : p5 ≠ g := (ne_of_none hg3 n5).symm
          refine ⟨_, t5 _ _ hg3, lineLt (by simp; omega), same_mut (s4.trans t5) ng', by rw [upd_ne nfg]; exact t5 _ _ hf3, (ll3.same t5).mut neb, cs ++ [(p5, insAt k b.2 p)], ?_, ?_, ?_, ?_⟩
          · rw [upd_same]; simp
          · exact ((lc3.same t5).snoc h5).mut fun c hc => by
              rcases List.mem_append.mp hc with z | z
              · exact nc3 c z
              · have e2 : c = (p5, insAt k b.2 p) := by simpa using z
                subst e2; exact n5g
          · intro c hc
            rcases List.mem_append.mp hc with z | z
            · exact nc3 c z
            · have e2 : c = (p5, insAt k b.2 p) := by simpa using z
              subst e2; exact n5g
          · rw [List.map_append, ec3, List.range_succ, List.map_append, List.append_assoc]; rfl
        · obtain ⟨cs, y5, rfl, s4, hf3, ll3, hg3, lc3, nc3, ec3⟩ := h
          refine ⟨⟨_, _, rfl⟩, s4, hf3, ll3, cs, hg3, lc3, nc3, ?_⟩
          rw [ec3, tk, List.map_append, List.flatten_append, hil]
          rfl
      · obtain ⟨cs, y4, y5, rfl, s3, hf2, ll2, hg2, lc2, nc2, ec⟩ := h
        walk_at "rd"
        rw [show bs.length = (allU k).length by rw [← eb, List.length_map], List.take_length] at ec
        exact ⟨s3, cs, hg2, lc2, ec⟩
    · obtain ⟨f, bs, y2, y3, y4, y5, rfl, s1, hf, ll, eb⟩ := h
      walk_at "rd"
      refine ⟨bs, SqL.of hf, ll, fun rs p pm pw np => ?_⟩
      refine q rs _ p (s1.trans (same_new np)) (s1.free np) upd_same ?_ ?_ (List.pairwise_map.mpr pw)
      · exact LLs.same (fun b hb => ll b (pm.mem_iff.mp hb)) (same_new np)
      · rw [← eb]; exact pm.map _

end
end Sh

namespace Sh
section
variable {P : Program} {w : World} {K : PySem.W.Frag} {mg : Str → Option Value} {base : Heap}
def sp_ask_size (T : Tx K mg) : Sp := fun vs H Q E => ∃ (n : Int), vs = [.int n] ∧ (1 ≤ n ∧ n ≤ 20 → Q .non H) ∧ (¬ (1 ≤ n ∧ n ≤ 20) → E (.ref T.C_NoSize) none H)
theorem ok_ask_size (T : Tx K mg) : FnOk P w K mg base (L2.CX P w) 1 T.f_ask_size T.fd_ask_size ["size"] (sp_ask_size T) := by
  refine T.F_ask_size.okX sc_ask_size (fun vs H Q E h => ?_) (fun cdv A outer s H vs Q E hr h => ?_)
  · obtain ⟨n, rfl, _⟩ := h
    rfl
  · obtain ⟨n, rfl, q1, q2⟩ := h
    refine ⟨_, (pss_one (by exact (ps_if (pt_not (pt_chain (op_le) (op_le) pe_int (pv 0) (pe_glob (v := .int 20) rfl T.g_MOST_SIZE ⟨_, rfl⟩))) (pss_one (by exact (ps_raise rfl (takes_of rfl rfl rfl rfl) (pmk_own PySem.F.excBase_ValueError T.x_NoSize T.gC_NoSize T.kC_NoSize (raises_own T.bC_NoSize T.tC_NoSize) (by exact rfl))))) pss_nil))), ?_⟩
    rw [show (start ["size"] [V.int n] : L2.St) = [some (V.int n)] from rfl]
    walk_at "rd"
    exact ite2 (fun c => ite2 (fun d => q2 fun z => d z.2) (fun d => q1 ⟨c, Classical.byContradiction d⟩)) (fun c => q2 fun z => c z.1)

end
end Sh

namespace Sh
section
variable {P : Program} {w : World} {K : PySem.W.Frag} {mg : Str → Option Value} {base : Heap}
def sp_many_falls (T : Tx K mg) : Sp := fun vs H Q E => ∃ (n w : Int), vs = [.int n, .int w] ∧ (1 ≤ n ∧ n ≤ 20 → 0 ≤ w → ∀ H', Same H H' → Q (.int ((frow (n.toNat - 1)).getD w.toNat 0)) H') ∧ (¬ (1 ≤ n ∧ n ≤ 20) → E (.ref T.C_NoSize) none H) ∧ (1 ≤ n ∧ n ≤ 20 → w < 0 → E (.ref T.C_NoNumber) none H)
theorem ok_many_falls (T : Tx K mg) : FnOk P w K mg base (L2.CX P w) 2 T.f_many_falls T.fd_many_falls ["size", "wanted"] (sp_many_falls T) := by
  refine T.F_many_falls.okX sc_many_falls (fun vs H Q E h => ?_) (fun cdv A outer s H vs Q E hr h => ?_)
  · obtain ⟨n, w, rfl, _⟩ := h
    rfl
  · obtain ⟨n, w, rfl, q1, q2, q3⟩ := h
    refine ⟨_, (pss_cons (by exact (ps_expr (by exact (pe_call (ok_ask_size T) (hr.mono (by decide)) (by rfl) T.g_ask_size T.F_ask_size.kp T.b_ask_size .nil (passes_call (takes_of rfl rfl rfl rfl) (fun _ _ _ _ h => h)) (pa_cons (pv 0) pa_nil)))))
        (pss_cons (by exact (ps_if (pt_cmpR (op_lt) (pv 1) pe_int (nomark _)) (pss_one (by exact (ps_raise rfl (takes_of rfl rfl rfl rfl) (pmk_own PySem.F.excBase_ValueError T.x_NoNumber T.gC_NoNumber T.kC_NoNumber (raises_own T.bC_NoNumber T.tC_NoNumber) (by exact rfl))))) pss_nil))
        (pss_cons (by exact (ps_set (i := 2) sc_many_falls.nd rfl (Or.inr rfl) (pe_lst (pa_cons pe_int pa_nil))))
        (pss_cons (by exact (ps_for (passes_of rfl) rfl (pi_range2 rfl T.m_range (pa_cons pe_int (pa_cons (pe_op op_add (pv 0) pe_int) pa_nil))) (pg_name (i := 3) sc_many_falls.nd rfl (Or.inr rfl))
        (pss_cons (by exact (ps_set (i := 2) sc_many_falls.nd rfl (Or.inr rfl) (pe_op op_cat (pv 2) (pe_lst (pa_cons pe_int pa_nil)))))
        (pss_one (by exact (ps_set (i := 2) sc_many_falls.nd rfl (Or.inr rfl) (by exact (pe_lc (own := [("j", 4)]) (g := gName 4) (tt := tYes) (te := (tOp (rI0 fun i j => .int (i + j)) (tOp (rI CMul fun i j => .int (i * j)) (tOp (rI0 fun i j => .int (i + j)) (tVar 4) (tC (.int 1))) (tOp (rIxL K) (tVar 2) (tVar 4))) (tOp (rI CMul fun i j => .int (i * j)) (tOp (rI0 fun i j => .int (i - j)) (tVar 3) (tVar 4)) (tIf (tTest (tOp (rI0 fun i j => .bl (decide (j < i))) (tVar 4) (tC (.int 0)))) (tOp (rIxL K) (tVar 2) (tOp (rI0 fun i j => .int (i - j)) (tVar 4) (tC (.int 1)))) (tC (.int 0)))))) rfl sc_many_falls.nd (pi_range1 rfl T.m_range (pa_cons (by exact (pe_callB call_lenS (by rfl) T.m_len PySem.boot_len (pa_cons (pv 2) pa_nil))) pa_nil)) (blkOk_by (N := ["size", "wanted", "row", "k", "j"]) (sc := defScope s_many_falls) (by decide +kernel)) (fun _ _ _ _ _ => by exact (pg_name (i := 4) sc_many_falls.nd rfl (by first | exact Or.inl rfl | exact Or.inr rfl))) (fun _ _ _ _ _ => pts_nil) (fun _ _ _ _ _ => by exact (pe_op op_add (pe_op op_mul (pe_op op_add (pv 4) pe_int) (pe_ix ix_list (pv 2) (pv 4) (fun _ _ => rfl))) (pe_op op_mul (pe_op op_sub (pv 3) (pv 4)) (by exact (pe_ifExp (pt_cmpR (op_gt) (pv 4) pe_int (nomark _)) (pe_ix ix_list (pv 2) (pe_op op_sub (pv 4) pe_int) (fun _ _ => rfl)) pe_int)))))))))))))
        (pss_one (by exact (ps_ret (by exact (pe_ifExp (pt_cmpR (op_lt) (pv 1) (by exact (pe_callB call_lenS (by rfl) T.m_len PySem.boot_len (pa_cons (pv 2) pa_nil))) (nomark _)) (pe_ix ix_list (pv 2) (pv 1) (fun _ _ => rfl)) pe_int))))))))), ?_⟩
    rw [show (start ["size", "wanted", "row", "k", "j"] [V.int n, V.int w] : L2.St) = [some (V.int n), some (V.int w), none, none, none] from rfl]
    walk_at "rd"
    refine ⟨n, rfl, fun ok => ?_, q2⟩
    walk_at "rd"
    refine ite2 (fun c => q3 ok c) (fun c => ?_)
    obtain ⟨m, rfl⟩ : ∃ m : Nat, n = ((m + 1 : Nat) : Int) := ⟨n.toNat - 1, by omega⟩
    obtain ⟨v, rfl⟩ : ∃ v : Nat, w = (v : Int) := ⟨w.toNat, by omega⟩
    have em : ((m + 1 : Nat) : Int).toNat - 1 = m := by omega
    rw [em, Int.toNat_natCast] at q1
    have en : (((m + 1 : Nat) : Int) + 1 - 2).toNat = m := by omega
    rw [en]
    refine ⟨lineLe (by simp), fun r0 nr0 => ⟨by omega, by omega, by omega, by omega, ?_⟩⟩
    refine forK_range (fun i σ H' => ∃ (r : Addr) (y3 : Option V), σ = [some (V.int ((m + 1 : Nat) : Int)), some (V.int v), some (V.ref r), y3, none] ∧ Same H H' ∧ H r = none ∧ H' r = some (.lst ((frow i).map V.int)))
      ⟨r0, none, rfl, same_new nr0, nr0, upd_same⟩ (fun i σ H' hi h => ?_) (fun σ H' h => ?_)
    · obtain ⟨r, y3, rfl, s1, nr, hr⟩ := h
      have fl := frow_len i
      walk_at "rd"
      refine ⟨lineLe (by simp), fun p1 np1 => ⟨_, same_new np1 _ _ hr, _, upd_same, lineLe (by simp; omega), fun r1 nr1 => ?_⟩⟩
      have hr1 : (upd (upd H' p1 (.lst [V.int 0])) r1 (.lst ((frow i).map V.int ++ [V.int 0]))) r1 = some (.lst ((frow i ++ [0]).map V.int)) := by rw [upd_same]; simp
      have s2 := (s1.trans (same_new (o := .lst [V.int 0]) np1)).trans (same_new (o := .lst ((frow i).map V.int ++ [V.int 0])) nr1)
      have nr1' : H r1 = none := (s1.trans (same_new np1)).free nr1
      generalize (upd (upd H' p1 (.lst [V.int 0])) r1 (.lst ((frow i).map V.int ++ [V.int 0]))) = H2 at hr1 s2 ⊢
      refine ⟨_, .inl (SqL.of hr1), ?_⟩
      walk_at "rd"
      refine ⟨by simp; omega, by simp; omega, fun D nD => ?_⟩
      refine lcK_mapR (fun j => V.int (fcell (i + 2) (frow i) j)) nD (by simp; omega) (fun j acc H3 QT hj hs hD hq => ?_) (fun H3 hs hD => ?_)
      · rw [List.length_append, List.length_singleton] at hj
        have hA : SqL K H3 r1 ((frow i ++ [0]).map V.int) := hs.seq (SqL.of hr1)
        walk_at "rd"
        refine ⟨_, hA, _, atI_ints (by omega) (by simp; omega), _, rfl, .inl ⟨by omega, by omega⟩, ?_⟩
        rw [Int.toNat_natCast]
        have e1 : (i + 2 : Nat) = (i + 2 : Nat) := rfl
        have goal : ∀ z : Int, z = (if 0 < j then (frow i ++ [0]).getD (j - 1) 0 else 0) → QT (V.int (((j : Int) + 1) * (frow i ++ [0]).getD j 0 + (2 + (i : Int) - (j : Int)) * z)) H3 := fun z hz => by
          have := hq H3 hs hD
          unfold fcell at this
          rw [← hz] at this
          have e : (((i + 2 : Nat) : Int) - (j : Int)) = 2 + (i : Int) - (j : Int) := by omega
          rw [e] at this
          exact this
        refine ite2 (fun c => ?_) (fun c => ?_)
        · refine ⟨_, hA, _, atI_ints (by omega) (by simp; omega), _, rfl, .inl ⟨by omega, by omega⟩, ?_⟩
          refine goal _ ?_
          rw [if_pos (by omega)]
          congr 1
          omega
        · exact ⟨.inl ⟨by omega, by omega⟩, goal _ (by rw [if_neg (by omega)])⟩
      · refine ⟨s2.trans hs, s2.free nD, ?_⟩
        rw [hD, frow, fstep, List.map_map, List.length_append]
        rfl
    · obtain ⟨r, y3, rfl, s1, nr, hr⟩ := h
      walk_at "rd"
      refine ⟨_, .inl (SqL.of hr), ?_⟩
      walk_at "rd"
      refine ite2 (fun c => ⟨_, SqL.of hr, _, atI_ints (by omega) (by omega), ?_⟩) (fun c => ?_)
      · exact q1 ok (by omega) _ s1
      · have := q1 ok (by omega) _ s1
        rw [List.getD_eq_getElem?_getD, List.getElem?_eq_none (by omega)] at this
        exact this

end
end Sh

namespace Sh
section
variable {P : Program} {w : World} {K : PySem.W.Frag} {mg : Str → Option Value} {base : Heap}
def sp_many_wrong (T : Tx K mg) : Sp := fun vs H Q E => ∃ (n w : Int), vs = [.int n, .int w] ∧ (1 ≤ n ∧ n ≤ 20 → 0 ≤ w → ∀ H', Same H H' → Q (.int ((wrow (n.toNat - 1)).getD w.toNat 0)) H') ∧ (¬ (1 ≤ n ∧ n ≤ 20) → E (.ref T.C_NoSize) none H) ∧ (1 ≤ n ∧ n ≤ 20 → w < 0 → E (.ref T.C_NoNumber) none H)
theorem ok_many_wrong (T : Tx K mg) : FnOk P w K mg base (L2.CX P w) 2 T.f_many_wrong T.fd_many_wrong ["size", "wanted"] (sp_many_wrong T) := by
  refine T.F_many_wrong.okX sc_many_wrong (fun vs H Q E h => ?_) (fun cdv A outer s H vs Q E hr h => ?_)
  · obtain ⟨n, w, rfl, _⟩ := h
    rfl
  · obtain ⟨n, w, rfl, q1, q2, q3⟩ := h
    refine ⟨_, (pss_cons (by exact (ps_expr (by exact (pe_call (ok_ask_size T) (hr.mono (by decide)) (by rfl) T.g_ask_size T.F_ask_size.kp T.b_ask_size .nil (passes_call (takes_of rfl rfl rfl rfl) (fun _ _ _ _ h => h)) (pa_cons (pv 0) pa_nil)))))
        (pss_cons (by exact (ps_if (pt_cmpR (op_lt) (pv 1) pe_int (nomark _)) (pss_one (by exact (ps_raise rfl (takes_of rfl rfl rfl rfl) (pmk_own PySem.F.excBase_ValueError T.x_NoNumber T.gC_NoNumber T.kC_NoNumber (raises_own T.bC_NoNumber T.tC_NoNumber) (by exact rfl))))) pss_nil))
        (pss_cons (by exact (ps_set (i := 2) sc_many_wrong.nd rfl (Or.inl rfl) (pe_lst (pa_cons pe_int pa_nil))))
        (pss_cons (by exact (ps_for (passes_of rfl) rfl (pi_range2 rfl T.m_range (pa_cons pe_int (pa_cons (pe_op op_add (pv 0) pe_int) pa_nil))) (pg_name (i := 3) sc_many_wrong.nd rfl (Or.inl rfl))
        (pss_cons (by exact (ps_set (i := 4) sc_many_wrong.nd rfl (Or.inl rfl) (pe_op op_rep (pe_lst (pa_cons pe_int pa_nil)) (pe_op op_sub (pe_op op_add (by exact (pe_callB call_lenS (by rfl) T.m_len PySem.boot_len (pa_cons (pv 2) pa_nil))) (pv 3)) pe_int))))
        (pss_cons (by exact (ps_for (passes_of rfl) rfl (pi_range1 rfl T.m_range (pa_cons (by exact (pe_callB call_lenS (by rfl) T.m_len PySem.boot_len (pa_cons (pv 2) pa_nil))) pa_nil)) (pg_name (i := 5) sc_many_wrong.nd rfl (Or.inl rfl))
        (pss_one (by exact (ps_for (passes_of rfl) rfl (pi_range1 rfl T.m_range (pa_cons (pv 3) pa_nil)) (pg_name (i := 6) sc_many_wrong.nd rfl (Or.inl rfl))
        (pss_one (by exact (ps_asg (pe_op op_add (pe_ix ix_list (pv 4) (pe_op op_add (pv 5) (pv 6)) (fun _ _ => rfl)) (pe_ix ix_list (pv 2) (pv 5) (fun _ _ => rfl))) (pg_sub (pv 4) (pe_op op_add (pv 5) (pv 6)) set_list)))))))))
        (pss_one (by exact (ps_set (i := 2) sc_many_wrong.nd rfl (Or.inl rfl) (pv 4))))))))
        (pss_one (by exact (ps_ret (by exact (pe_ifExp (pt_cmpR (op_lt) (pv 1) (by exact (pe_callB call_lenS (by rfl) T.m_len PySem.boot_len (pa_cons (pv 2) pa_nil))) (nomark _)) (pe_ix ix_list (pv 2) (pv 1) (fun _ _ => rfl)) pe_int))))))))), ?_⟩
    rw [show (start ["size", "wanted", "row", "k", "longer", "j", "step"] [V.int n, V.int w] : L2.St) = [some (V.int n), some (V.int w), none, none, none, none, none] from rfl]
    walk_at "rd"
    refine ⟨n, rfl, fun ok => ?_, q2⟩
    walk_at "rd"
    refine ite2 (fun c => q3 ok c) (fun c => ?_)
    obtain ⟨m, rfl⟩ : ∃ m : Nat, n = ((m + 1 : Nat) : Int) := ⟨n.toNat - 1, by omega⟩
    obtain ⟨v, rfl⟩ : ∃ v : Nat, w = (v : Int) := ⟨w.toNat, by omega⟩
    have em : ((m + 1 : Nat) : Int).toNat - 1 = m := by omega
    rw [em, Int.toNat_natCast] at q1
    have en : (((m + 1 : Nat) : Int) + 1 - 2).toNat = m := by omega
    rw [en]
    refine ⟨lineLe (by simp), fun r0 nr0 => ⟨by omega, by omega, by omega, by omega, ?_⟩⟩
    refine forK_range (fun i σ H' => ∃ (r : Addr) (y3 y4 y5 y6 : Option V), σ = [some (V.int ((m + 1 : Nat) : Int)), some (V.int v), some (V.ref r), y3, y4, y5, y6] ∧ Same H H' ∧ H r = none ∧ H' r = some (.lst ((wrow i).map V.int)))
      ⟨r0, _, _, _, _, rfl, same_new nr0, nr0, upd_same⟩ (fun i σ H' hi h => ?_) (fun σ H' h => ?_)
    · obtain ⟨r, y3, y4, y5, y6, rfl, s1, nr, hr⟩ := h
      have fl := wrow_len i
      have ft := tri_le i (by omega)
      walk_at "rd"
      refine ⟨lineLe (by simp), fun p1 np1 => ?_⟩
      refine ⟨_, .inl (SqL.of (same_new np1 _ _ hr)), ?_⟩
      walk_at "rd"
      obtain ⟨L, hL, eL⟩ : ∃ L : Nat, ((wrow i).length : Int) + (2 + (i : Int)) - 1 = (L : Int) ∧ L = (wrow i).length + (i + 2) - 1 := ⟨(wrow i).length + (i + 2) - 1, by omega, rfl⟩
      rw [hL]
      have hrep : (List.replicate L [V.int 0]).flatten = (wrows (wrow i) (i + 2) 0).map V.int := by
        rw [wrows, ← eL, List.map_replicate]
        clear hL eL
        induction L with
        | zero => rfl
        | succ L ih => rw [List.replicate_succ, List.flatten_cons, ih]; rfl
      refine ⟨_, upd_same, by omega, by omega, lineLe (by simp; omega), fun g ng => ?_⟩
      rw [Int.toNat_natCast]
      rw [hrep]
      have s2 := (s1.trans (same_new (o := .lst [V.int 0]) np1))
      have hr2 := same_new (o := .lst ((wrows (wrow i) (i + 2) 0).map V.int)) ng _ _ (same_new (o := .lst [V.int 0]) np1 _ _ hr)
      have hg2 : (upd (upd H' p1 (.lst [V.int 0])) g (.lst ((wrows (wrow i) (i + 2) 0).map V.int))) g = some (.lst ((wrows (wrow i) (i + 2) 0).map V.int)) := upd_same
      have ng' : H g = none := s2.free ng
      have hrg : r ≠ g := ne_of_none (same_new (o := .lst [V.int 0]) np1 _ _ hr) ng
      replace s2 := s2.trans (same_new (o := .lst ((wrows (wrow i) (i + 2) 0).map V.int)) ng)
      generalize (upd (upd H' p1 (.lst [V.int 0])) g (.lst ((wrows (wrow i) (i + 2) 0).map V.int))) = H2 at hr2 hg2 s2 ⊢
      refine ⟨_, .inl (SqL.of hr2), ?_⟩
      walk_at "rd"
      refine ⟨by omega, by omega, ?_⟩
      refine forK_range (fun j σ H' => ∃ (y5 y6 : Option V), σ = [some (V.int ((m + 1 : Nat) : Int)), some (V.int v), some (V.ref r), some (V.int (2 + (i : Int))), some (V.ref g), y5, y6] ∧ Same H H' ∧ H' r = some (.lst ((wrow i).map V.int)) ∧ H' g = some (.lst ((wrows (wrow i) (i + 2) j).map V.int)))
        ⟨_, _, rfl, s2, hr2, hg2⟩ (fun j σ H' hj h => ?_) (fun σ H' h => ?_)
      · obtain ⟨y5, y6, rfl, s3, hr3, hg3⟩ := h
        walk_at "rd"
        refine ⟨by omega, by omega, ?_⟩
        have e2 : (2 + (i : Int)).toNat = i + 2 := by omega
        rw [e2]
        refine forK_range (fun t σ H' => ∃ (y6 : Option V), σ = [some (V.int ((m + 1 : Nat) : Int)), some (V.int v), some (V.ref r), some (V.int (2 + (i : Int))), some (V.ref g), some (V.int j), y6] ∧ Same H H' ∧ H' r = some (.lst ((wrow i).map V.int)) ∧ H' g = some (.lst ((wadd (wrow i) j t (wrows (wrow i) (i + 2) j)).map V.int)))
          ⟨_, rfl, s3, hr3, hg3⟩ (fun t σ H' ht h => ?_) (fun σ H' h => ?_)
        · obtain ⟨y6, rfl, s4, hr4, hg4⟩ := h
          have wl : (wadd (wrow i) j t (wrows (wrow i) (i + 2) j)).length = (wrow i).length + (i + 2) - 1 := by rw [wadd_len, wrows_len]
          walk_at "rd"
          have ej : ((j : Int) + (t : Int)).toNat = j + t := by omega
          refine ⟨_, SqL.of hg4, _, atI_ints (by omega) (by omega), _, SqL.of hr4, _, atI_ints (by omega) (by omega), ?_⟩
          rw [ej]
          refine ⟨_, rfl, _, rfl, _, hg4, j + t, ?_, ?_⟩
          · unfold ixN
            rw [List.length_map, if_pos (by omega), if_pos (by omega), ej]
          · refine ⟨same_mut s4 ng', by rw [upd_ne hrg]; exact hr4, ?_⟩
            rw [upd_same, wadd, List.map_set]
            rfl
        · obtain ⟨y6, rfl, s4, hr4, hg4⟩ := h
          exact ⟨⟨_, _, rfl⟩, s4, hr4, hg4⟩
      · obtain ⟨y5, y6, rfl, s3, hr3, hg3⟩ := h
        walk_at "rd"
        exact ⟨s3, ng', hg3⟩
    · obtain ⟨r, y3, y4, y5, y6, rfl, s1, nr, hr⟩ := h
      walk_at "rd"
      refine ⟨_, .inl (SqL.of hr), ?_⟩
      walk_at "rd"
      refine ite2 (fun c => ⟨_, SqL.of hr, _, atI_ints (by omega) (by omega), ?_⟩) (fun c => ?_)
      · exact q1 ok (by omega) _ s1
      · have := q1 ok (by omega) _ s1
        rw [List.getD_eq_getElem?_getD, List.getElem?_eq_none (by omega)] at this
        exact this

end
end Sh

namespace Sh
section
variable {P : Program} {w : World} {K : PySem.W.Frag} {mg : Str → Option Value} {base : Heap}
def sp__law_cell_at (T : Tx K mg) : Sp := fun vs H Q _ => ∃ (a : Addr) (ns : List Int) (k : Int), vs = [.ref a, .int k] ∧ SqL K H a (ns.map V.int) ∧ 0 ≤ k ∧ Q (.int (ns.getD k.toNat 0)) H
theorem ok__law_cell_at (T : Tx K mg) : FnOk P w K mg base CX0 1 T.f__law_cell_at T.fd__law_cell_at ["script", "k"] (sp__law_cell_at T) := by
  refine T.F__law_cell_at.ok sc__law_cell_at (fun vs H Q E h => ?_) (fun cdv A outer s H vs Q E hr h => ?_)
  · obtain ⟨a, ns, k, rfl, _⟩ := h
    rfl
  · obtain ⟨a, ns, k, rfl, hS, hk, q⟩ := h
    refine ⟨_, (pss_cons (by exact (ps_if (pt_cmpR (op_lt) (pv 1) (by exact (pe_callB call_lenS (by rfl) T.m_len PySem.boot_len (pa_cons (pv 0) pa_nil))) (nomark _)) (pss_one (by exact (ps_ret (pe_ix ix_list (pv 0) (pv 1) (fun _ _ => rfl))))) pss_nil))
        (pss_one (by exact (ps_ret pe_int)))), ?_⟩
    rw [show (start ["script", "k"] [V.ref a, V.int k] : L2.St) = [some (V.ref a), some (V.int k)] from rfl]
    walk_at "rd"
    refine ⟨_, .inl hS, ?_⟩
    walk_at "rd"
    obtain ⟨j, rfl⟩ : ∃ j : Nat, k = (j : Int) := ⟨k.toNat, by omega⟩
    rw [Int.toNat_natCast] at q
    refine ite2 (fun c => ?_) (fun c => ?_)
    · have hi : j < ns.length := by omega
      refine ⟨_, hS, .int (ns.getD j 0), atI_nat ?_, q⟩
      rw [List.getElem?_map, List.getElem?_eq_getElem hi, List.getD_eq_getElem?_getD, List.getElem?_eq_getElem hi]
      rfl
    · have e : ns.getD j 0 = 0 := by
        rw [List.getD_eq_getElem?_getD, List.getElem?_eq_none (by omega)] <;> rfl
      rw [e] at q
      exact q

end
end Sh

namespace Sh
section
variable {P : Program} {w : World} {K : PySem.W.Frag} {mg : Str → Option Value} {base : Heap}
def sp__law_whole (T : Tx K mg) : Sp := fun vs H Q _ => ∃ (i : Int), vs = [.int i] ∧ Q (.bl true) H
theorem ok__law_whole (T : Tx K mg) : FnOk P w K mg base CX0 1 T.f__law_whole T.fd__law_whole ["found"] (sp__law_whole T) := by
  refine T.F__law_whole.ok sc__law_whole (fun vs H Q E h => ?_) (fun cdv A outer s H vs Q E hr h => ?_)
  · obtain ⟨i, rfl, _⟩ := h
    rfl
  · obtain ⟨i, rfl, q⟩ := h
    refine ⟨_, (pss_one (by exact (ps_ret (pe_and (by exact (pe_callB call_isi (by rfl) T.m_isinstance (by decide +kernel) (pa_cons (pv 0) (pa_cons (pe_bltn (v := .ty "int") (by rfl) T.m_int (by decide +kernel) rfl) pa_nil)))) (pe_one (pe_not (by exact (pe_callB call_isi (by rfl) T.m_isinstance (by decide +kernel) (pa_cons (pv 0) (pa_cons (pe_bltn (v := .ty "bool") (by rfl) T.m_bool (by decide +kernel) rfl) pa_nil)))))))))), ?_⟩
    rw [show (start ["found"] [V.int i] : L2.St) = [some (V.int i)] from rfl]
    walk_at "rd"
    refine ⟨_, _, _, _, true, rfl, .ty "int", .base (.int i), kit_ty (by decide +kernel), ?_⟩
    walk_at "rd"
    refine ⟨_, _, _, _, false, rfl, .ty "bool", .base (.int i), kit_ty (by decide +kernel), ?_⟩
    walk_at "rd"
    exact q

end
end Sh

namespace Sh
section
variable {P : Program} {w : World} {K : PySem.W.Frag} {mg : Str → Option Value} {base : Heap}
def sp__law_sum (T : Tx K mg) : Sp := fun vs H Q E => ∃ (a : Addr) (ns : List Int), vs = [.ref a] ∧ SqL K H a (ns.map V.int) ∧ ns.length ≤ 4000 ∧ ∀ H', Same H H' → Q (.int ((fallsL ns).map (· + 1)).sum) H'
theorem ok__law_sum (T : Tx K mg) : FnOk P w K mg base CX0 1 T.f__law_sum T.fd__law_sum ["shape"] (sp__law_sum T) := by
  refine T.F__law_sum.ok sc__law_sum (fun vs H Q E h => ?_) (fun cdv A outer s H vs Q E hr h => ?_)
  · obtain ⟨a, ns, rfl, _⟩ := h
    rfl
  · obtain ⟨a, ns, rfl, hS, hl, q1⟩ := h
    refine ⟨_, (pss_one (by exact (ps_ret (by exact (pe_callB (cr_sum rfl) (by rfl) T.m_sum (by decide +kernel) (pa_cons (by exact (pe_lc (own := [("k", 1)]) (g := gName 1) (tt := (tTest (tOp (rI0 fun i j => .bl (decide (j < i))) (tOp (rIxL K) (tVar 0) (tOp (rI0 fun i j => .int (i - j)) (tVar 1) (tC (.int 1)))) (tOp (rIxL K) (tVar 0) (tVar 1))))) (te := (tVar 1)) rfl sc__law_sum.nd (pi_range2 rfl T.m_range (pa_cons pe_int (pa_cons (by exact (pe_callB call_lenS (by rfl) T.m_len PySem.boot_len (pa_cons (pv 0) pa_nil))) pa_nil))) (blkOk_by (N := ["shape", "k"]) (sc := defScope s__law_sum) (by decide +kernel)) (fun _ _ _ _ _ => by exact (pg_name (i := 1) sc__law_sum.nd rfl (by first | exact Or.inl rfl | exact Or.inr rfl))) (fun _ _ _ _ _ => by exact (pts_one (pt_cmpR (op_gt) (pe_ix ix_list (pv 0) (pe_op op_sub (pv 1) pe_int) (fun _ _ => rfl)) (pe_ix ix_list (pv 0) (pv 1) (fun _ _ => rfl)) (nomark _)))) (fun _ _ _ _ _ => by exact (pv 1)))) pa_nil)))))), ?_⟩
    rw [show (start ["shape", "k"] [V.ref a] : L2.St) = [some (V.ref a), none] from rfl]
    walk_at "rd"
    refine ⟨_, .inl hS, ?_⟩
    walk_at "rd"
    refine ⟨by omega, by omega, by omega, by omega, fun D nD => ?_⟩
    have e0 : ((ns.length : Int) - 1).toNat = ns.length - 1 := by omega
    rw [e0]
    refine lcK_filtR (fun k => decide (ns.getD (k + 1) 0 < ns.getD k 0)) (fun k => V.int (1 + k)) nD (by omega) (fun i acc H2 Qt Qf hi hs hD ht hf => ?_) (fun H2 hs hD => ?_)
    · walk_at "rd"
      have hA : SqL K H2 a (ns.map V.int) := hs.seq hS
      refine ⟨_, hA, _, atI_ints (by omega) (by omega), _, hA, _, atI_ints (by omega) (by omega), ?_⟩
      have e1 : (1 + (i : Int)).toNat = i + 1 := by omega
      have e2 : (1 + (i : Int) - 1).toNat = i := by omega
      walk_at "rd"
      rw [e1, e2]
      exact ite2 (fun c => ht (decide_eq_true c) _ hs hD) (fun c => hf (decide_eq_false c) _ hs hD)
    · refine ⟨(fallsL ns).map (· + 1), SqL.of ?_, q1 _ hs⟩
      rw [hD, fallsL, List.map_map, List.map_map]
      congr 2
      refine List.map_congr_left fun k _ => ?_
      simp [Int.add_comm]

end
end Sh

namespace Sh
section
variable {P : Program} {w : World} {K : PySem.W.Frag} {mg : Str → Option Value} {base : Heap}
def sp__law_pairs (T : Tx K mg) : Sp := fun vs H Q E => ∃ (a : Addr) (ns : List Int), vs = [.ref a] ∧ SqL K H a (ns.map V.int) ∧ ns.length ≤ 4000 ∧ Q (.int (inv ns)) H
theorem ok__law_pairs (T : Tx K mg) : FnOk P w K mg base CX0 1 T.f__law_pairs T.fd__law_pairs ["shape"] (sp__law_pairs T) := by
  refine T.F__law_pairs.ok sc__law_pairs (fun vs H Q E h => ?_) (fun cdv A outer s H vs Q E hr h => ?_)
  · obtain ⟨a, ns, rfl, _⟩ := h
    rfl
  · obtain ⟨a, ns, rfl, hS, hl, q1⟩ := h
    refine ⟨_, (pss_cons (by exact (ps_set (i := 1) sc__law_pairs.nd rfl (Or.inl rfl) pe_int))
        (pss_cons (by exact (ps_for PassesOwn.never rfl (pi_range1 rfl T.m_range (pa_cons (by exact (pe_callB call_lenS (by rfl) T.m_len PySem.boot_len (pa_cons (pv 0) pa_nil))) pa_nil)) (pg_name (i := 2) sc__law_pairs.nd rfl (Or.inl rfl))
        (pss_one (by exact (ps_for PassesOwn.never rfl (pi_range1 rfl T.m_range (pa_cons (pv 2) pa_nil)) (pg_name (i := 3) sc__law_pairs.nd rfl (Or.inl rfl))
        (pss_one (by exact (ps_set (i := 1) sc__law_pairs.nd rfl (Or.inl rfl) (pe_op op_add (pv 1) (by exact (pe_callTy call_intS (by rfl) T.m_int (by decide +kernel) (pa_cons (pe_cmpR (op_gt) (pe_ix ix_list (pv 0) (pv 3) (fun _ _ => rfl)) (pe_ix ix_list (pv 0) (pv 2) (fun _ _ => rfl)) (nomark _)) pa_nil))))))))))))
        (pss_one (by exact (ps_ret (pv 1)))))), ?_⟩
    rw [show (start ["shape", "found", "j", "i"] [V.ref a] : L2.St) = [some (V.ref a), none, none, none] from rfl]
    walk_at "rd"
    refine ⟨_, .inl hS, ?_⟩
    walk_at "rd"
    refine ⟨by omega, by omega, ?_⟩
    refine forK_range (fun j σ H' => ∃ (y2 y3 : Option V), σ = [some (V.ref a), some (V.int (inv (ns.take j))), y2, y3] ∧ H' = H) ⟨none, none, by simp [inv], rfl⟩ (fun j σ H' hj h => ?_) (fun σ H' h => ?_)
    · obtain ⟨y2, y3, rfl, rfl⟩ := h
      walk_at "rd"
      refine ⟨by omega, by omega, ?_⟩
      refine forK_range (fun i σ H2 => ∃ (y3 : Option V), σ = [some (V.ref a), some (V.int ((inv (ns.take j) : Int) + ((ns.take i).filter (fun y => decide (ns.getD j 0 < y))).length)), some (V.int j), y3] ∧ H2 = H') ⟨y3, by simp, rfl⟩ (fun i σ H2 hi h => ?_) (fun σ H2 h => ?_)
      · obtain ⟨y3, rfl, rfl⟩ := h
        walk_at "rd"
        refine ⟨_, hS, _, atI_ints (by omega) (by omega), _, hS, _, atI_ints (by omega) (by omega), ?_⟩
        walk_at "rd"
        rw [take_get (show i < ns.length by omega), List.filter_append, List.length_append]
        by_cases c : ns.getD j 0 < ns.getD i 0
        · rw [List.filter_cons_of_pos (by simpa using c), if_pos c]; simp; omega
        · rw [List.filter_cons_of_neg (by simpa using c), if_neg c]; simp
      · obtain ⟨y3, rfl, rfl⟩ := h
        walk_at "rd"
        have := inv_take hj
        omega
    · obtain ⟨y2, y3, rfl, rfl⟩ := h
      walk_at "rd"
      rw [List.take_length]
      exact q1

end
end Sh

namespace Sh
section
variable {P : Program} {w : World} {K : PySem.W.Frag} {mg : Str → Option Value} {base : Heap}
def spL (K : PySem.W.Frag) : Sp := fun vs H Q _ => ∃ (a : Addr) (ns : List Int), vs = [.ref a] ∧ SqL K H a (ns.map V.int) ∧ ns.length ≤ 63 ∧ ∀ H', Q (.bl true) H'
def sp_law (T : Tx K mg) : Sp := spL K
theorem count_take {α : Type} {l : List α} {f : α → Bool} {i : Nat} {x : α} (h : l[i]? = some x) : (l.take (i + 1)).countP f = (l.take i).countP f + if f x = true then 1 else 0 := by
  rw [take_more h, List.countP_append]
  by_cases c : f x = true
  · rw [List.countP_cons_of_pos c, if_pos c]; rfl
  · rw [List.countP_cons_of_neg c, if_neg c]; rfl
theorem ok_law (T : Tx K mg) : FnOk P w K mg base CX0 3 T.f_law T.fd_law ["script"] (sp_law T) := by
  refine T.F_law.ok sc_law (fun vs H Q E h => ?_) (fun cdv A outer s H vs Q E hr h => ?_)
  · obtain ⟨a, ns, rfl, _⟩ := h
    rfl
  · obtain ⟨a, ns, rfl, hS, hlen, q⟩ := h
    refine ⟨_, (pss_cons (by exact (ps_set (i := 1) sc_law.nd rfl (Or.inl rfl) (pe_op op_add pe_int (pe_op op_mod (by exact (pe_call (ok__law_cell_at T) (hr.mono (by decide)) (by rfl) T.g__law_cell_at T.F__law_cell_at.kp T.b__law_cell_at .nil pass0 (pa_cons (pv 0) (pa_cons pe_int pa_nil)))) pe_int))))
        (pss_cons (by exact (ps_set (i := 2) sc_law.nd rfl (Or.inr rfl) (pe_op op_mod (by exact (pe_call (ok__law_cell_at T) (hr.mono (by decide)) (by rfl) T.g__law_cell_at T.F__law_cell_at.kp T.b__law_cell_at .nil pass0 (pa_cons (pv 0) (pa_cons pe_int pa_nil)))) pe_int)))
        (pss_cons (by exact (ps_set (i := 3) sc_law.nd rfl (Or.inl rfl) (by exact (pe_call (ok__law_all T) (hr.mono (by decide)) (by rfl) T.g__law_all T.F__law_all.kp T.b__law_all .nil pass0 (pa_cons (pv 1) pa_nil)))))
        (pss_cons (by exact (ps_set (i := 4) sc_law.nd rfl (Or.inl rfl) pe_int))
        (pss_cons (by exact (ps_for PassesOwn.never rfl (pi_list (pv 3)) (pg_name (i := 5) sc_law.nd rfl (Or.inr rfl))
        (pss_one (by exact (ps_set (i := 4) sc_law.nd rfl (Or.inl rfl) (pe_op op_add (pv 4) (by exact (pe_callTy call_intS (by rfl) T.m_int (by decide +kernel) (pa_cons (pe_cmpR (op_eq) (by exact (pe_callB call_lenS (by rfl) T.m_len PySem.boot_len (pa_cons (by exact (pe_lc (own := [("k", 7)]) (g := gName 7) (tt := (tTest (tOp (rI0 fun i j => .bl (decide (j < i))) (tOp (rIxL K) (tVar 5) (tOp (rI0 fun i j => .int (i - j)) (tVar 7) (tC (.int 1)))) (tOp (rIxL K) (tVar 5) (tVar 7))))) (te := (tVar 7)) rfl sc_law.nd (pi_range2 rfl T.m_range (pa_cons pe_int (pa_cons (pv 1) pa_nil))) (blkOk_by (N := ["script", "size", "wanted", "some", "due", "shape", "found", "k"]) (sc := defScope s_law) (by decide +kernel)) (fun _ _ _ _ _ => by exact (pg_name (i := 7) sc_law.nd rfl (by first | exact Or.inl rfl | exact Or.inr rfl))) (fun _ _ _ _ _ => by exact (pts_one (pt_cmpR (op_gt) (pe_ix ix_list (pv 5) (pe_op op_sub (pv 7) pe_int) (fun _ _ => rfl)) (pe_ix ix_list (pv 5) (pv 7) (fun _ _ => rfl)) (nomark _)))) (fun _ _ _ _ _ => by exact (pv 7)))) pa_nil))) (pv 2) (nomark _)) pa_nil)))))))))
        (pss_cons (by exact (ps_set (i := 6) sc_law.nd rfl (Or.inl rfl) (by exact (pe_call (ok_many_falls T) (hr.mono (by decide)) (by rfl) T.g_many_falls T.F_many_falls.kp T.b_many_falls .nil passL (pa_cons (pv 1) (pa_cons (pv 2) pa_nil))))))
        (pss_cons (by exact (ps_if (PW.pt (pw_or (pt_not (pt_val (by exact (pe_call (ok__law_whole T) (hr.mono (by decide)) (by rfl) T.g__law_whole T.F__law_whole.kp T.b__law_whole .nil pass0 (pa_cons (pv 6) pa_nil))))) (pw_or1 (pt_cmpR (op_ne) (pv 6) (pv 4) (nomark _))))) (pss_one (by exact (ps_ret pe_bl))) pss_nil))
        (pss_cons (by exact (ps_set (i := 6) sc_law.nd rfl (Or.inl rfl) (by exact (pe_call (ok_many_wrong T) (hr.mono (by decide)) (by rfl) T.g_many_wrong T.F_many_wrong.kp T.b_many_wrong .nil passL (pa_cons (pv 1) (pa_cons (pv 2) pa_nil))))))
        (pss_cons (by exact (ps_if (PW.pt (pw_or (pt_not (pt_val (by exact (pe_call (ok__law_whole T) (hr.mono (by decide)) (by rfl) T.g__law_whole T.F__law_whole.kp T.b__law_whole .nil pass0 (pa_cons (pv 6) pa_nil))))) (pw_or1 (pt_cmpR (op_ne) (pv 6) (by exact (pe_callB call_lenS (by rfl) T.m_len PySem.boot_len (pa_cons (by exact (pe_lc (own := [("shape", 5)]) (g := gName 5) (tt := (tTest (tOp rEq (tCall (sp__law_pairs T) [] E0 (tCons (tVar 5) tNil)) (tVar 2)))) (te := (tVar 5)) rfl sc_law.nd (pi_list (pv 3)) (blkOk_by (N := ["script", "size", "wanted", "some", "due", "shape", "found", "k"]) (sc := defScope s_law) (by decide +kernel)) (fun _ _ _ _ _ => by exact (pg_name (i := 5) sc_law.nd rfl (by first | exact Or.inl rfl | exact Or.inr rfl))) (fun _ _ _ _ _ => by exact (pts_one (pt_cmpR (op_eq) (by exact (pe_call (ok__law_pairs T) (hr.mono (by decide)) (by rfl) T.g__law_pairs T.F__law_pairs.kp T.b__law_pairs .nil pass0 (pa_cons (pv 5) pa_nil))) (pv 2) (nomark _)))) (fun _ _ _ _ _ => by exact (pv 5)))) pa_nil))) (nomark _))))) (pss_one (by exact (ps_ret pe_bl))) pss_nil))
        (pss_one (by exact (ps_ret (pe_cmpR (op_eq) (pv 6) (by exact (pe_callB call_lenS (by rfl) T.m_len PySem.boot_len (pa_cons (by exact (pe_lc (own := [("shape", 5)]) (g := gName 5) (tt := (tTest (tOp rEq (tCall (sp__law_sum T) [] E0 (tCons (tVar 5) tNil)) (tVar 2)))) (te := (tVar 5)) rfl sc_law.nd (pi_list (pv 3)) (blkOk_by (N := ["script", "size", "wanted", "some", "due", "shape", "found", "k"]) (sc := defScope s_law) (by decide +kernel)) (fun _ _ _ _ _ => by exact (pg_name (i := 5) sc_law.nd rfl (by first | exact Or.inl rfl | exact Or.inr rfl))) (fun _ _ _ _ _ => by exact (pts_one (pt_cmpR (op_eq) (by exact (pe_call (ok__law_sum T) (hr.mono (by decide)) (by rfl) T.g__law_sum T.F__law_sum.kp T.b__law_sum .nil pass0 (pa_cons (pv 5) pa_nil))) (pv 2) (nomark _)))) (fun _ _ _ _ _ => by exact (pv 5)))) pa_nil))) (nomark _)))))))))))))), ?_⟩
    rw [show (start ["script", "size", "wanted", "some", "due", "shape", "found", "k"] [V.ref a] : L2.St) = [some (V.ref a), none, none, none, none, none, none, none] from rfl]
    refine seq_intro ?_
    walk_at "r1"
    refine ⟨a, ns, _, rfl, hS, by decide, ?_⟩
    walk_at "r1"
    obtain ⟨n, hn, hn6⟩ : ∃ n : Nat, 1 + ns.getD (Int.toNat 0) 0 % 6 = ((n + 1 : Nat) : Int) ∧ n < 6 := ⟨(ns.getD (Int.toNat 0) 0 % 6).toNat, by omega, by omega⟩
    rw [hn]
    refine seq_intro ?_
    walk_at "r1"
    refine ⟨a, ns, _, rfl, hS, by decide, ?_⟩
    generalize ns.getD (Int.toNat 1) 0 = c1
    walk_at "r1"
    obtain ⟨w, hw, hw2⟩ : ∃ w : Nat, c1 % 18 = (w : Int) ∧ w < 18 := ⟨(c1 % 18).toNat, by omega, by omega⟩
    rw [hw]
    refine seq_intro ?_
    walk_at "r1"
    refine ⟨n + 1, rfl, by omega, fun rs H1 p s1 np hp ll pm pw => ?_⟩
    have rl : rs.length ≤ 720 := by
      have h1 := pm.length_eq
      rw [List.length_map] at h1
      rw [h1]; exact allU_len _ (by omega)
    have rm : ∀ b ∈ rs, b.2.length = n + 1 := fun b hb => allU_mem _ _ (pm.mem_iff.mp (List.mem_map.mpr ⟨b, hb, rfl⟩))
    have f1 := few_falls n hn6 w hw2
    have f2 := few_wrong n hn6 w hw2
    have f3 := few_sum n hn6 w hw2
    rw [List.countP_map] at f1 f2 f3
    rw [← pm.countP_eq, List.countP_map] at f1 f2 f3
    rw [← wrow_vrow] at f2 f3
    walk_at "r1"
    refine seq_intro ?_
    walk_at "r1"
    refine seq_intro ?_
    walk_at "r1"
    refine ⟨⟨_, SqL.of hp⟩, ?_⟩
    refine forK_map rs (fun b => V.ref b.1) (fun i σ H' => ∃ (y5 : Option V), σ = [some (V.ref a), some (V.int ((n + 1 : Nat) : Int)), some (V.int w), some (V.ref p), some (V.int ((rs.take i).countP (((· == w) ∘ fun x => (fallsL x).length) ∘ Prod.snd) : Nat)), y5, none, none] ∧ Same H1 H')
      ⟨_, rfl, Same.refl _⟩ (fun i σ H' _ h => ?_) (fun i b σ H' hb h => ?_) (fun σ H2 h => ?_)
    · obtain ⟨y5, rfl, s2⟩ := h
      exact SqL.of (s2 _ _ hp)
    · obtain ⟨y5, rfl, s2⟩ := h
      walk_at "r1"
      refine ⟨by omega, by omega, by omega, by omega, fun D nD => ?_⟩
      have hbm := List.mem_of_getElem? hb
      have hb1 := ll b hbm
      have hbl := rm b hbm
      rw [show (((n + 1 : Nat) : Int) - 1).toNat = b.2.length - 1 by omega]
      refine lcK_filtR (fun k => decide (b.2.getD (k + 1) 0 < b.2.getD k 0)) (fun k => V.int (1 + k)) nD (by omega) (fun i acc H2 Qt Qf hi hs hD ht hf => ?_) (fun H2 hs hD => ?_)
      · walk_at "r1"
        have hA : SqL K H2 b.1 (b.2.map V.int) := SqL.of (hs _ _ (s2 _ _ hb1))
        refine ⟨_, hA, _, atI_ints (by omega) (by omega), _, hA, _, atI_ints (by omega) (by omega), ?_⟩
        have e1 : (1 + (i : Int)).toNat = i + 1 := by omega
        have e2 : (1 + (i : Int) - 1).toNat = i := by omega
        walk_at "r1"
        rw [e1, e2]
        exact ite2 (fun c => ht (decide_eq_true c) _ hs hD) (fun c => hf (decide_eq_false c) _ hs hD)
      · have el : ((((List.range (b.2.length - 1)).filter fun k => decide (b.2.getD (k + 1) 0 < b.2.getD k 0))).map fun k : Nat => V.int (1 + (k : Int))).length = (fallsL b.2).length := by simp [fallsL]
        refine ⟨_, .inl (SqL.of hD), rfl, ?_, s2.trans hs⟩
        rw [el, count_take hb]
        by_cases c : (fallsL b.2).length = w
        · rw [if_pos (by omega), if_pos (by simpa using c)]; rfl
        · rw [if_neg (by omega), if_neg (by simpa using c)]; simp
    obtain ⟨y5, rfl, s2⟩ := h
    rw [List.take_length]
    rw [← f1]
    have hN : 1 ≤ ((n + 1 : Nat) : Int) ∧ ((n + 1 : Nat) : Int) ≤ 20 := by omega
    have em : ((n + 1 : Nat) : Int).toNat - 1 = n := by omega
    walk_at "r1"
    refine seq_intro ?_
    walk_at "r1"
    refine ⟨_, _, rfl, fun _ _ H3 s3 => ?_, fun z => absurd hN z, fun _ z => by omega⟩
    rw [em, Int.toNat_natCast]
    refine seq_intro ?_
    walk_at "r1"
    refine ⟨_, rfl, ?_⟩
    walk_at "r1"
    refine ⟨rfl, ?_⟩
    refine seq_intro ?_
    walk_at "r1"
    refine ⟨_, _, rfl, fun _ _ H4 s4 => ?_, fun z => absurd hN z, fun _ z => by omega⟩
    rw [em, Int.toNat_natCast]
    refine seq_intro ?_
    walk_at "r1"
    refine ⟨_, rfl, ?_⟩
    have t4 := (s2.trans s3).trans s4
    walk_at "r1"
    refine ⟨⟨_, SqL.of (t4 _ _ hp)⟩, fun D nD => ?_⟩
    refine lcK_filt rs (fun b => V.ref b.1) (((· == w) ∘ inv) ∘ Prod.snd) (fun b => V.ref b.1) nD (SqL.of (t4 _ _ hp)) (by omega) (fun i b acc H5 Qt Qf hb hs hD ht hf => ?_) (fun H5 s5 hD => ?_)
    · have hbm := List.mem_of_getElem? hb
      have hbl := rm b hbm
      walk_at "r1"
      refine ⟨b.1, b.2, rfl, SqL.of (hs _ _ (t4 _ _ (ll b hbm))), by omega, ?_⟩
      refine ⟨rfl, ite2 (fun c => ht ?_ _ hs hD) (fun c => hf ?_ _ hs hD)⟩
      · have c' : (inv b.2 : Int) = (w : Int) := by simpa using c
        simp; omega
      · have c' : ¬ (inv b.2 : Int) = (w : Int) := by simpa using c
        simp; omega
    refine ⟨_, .inl (SqL.of hD), rfl, ?_⟩
    rw [List.length_map, ← List.countP_eq_length_filter, ← f2, if_neg (fun z => z rfl)]
    have t5 := t4.trans s5
    walk_at "r1"
    refine ⟨⟨_, SqL.of (t5 _ _ hp)⟩, fun D2 nD2 => ?_⟩
    refine lcK_filt rs (fun b => V.ref b.1) (((· == (w : Int)) ∘ majI) ∘ Prod.snd) (fun b => V.ref b.1) nD2 (SqL.of (t5 _ _ hp)) (by omega) (fun i b acc H6 Qt Qf hb hs hD ht hf => ?_) (fun H6 s6 hD => ?_)
    · have hbm := List.mem_of_getElem? hb
      have hbl := rm b hbm
      walk_at "r1"
      refine ⟨b.1, b.2, rfl, SqL.of (hs _ _ (t5 _ _ (ll b hbm))), by omega, fun H7 s7 => ?_⟩
      refine ⟨rfl, ite2 (fun c => ht (by simpa [majI] using c) _ (hs.trans s7) (s7 _ _ hD)) (fun c => hf (by simpa [majI] using c) _ (hs.trans s7) (s7 _ _ hD))⟩
    refine ⟨_, .inl (SqL.of hD), rfl, ?_⟩
    rw [List.length_map, ← List.countP_eq_length_filter, ← f3, decide_eq_true rfl]
    exact q _

end
end Sh

namespace Sh
theorem all_mk {l : PySem.W.OpenLaw} {w : World} {K : PySem.W.Frag} {h : Heap} {mg : Str → Option Value} {fa : Addr} (X : K.In h) (G : h.Ns mainGlobals mg) (hfa : mg "law" = some (.ref fa))
    {f0 : Addr} {od0 an0 : Option Addr} {sl0 : Array (Option Value)} {oc0 kV0 dc0 pm0 cd0 ct0 : Value}
    {f1 : Addr} {od1 an1 : Option Addr} {sl1 : Array (Option Value)} {oc1 kV1 dc1 pm1 cd1 ct1 : Value}
    {f2 : Addr} {od2 an2 : Option Addr} {sl2 : Array (Option Value)} {oc2 kV2 dc2 pm2 cd2 ct2 : Value}
    {f3 : Addr} {od3 an3 : Option Addr} {sl3 : Array (Option Value)} {oc3 kV3 dc3 pm3 cd3 ct3 : Value}
    {f4 : Addr} {od4 an4 : Option Addr} {sl4 : Array (Option Value)} {oc4 kV4 dc4 pm4 cd4 ct4 : Value}
    {f5 : Addr} {od5 an5 : Option Addr} {sl5 : Array (Option Value)} {oc5 kV5 dc5 pm5 cd5 ct5 : Value}
    {f6 : Addr} {od6 an6 : Option Addr} {sl6 : Array (Option Value)} {oc6 kV6 dc6 pm6 cd6 ct6 : Value}
    {f7 : Addr} {od7 an7 : Option Addr} {sl7 : Array (Option Value)} {oc7 kV7 dc7 pm7 cd7 ct7 : Value}
    {f8 : Addr} {od8 an8 : Option Addr} {sl8 : Array (Option Value)} {oc8 kV8 dc8 pm8 cd8 ct8 : Value}
    {t0 : Tok}
    {C0 : Addr}
    {C1 : Addr}
    (a0 : PySem.W.nsIn K mainGlobals "_law_all" = some (some (.ref f0)))
    (l0 : K.lookup f0 = some ⟨oc0, od0, .func (PySem.W.fnOf "_law_all" "_law_all" (defArgs s__law_all) (defBody s__law_all) (defScope s__law_all) .none kV0 dc0 pm0 an0 cd0 ct0), sl0⟩)
    (c0 : PySem.W.codeIn K cd0 "_law_all" = true)
    (k0 : PySem.W.keepIn K (.ref f0) = true)
    (a1 : PySem.W.nsIn K mainGlobals "ask_size" = some (some (.ref f1)))
    (l1 : K.lookup f1 = some ⟨oc1, od1, .func (PySem.W.fnOf "ask_size" "ask_size" (defArgs s_ask_size) (defBody s_ask_size) (defScope s_ask_size) .none kV1 dc1 pm1 an1 cd1 ct1), sl1⟩)
    (c1 : PySem.W.codeIn K cd1 "ask_size" = true)
    (k1 : PySem.W.keepIn K (.ref f1) = true)
    (a2 : PySem.W.nsIn K mainGlobals "many_falls" = some (some (.ref f2)))
    (l2 : K.lookup f2 = some ⟨oc2, od2, .func (PySem.W.fnOf "many_falls" "many_falls" (defArgs s_many_falls) (defBody s_many_falls) (defScope s_many_falls) .none kV2 dc2 pm2 an2 cd2 ct2), sl2⟩)
    (c2 : PySem.W.codeIn K cd2 "many_falls" = true)
    (k2 : PySem.W.keepIn K (.ref f2) = true)
    (a3 : PySem.W.nsIn K mainGlobals "many_wrong" = some (some (.ref f3)))
    (l3 : K.lookup f3 = some ⟨oc3, od3, .func (PySem.W.fnOf "many_wrong" "many_wrong" (defArgs s_many_wrong) (defBody s_many_wrong) (defScope s_many_wrong) .none kV3 dc3 pm3 an3 cd3 ct3), sl3⟩)
    (c3 : PySem.W.codeIn K cd3 "many_wrong" = true)
    (k3 : PySem.W.keepIn K (.ref f3) = true)
    (a4 : PySem.W.nsIn K mainGlobals "_law_cell_at" = some (some (.ref f4)))
    (l4 : K.lookup f4 = some ⟨oc4, od4, .func (PySem.W.fnOf "_law_cell_at" "_law_cell_at" (defArgs s__law_cell_at) (defBody s__law_cell_at) (defScope s__law_cell_at) .none kV4 dc4 pm4 an4 cd4 ct4), sl4⟩)
    (c4 : PySem.W.codeIn K cd4 "_law_cell_at" = true)
    (k4 : PySem.W.keepIn K (.ref f4) = true)
    (a5 : PySem.W.nsIn K mainGlobals "_law_whole" = some (some (.ref f5)))
    (l5 : K.lookup f5 = some ⟨oc5, od5, .func (PySem.W.fnOf "_law_whole" "_law_whole" (defArgs s__law_whole) (defBody s__law_whole) (defScope s__law_whole) .none kV5 dc5 pm5 an5 cd5 ct5), sl5⟩)
    (c5 : PySem.W.codeIn K cd5 "_law_whole" = true)
    (k5 : PySem.W.keepIn K (.ref f5) = true)
    (a6 : PySem.W.nsIn K mainGlobals "_law_sum" = some (some (.ref f6)))
    (l6 : K.lookup f6 = some ⟨oc6, od6, .func (PySem.W.fnOf "_law_sum" "_law_sum" (defArgs s__law_sum) (defBody s__law_sum) (defScope s__law_sum) .none kV6 dc6 pm6 an6 cd6 ct6), sl6⟩)
    (c6 : PySem.W.codeIn K cd6 "_law_sum" = true)
    (k6 : PySem.W.keepIn K (.ref f6) = true)
    (a7 : PySem.W.nsIn K mainGlobals "_law_pairs" = some (some (.ref f7)))
    (l7 : K.lookup f7 = some ⟨oc7, od7, .func (PySem.W.fnOf "_law_pairs" "_law_pairs" (defArgs s__law_pairs) (defBody s__law_pairs) (defScope s__law_pairs) .none kV7 dc7 pm7 an7 cd7 ct7), sl7⟩)
    (c7 : PySem.W.codeIn K cd7 "_law_pairs" = true)
    (k7 : PySem.W.keepIn K (.ref f7) = true)
    (a8 : PySem.W.nsIn K mainGlobals "law" = some (some (.ref f8)))
    (l8 : K.lookup f8 = some ⟨oc8, od8, .func (PySem.W.fnOf "law" "law" (defArgs s_law) (defBody s_law) (defScope s_law) .none kV8 dc8 pm8 an8 cd8 ct8), sl8⟩)
    (c8 : PySem.W.codeIn K cd8 "law" = true)
    (k8 : PySem.W.keepIn K (.ref f8) = true)
    (z0 : PySem.W.nsIn K mainGlobals "range" = some none)
    (z1 : PySem.W.nsIn K mainGlobals "sorted" = some none)
    (z2 : PySem.W.nsIn K mainGlobals "len" = some none)
    (z3 : PySem.W.nsIn K mainGlobals "isinstance" = some none)
    (z4 : PySem.W.nsIn K mainGlobals "int" = some none)
    (z5 : PySem.W.nsIn K mainGlobals "bool" = some none)
    (z6 : PySem.W.nsIn K mainGlobals "sum" = some none)
    (n0 : PySem.W.nsIn K mainGlobals "MOST_SIZE" = some (some (.int 20 t0)))
    (x0 : PySem.W.nsIn K mainGlobals "NoSize" = some (some (.ref C0)))
    (xe0 : PySem.W.excIn K C0 [.type "ValueError", .type "Exception", .type "BaseException", .type "object"] "ValueError.__new__" = true)
    (xk0 : PySem.W.keepIn K (.ref C0) = true)
    (xb0 : PySem.W.subIn K (.ref C0) (.type "BaseException") = some true)
    (xt0 : PySem.W.typeIn K (.ref C0) = some (.type "type"))
    (x1 : PySem.W.nsIn K mainGlobals "NoNumber" = some (some (.ref C1)))
    (xe1 : PySem.W.excIn K C1 [.type "ValueError", .type "Exception", .type "BaseException", .type "object"] "ValueError.__new__" = true)
    (xk1 : PySem.W.keepIn K (.ref C1) = true)
    (xb1 : PySem.W.subIn K (.ref C1) (.type "BaseException") = some true)
    (xt1 : PySem.W.typeIn K (.ref C1) = some (.type "type")) :
    ∃ fd : FuncData, (∀ (s : Shared) (v : Value), BindsTo s fd ⟨[v], []⟩ [("script", v)]) ∧ ∀ base : Heap, K.In base → base.Ns mainGlobals mg → FnOk l.prog w K mg base CX0 3 fa fd ["script"] (spL K) := by
  have e := hfa.symm.trans (PySem.W.mg_of X G a8)
  cases e
  have F0 := fun_mk (st := s__law_all) l0 c0 k0
  have b0 := F0.binds (ps := ["size"]) fun _ _ _ _ _ _ us hl => match us, hl with | [_], _ => rfl
  have F1 := fun_mk (st := s_ask_size) l1 c1 k1
  have b1 := F1.binds (ps := ["size"]) fun _ _ _ _ _ _ us hl => match us, hl with | [_], _ => rfl
  have F2 := fun_mk (st := s_many_falls) l2 c2 k2
  have b2 := F2.binds (ps := ["size", "wanted"]) fun _ _ _ _ _ _ us hl => match us, hl with | [_, _], _ => rfl
  have F3 := fun_mk (st := s_many_wrong) l3 c3 k3
  have b3 := F3.binds (ps := ["size", "wanted"]) fun _ _ _ _ _ _ us hl => match us, hl with | [_, _], _ => rfl
  have F4 := fun_mk (st := s__law_cell_at) l4 c4 k4
  have b4 := F4.binds (ps := ["script", "k"]) fun _ _ _ _ _ _ us hl => match us, hl with | [_, _], _ => rfl
  have F5 := fun_mk (st := s__law_whole) l5 c5 k5
  have b5 := F5.binds (ps := ["found"]) fun _ _ _ _ _ _ us hl => match us, hl with | [_], _ => rfl
  have F6 := fun_mk (st := s__law_sum) l6 c6 k6
  have b6 := F6.binds (ps := ["shape"]) fun _ _ _ _ _ _ us hl => match us, hl with | [_], _ => rfl
  have F7 := fun_mk (st := s__law_pairs) l7 c7 k7
  have b7 := F7.binds (ps := ["shape"]) fun _ _ _ _ _ _ us hl => match us, hl with | [_], _ => rfl
  have F8 := fun_mk (st := s_law) l8 c8 k8
  have b8 := F8.binds (ps := ["script"]) fun _ _ _ _ _ _ us hl => match us, hl with | [_], _ => rfl
  let T : Tx K mg := {
    f__law_all := _, fd__law_all := _, F__law_all := F0, g__law_all := PySem.W.mg_of X G a0, b__law_all := b0,
    f_ask_size := _, fd_ask_size := _, F_ask_size := F1, g_ask_size := PySem.W.mg_of X G a1, b_ask_size := b1,
    f_many_falls := _, fd_many_falls := _, F_many_falls := F2, g_many_falls := PySem.W.mg_of X G a2, b_many_falls := b2,
    f_many_wrong := _, fd_many_wrong := _, F_many_wrong := F3, g_many_wrong := PySem.W.mg_of X G a3, b_many_wrong := b3,
    f__law_cell_at := _, fd__law_cell_at := _, F__law_cell_at := F4, g__law_cell_at := PySem.W.mg_of X G a4, b__law_cell_at := b4,
    f__law_whole := _, fd__law_whole := _, F__law_whole := F5, g__law_whole := PySem.W.mg_of X G a5, b__law_whole := b5,
    f__law_sum := _, fd__law_sum := _, F__law_sum := F6, g__law_sum := PySem.W.mg_of X G a6, b__law_sum := b6,
    f__law_pairs := _, fd__law_pairs := _, F__law_pairs := F7, g__law_pairs := PySem.W.mg_of X G a7, b__law_pairs := b7,
    f_law := _, fd_law := _, F_law := F8, g_law := PySem.W.mg_of X G a8, b_law := b8,
    m_range := PySem.W.mg_none_of X G z0,
    m_sorted := PySem.W.mg_none_of X G z1,
    m_len := PySem.W.mg_none_of X G z2,
    m_isinstance := PySem.W.mg_none_of X G z3,
    m_int := PySem.W.mg_none_of X G z4,
    m_bool := PySem.W.mg_none_of X G z5,
    m_sum := PySem.W.mg_none_of X G z6,
    t_MOST_SIZE := _, g_MOST_SIZE := PySem.W.mg_of X G n0,
    C_NoSize := _, gC_NoSize := PySem.W.mg_of X G x0, x_NoSize := xe0, kC_NoSize := xk0, bC_NoSize := xb0, tC_NoSize := xt0,
    C_NoNumber := _, gC_NoNumber := PySem.W.mg_of X G x1, x_NoNumber := xe1, kC_NoNumber := xk1, bC_NoNumber := xb1, tC_NoNumber := xt1 }
  exact ⟨_, fun s v => .of_eq rfl, fun base _ _ => ok_law T⟩
end Sh
open PySem PySem.W PyProof.Rows
set_option maxRecDepth 100000 in
set_option maxHeartbeats 0 in
theorem PySem.Challenge.cw_shapeorders_k10_how_many_of_few_holds : PySem.Challenge.rw_shapeorders_k10_how_many_of_few.Holds := by
  w_on; o_law; k_head; (case hw => w_witness2)
  k_fill
  refine L2.walk_of (l := PySem.Challenge.rw_shapeorders_k10_how_many_of_few) (n := 63) (k := 3) (x := "script") (CX := fun _ => L2.CX0) (sp := fun w => Sh.spL _) rfl (by decide) rfl ⟨rfl, by decide, by decide⟩ (fun w h Y => PySem.W.kIn_of Y) ?F (fun _ _ a ns hl _ hS => ⟨a, ns, rfl, hS, hl, fun _ => rfl⟩) (fun _ _ _ _ _ h => h)
  case F =>
    intro w mg fa h KX G hmg
    refine' Sh.all_mk KX G hmg ?a0 ?l0 ?c0 ?k0 ?a1 ?l1 ?c1 ?k1 ?a2 ?l2 ?c2 ?k2 ?a3 ?l3 ?c3 ?k3 ?a4 ?l4 ?c4 ?k4 ?a5 ?l5 ?c5 ?k5 ?a6 ?l6 ?c6 ?k6 ?a7 ?l7 ?c7 ?k7 ?a8 ?l8 ?c8 ?k8 ?z0 ?z1 ?z2 ?z3 ?z4 ?z5 ?z6 ?n0 ?x0 ?xe0 ?xk0 ?xb0 ?xt0 ?x1 ?xe1 ?xk1 ?xb1 ?xt1
    (case a0 => k_is)
    (case l0 => k_is)
    (case c0 => k_is)
    (case k0 => k_is)
    (case a1 => k_is)
    (case l1 => k_is)
    (case c1 => k_is)
    (case k1 => k_is)
    (case a2 => k_is)
    (case l2 => k_is)
    (case c2 => k_is)
    (case k2 => k_is)
    (case a3 => k_is)
    (case l3 => k_is)
    (case c3 => k_is)
    (case k3 => k_is)
    (case a4 => k_is)
    (case l4 => k_is)
    (case c4 => k_is)
    (case k4 => k_is)
    (case a5 => k_is)
    (case l5 => k_is)
    (case c5 => k_is)
    (case k5 => k_is)
    (case a6 => k_is)
    (case l6 => k_is)
    (case c6 => k_is)
    (case k6 => k_is)
    (case a7 => k_is)
    (case l7 => k_is)
    (case c7 => k_is)
    (case k7 => k_is)
    (case a8 => k_is)
    (case l8 => k_is)
    (case c8 => k_is)
    (case k8 => k_is)
    (case z0 => k_is)
    (case z1 => k_is)
    (case z2 => k_is)
    (case z3 => k_is)
    (case z4 => k_is)
    (case z5 => k_is)
    (case z6 => k_is)
    (case n0 => k_is)
    (case x0 => k_is)
    (case xe0 => k_exc)
    (case xk0 => k_is)
    (case xb0 => k_is)
    (case xt0 => k_is)
    (case x1 => k_is)
    (case xe1 => k_exc)
    (case xk1 => k_is)
    (case xb1 => k_is)
    (case xt1 => k_is)
