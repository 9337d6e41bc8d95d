import PyProof.Rows.All
import Wide.All
import OpenK.AllK
import Wide.FinOn
import HandS.ForMost
import HandS.ForExc
import HandS.SortInts
import HandS.Conv
import HandS.Zip
import HandS.Rev
import HandS.RevRange
import HandS.Deep
import HandS.IsInst
import HandS.ExcIs
import HandS.More
import HandS.SetFor
import HandS.Flow
import HandS.Style
import PySem.Challenge.RW_shapeorders_k12_whole_exchanged

set_option Elab.async false
set_option linter.all false
set_option maxRecDepth 100000
/-! Sh0: own words over the hand layer: loops and comprehensions cut open at their iterator, heaps, and the rules that the layer lacks. -/
namespace Sh
open PySem PySem.Spec PyProof.Rows L2

/-! ### loops: the iterator first, then the turns -/
def ForK (J : It) (g : TG) (tb : TS) (D : Ends) (σ : L2.St) (H : Hp) : Prop := ∃ W : Nat → Nat → L2.St → Hp → Prop, (∃ m, W 0 m σ H) ∧ ∀ i m σ H, W i m σ H →
  (J.stop i H ∧ D.nx σ H) ∨ (J.go i H ∧ ∃ N : L2.St → Hp → Prop, (∀ σ' H', N σ' H' → ∃ m', m' < m ∧ W (i + 1) m' σ' H') ∧ ∀ x H', J.yld i H x H' → g x σ H' fun σ2 H2 => tb { D with nx := N, ct := N, bk := D.nx } σ2 H2)
theorem tFor_eq (wi : TI) (g : TG) (tb : TS) (D : Ends) (σ : L2.St) (H : Hp) : tFor wi g tb D σ H = wi σ H fun J H1 => ForK J g tb D σ H1 := rfl
def LcK (J : It) (g : TG) (tt : TT) (te : TE) (σw : L2.St) (vs : List Nat) (D : Addr) (Q : Hp → Prop) (H1 : Hp) : Prop := ∃ W : Nat → Nat → Hp → Prop, (∃ m, W 0 m (upd H1 D (.lst []))) ∧ ∀ i m H, W i m H →
  (J.stop i H ∧ Q H) ∨ (J.go i H ∧ ∃ Nx : Hp → Prop, (∀ H', Nx H' → ∃ m', m' < m ∧ W (i + 1) m' H') ∧ ∀ x H', J.yld i H x H' → g x σw H' fun σ2 H2 => wipe σ2 vs = σw ∧ tt σ2 H2 fun b H3 =>
    if b = true then te σ2 H3 fun y H4 => ∃ acc, H4 D = some (.lst acc) ∧ acc.length < sizeLine ∧ Nx (upd H4 D (.lst (acc ++ [y]))) else Nx H3)
theorem tLc_eq (wi : TI) (g : TG) (tt : TT) (te : TE) (vs : List Nat) (σ : L2.St) (H : Hp) (Q : VK) :
    tLc wi g tt te vs σ H Q = wi σ H fun J H1 => ∀ D, H1 D = none → LcK J g tt te (wipe σ vs) vs D (fun H2 => Q (.ref D) H2) H1 := rfl
theorem forK_list {K : PySem.W.Frag} {a : Addr} {g : TG} {tb : TS} {D : Ends} {σ : L2.St} {H : Hp} (xs : List V) (Pv : Nat → L2.St → Hp → Prop) (h0 : Pv 0 σ H) (hl : ∀ i σ H, i ≤ xs.length → Pv i σ H → SqL K H a xs)
    (hs : ∀ i x σ H, xs[i]? = some x → Pv i σ H → g x σ H fun σ2 H2 => tb { D with nx := Pv (i + 1), ct := Pv (i + 1), bk := D.nx } σ2 H2) (hd : ∀ σ H, Pv xs.length σ H → D.nx σ H) :
    ForK (Itl K a) g tb D σ H := for_list Pv h0 hl hs hd
theorem forK_tup {K : PySem.W.Frag} {a : Addr} {g : TG} {tb : TS} {D : Ends} {σ : L2.St} {H : Hp} (xs : List V) (Pv : Nat → L2.St → Hp → Prop) (h0 : Pv 0 σ H) (hl : ∀ i σ H, i ≤ xs.length → Pv i σ H → SqT K H a xs)
    (hs : ∀ i x σ H, xs[i]? = some x → Pv i σ H → g x σ H fun σ2 H2 => tb { D with nx := Pv (i + 1), ct := Pv (i + 1), bk := D.nx } σ2 H2) (hd : ∀ σ H, Pv xs.length σ H → D.nx σ H) :
    ForK (Itt K a) g tb D σ H := for_tup Pv h0 hl hs hd
theorem forK_range {lo : Int} {n : Nat} {g : TG} {tb : TS} {D : Ends} {σ : L2.St} {H : Hp} (Pv : Nat → L2.St → Hp → Prop) (h0 : Pv 0 σ H)
    (hs : ∀ i σ H, i < n → Pv i σ H → g (.int (lo + i)) σ H fun σ2 H2 => tb { D with nx := Pv (i + 1), ct := Pv (i + 1), bk := D.nx } σ2 H2) (hd : ∀ σ H, Pv n σ H → D.nx σ H) :
    ForK (Itr lo n) g tb D σ H := for_range Pv h0 hs hd
theorem lcK_list {K : PySem.W.Frag} {a : Addr} {g : TG} {tt : TT} {te : TE} {vs : List Nat} {σw : L2.St} {H1 : Hp} {D : Addr} {Qd : Hp → Prop} (xs : List V) (Pv : Nat → Hp → Prop) (h0 : Pv 0 (upd H1 D (.lst []))) (hl : ∀ i H, i ≤ xs.length → Pv i H → SqL K H a xs)
    (hs : ∀ i x H, xs[i]? = some x → Pv i H → g x σw H fun σ2 H2 => wipe σ2 vs = σw ∧ tt σ2 H2 fun b H3 =>
      if b = true then te σ2 H3 fun y H4 => ∃ acc, H4 D = some (.lst acc) ∧ acc.length < sizeLine ∧ Pv (i + 1) (upd H4 D (.lst (acc ++ [y]))) else Pv (i + 1) H3) (hd : ∀ H, Pv xs.length H → Qd H) :
    LcK (Itl K a) g tt te σw vs D Qd H1 := by
  refine ⟨fun i m H => m = xs.length - i ∧ i ≤ xs.length ∧ Pv i H, ⟨xs.length, by simp, Nat.zero_le _, h0⟩, ?_⟩
  rintro i m H ⟨rfl, hi, p⟩
  have q := hl i H hi p
  by_cases hlt : i < xs.length
  · refine .inr ⟨⟨xs, xs[i], q, by simp [hlt]⟩, Pv (i + 1), fun H' p' => ⟨xs.length - (i + 1), by omega, rfl, hlt, p'⟩, fun x H' y => ?_⟩
    obtain ⟨e, y⟩ := y
    subst e
    exact hs i x _ (y xs q) p
  · have e : i = xs.length := by omega
    subst e
    exact .inl ⟨⟨xs, q, Nat.le_refl _⟩, hd H p⟩
theorem lcK_range {lo : Int} {n : Nat} {g : TG} {tt : TT} {te : TE} {vs : List Nat} {σw : L2.St} {H1 : Hp} {D : Addr} {Qd : Hp → Prop} (Pv : Nat → Hp → Prop) (h0 : Pv 0 (upd H1 D (.lst [])))
    (hs : ∀ i H, i < n → Pv i H → g (.int (lo + i)) σw H fun σ2 H2 => wipe σ2 vs = σw ∧ tt σ2 H2 fun b H3 =>
      if b = true then te σ2 H3 fun y H4 => ∃ acc, H4 D = some (.lst acc) ∧ acc.length < sizeLine ∧ Pv (i + 1) (upd H4 D (.lst (acc ++ [y]))) else Pv (i + 1) H3) (hd : ∀ H, Pv n H → Qd H) :
    LcK (Itr lo n) g tt te σw vs D Qd H1 := by
  refine ⟨fun i m H => m = n - i ∧ i ≤ n ∧ Pv i H, ⟨n, by simp, Nat.zero_le _, h0⟩, ?_⟩
  rintro i m H ⟨rfl, hi, p⟩
  by_cases hlt : i < n
  · refine .inr ⟨hlt, Pv (i + 1), fun H' p' => ⟨n - (i + 1), by omega, rfl, hlt, p'⟩, fun x H' y => ?_⟩
    obtain ⟨e, y⟩ := y
    subst e y
    exact hs i _ hlt p
  · have e : i = n := by omega
    subst e
    exact .inl ⟨Nat.le_refl _, hd H p⟩

/-! ### heaps -/
theorem same_new {H : Hp} {p : Addr} {o : HO} (h : H p = none) : Same H (upd H p o) := fun b u q => by rw [upd_ne (ne_of_none q h)]; exact q
theorem same_mut {H H' : Hp} {p : Addr} {o : HO} (s : Same H H') (h : H p = none) : Same H (upd H' p o) := fun b u q => by rw [upd_ne (ne_of_none q h)]; exact s b u q
theorem sql_self {K : PySem.W.Frag} {H : Hp} {p : Addr} {xs : List V} : SqL K (upd H p (.lst xs)) p xs := .inl (.inl upd_same)
theorem sql_new {K : PySem.W.Frag} {H : Hp} {p a : Addr} {o : HO} {xs : List V} (h : H p = none) (q : SqL K H a xs) : SqL K (upd H p o) a xs := (same_new h).seq q
theorem sqt_new {K : PySem.W.Frag} {H : Hp} {p a : Addr} {o : HO} {xs : List V} (h : H p = none) (q : SqT K H a xs) : SqT K (upd H p o) a xs := by
  rcases q with (q | ⟨u, q⟩) | q
  · exact .inl (.inl (same_new h _ _ q))
  · exact .inl (.inr ⟨u, same_new h _ _ q⟩)
  · exact .inr q
/-! ### readings by name -/
def rLen (K : PySem.W.Frag) : List V → Hp → VK → Prop := fun xs H Q => ∃ p ys, xs = [.ref p] ∧ (SqL K H p ys ∨ SqT K H p ys) ∧ Q (.int ys.length) H
def rListOf (K : PySem.W.Frag) : List V → Hp → VK → Prop := fun xs H Q => ∃ p ys, xs = [.ref p] ∧ (SqL K H p ys ∨ SqT K H p ys) ∧ ∀ l, H l = none → Q (.ref l) (upd H l (.lst ys))
def rTupleOf (K : PySem.W.Frag) : List V → Hp → VK → Prop := fun xs H Q => ∃ p ys, xs = [.ref p] ∧ ((SqL K H p ys ∧ ∀ l, H l = none → Q (.ref l) (upd H l (.tup ys))) ∨ (SqT K H p ys ∧ Q (.ref p) H))
def rInt1 : List V → Hp → VK → Prop := fun xs H Q => (∃ i, xs = [.int i] ∧ Q (.int i) H) ∨ ∃ k, xs = [.bl k] ∧ Q (.int (if k then 1 else 0)) H
section
variable {X : Cx}
theorem call_lenS : CallR X (.builtin "len") (rLen X.K) := call_len_seq
theorem call_listS : CallR X (.type "list") (rListOf X.K) := call_list_of
theorem call_tupleS : CallR X (.type "tuple") (rTupleOf X.K) := call_tuple_of
theorem call_intS : CallR X (.type "int") rInt1 := call_int1
end

/-! ### the context's own part -/
theorem cxOf_K {CX : CXT} {P : Program} {w : World} {K : PySem.W.Frag} {mg : Str → Option Value} {base : Heap} {N : List Str} {qual : Str} {scope : Scope} {f : Addr} {cd : Value} {A : Around} {outer : List Env} {s : Shared} {H : Hp} {E : XK} :
    (cxOf CX P w K mg base N qual scope f cd A outer s H E).K = K := rfl
theorem tBM_list {K : PySem.W.Frag} {H : Hp} {p : Addr} {xs : List V} (h : SqL K H p xs) : tyV K "list" (.ref p) H := .inl ⟨rfl, _, h⟩
theorem tyL {K : PySem.W.Frag} {H : Hp} {p : Addr} {xs : List V} (h : H p = some (.lst xs)) : tyV K "list" (.ref p) H := .inl ⟨rfl, _, SqL.of h⟩
theorem lineLt {n : Nat} (h : n ≤ 16000000) : n < sizeLine := by rw [sizeLine_eq]; omega
theorem lineLe {n : Nat} (h : n ≤ 16000000) : n ≤ sizeLine := Nat.le_of_lt (lineLt h)

theorem atI_ints {ns : List Int} {i : Int} (h0 : 0 ≤ i) (h : i < ns.length) : atI (ns.map V.int) i = some (.int (ns.getD i.toNat 0)) := by
  obtain ⟨j, rfl⟩ : ∃ j : Nat, i = (j : Int) := ⟨i.toNat, by omega⟩
  have hj : j < ns.length := by omega
  refine atI_nat ?_
  rw [List.getElem?_map, List.getElem?_eq_getElem hj, Int.toNat_natCast, List.getD_eq_getElem?_getD, List.getElem?_eq_getElem hj]
  rfl
theorem iteF' {c : Prop} [Decidable c] {A B : Prop} (hc : ¬ c) (h : B) : if c then A else B := by rw [if_neg hc]; exact h
theorem iteT' {c : Prop} [Decidable c] {A B : Prop} (hc : c) (h : A) : if c then A else B := by rw [if_pos hc]; exact h
/-! ### comprehensions whose elements leave nothing that is asked for later -/
section
variable {K : PySem.W.Frag} {a : Addr} {g : TG} {tt : TT} {te : TE} {vs : List Nat} {σw : L2.St} {H1 : Hp} {D : Addr} {Qd : Hp → Prop}
theorem lcK_mapI (xs : List V) (F : Nat → V) (nD : H1 D = none) (hS : SqL K H1 a xs) (hl : xs.length ≤ 16000000)
    (hs : ∀ i x acc H (Q : VK), xs[i]? = some x → Same H1 H → H D = some (.lst acc) → (∀ H4, Same H1 H4 → H4 D = some (.lst acc) → Q (F i) H4) → g x σw H fun σ2 H2 => wipe σ2 vs = σw ∧ te σ2 H2 Q)
    (hd : ∀ H, Same H1 H → H D = some (.lst ((List.range xs.length).map F)) → Qd H) : LcK (Itl K a) g tYes te σw vs D Qd H1 := by
  refine lcK_list xs (fun i H => Same H1 H ∧ H D = some (.lst ((List.range i).map F))) ⟨same_new nD, upd_same⟩ (fun i H _ h => h.1.seq hS) (fun i x H hx h => ?_) fun H h => hd H h.1 h.2
  refine hs i x _ H _ hx h.1 h.2 fun H4 s4 h4 => ?_
  refine ⟨_, h4, ?_, same_mut s4 nD, ?_⟩
  · have hi : i < xs.length := (List.getElem?_eq_some_iff.mp hx).1
    simp only [List.length_map, List.length_range]
    exact lineLt (by omega)
  · rw [upd_same, List.range_succ, List.map_append]
    rfl
theorem lcK_mapR {lo : Int} {n : Nat} (F : Nat → V) (nD : H1 D = none) (hl : n ≤ 16000000)
    (hs : ∀ i acc H (Q : VK), i < n → Same H1 H → H D = some (.lst acc) → (∀ H4, Same H1 H4 → H4 D = some (.lst acc) → Q (F i) H4) → g (.int (lo + i)) σw H fun σ2 H2 => wipe σ2 vs = σw ∧ te σ2 H2 Q)
    (hd : ∀ H, Same H1 H → H D = some (.lst ((List.range n).map F)) → Qd H) : LcK (Itr lo n) g tYes te σw vs D Qd H1 := by
  refine lcK_range (fun i H => Same H1 H ∧ H D = some (.lst ((List.range i).map F))) ⟨same_new nD, upd_same⟩ (fun i H hx h => ?_) fun H h => hd H h.1 h.2
  refine hs i _ H _ hx h.1 h.2 fun H4 s4 h4 => ?_
  refine ⟨_, h4, ?_, same_mut s4 nD, ?_⟩
  · simp only [List.length_map, List.length_range]
    exact lineLt (by omega)
  · rw [upd_same, List.range_succ, List.map_append]
    rfl
theorem take_more {α : Type} : ∀ {l : List α} {i : Nat} {x : α}, l[i]? = some x → l.take (i + 1) = l.take i ++ [x]
  | [], i, x, h => by simp at h
  | a :: l, 0, x, h => by
    have e : a = x := Option.some.inj h
    subst e
    rfl
  | a :: l, i + 1, x, h => by
    have ih := take_more (l := l) (i := i) (x := x) h
    show a :: l.take (i + 1) = a :: l.take i ++ [x]
    rw [ih]
    rfl
theorem at_map {α : Type} {ns : List α} {f : α → V} {i : Nat} {x : V} (h : (ns.map f)[i]? = some x) : ∃ z, ns[i]? = some z ∧ x = f z := by
  rw [List.getElem?_map] at h
  cases e : ns[i]? with
  | none => rw [e] at h; cases h
  | some z => rw [e] at h; exact ⟨z, rfl, (Option.some.inj h).symm⟩
/-- over a list of things told by h : α → V -/
theorem lcK_filt {α : Type} (ns : List α) (h : α → V) (p : α → Bool) (F : α → V) (nD : H1 D = none) (hS : SqL K H1 a (ns.map h)) (hl : ns.length ≤ 16000000)
    (hs : ∀ (i : Nat) (x : α) acc H (Qt : VK) (Qf : Hp → Prop), ns[i]? = some x → Same H1 H → H D = some (.lst acc) → (p x = true → ∀ H4, Same H1 H4 → H4 D = some (.lst acc) → Qt (F x) H4) → (p x = false → ∀ H4, Same H1 H4 → H4 D = some (.lst acc) → Qf H4) →
      g (h x) σw H fun σ2 H2 => wipe σ2 vs = σw ∧ tt σ2 H2 fun b H3 => if b = true then te σ2 H3 Qt else Qf H3)
    (hd : ∀ H, Same H1 H → H D = some (.lst ((ns.filter p).map F)) → Qd H) : LcK (Itl K a) g tt te σw vs D Qd H1 := by
  refine lcK_list (ns.map h) (fun i H => Same H1 H ∧ H D = some (.lst (((ns.take i).filter p).map F))) ⟨same_new nD, upd_same⟩ (fun i H _ h => h.1.seq hS) (fun i y H hy h => ?_) fun H h => ?_
  · obtain ⟨x, hx, rfl⟩ := at_map hy
    refine hs i x _ H _ _ hx h.1 h.2 (fun e H4 s4 h4 => ?_) (fun e H4 s4 h4 => ?_)
    · refine ⟨_, h4, ?_, same_mut s4 nD, ?_⟩
      · have hi : i < ns.length := (List.getElem?_eq_some_iff.mp hx).1
        have := List.length_filter_le p (ns.take i)
        simp only [List.length_map, List.length_take] at *
        exact lineLt (by omega)
      · rw [upd_same, take_more hx, List.filter_append, List.map_append, List.filter_cons_of_pos e]
        rfl
    · refine ⟨s4, ?_⟩
      rw [h4, take_more hx, List.filter_append, List.filter_cons_of_neg (by simp [e]), List.filter_nil, List.append_nil]
  · have e := h.2
    rw [List.length_map, List.take_length] at e
    exact hd H h.1 e
theorem lcK_map {α : Type} (ns : List α) (h : α → V) (F : α → V) (nD : H1 D = none) (hS : SqL K H1 a (ns.map h)) (hl : ns.length ≤ 16000000)
    (hs : ∀ (i : Nat) (x : α) acc H (Q : VK), ns[i]? = some x → Same H1 H → H D = some (.lst acc) → (∀ H4, Same H1 H4 → H4 D = some (.lst acc) → Q (F x) H4) → g (h x) σw H fun σ2 H2 => wipe σ2 vs = σw ∧ te σ2 H2 Q)
    (hd : ∀ H, Same H1 H → H D = some (.lst (ns.map F)) → Qd H) : LcK (Itl K a) g tYes te σw vs D Qd H1 := by
  refine lcK_filt (tt := tYes) ns h (fun _ => true) F nD hS hl (fun i x acc H Qt Qf hx s d ht _ => ?_) (fun H s d => hd H s (by rw [List.filter_eq_self.mpr (fun _ _ => rfl)] at d; exact d))
  exact hs i x acc H Qt hx s d (ht rfl)
theorem lcK_filtR {lo : Int} {n : Nat} (p : Nat → Bool) (F : Nat → V) (nD : H1 D = none) (hl : n ≤ 16000000)
    (hs : ∀ i acc H (Qt : VK) (Qf : Hp → Prop), i < n → Same H1 H → H D = some (.lst acc) → (p i = true → ∀ H4, Same H1 H4 → H4 D = some (.lst acc) → Qt (F i) H4) → (p i = false → ∀ H4, Same H1 H4 → H4 D = some (.lst acc) → Qf H4) →
      g (.int (lo + i)) σw H fun σ2 H2 => wipe σ2 vs = σw ∧ tt σ2 H2 fun b H3 => if b = true then te σ2 H3 Qt else Qf H3)
    (hd : ∀ H, Same H1 H → H D = some (.lst (((List.range n).filter p).map F)) → Qd H) : LcK (Itr lo n) g tt te σw vs D Qd H1 := by
  refine lcK_range (fun i H => Same H1 H ∧ H D = some (.lst (((List.range i).filter p).map F))) ⟨same_new nD, upd_same⟩ (fun i H hi h => ?_) fun H h => hd H h.1 h.2
  refine hs i _ H _ _ hi h.1 h.2 (fun e H4 s4 h4 => ?_) (fun e H4 s4 h4 => ?_)
  · refine ⟨_, h4, ?_, same_mut s4 nD, ?_⟩
    · have := List.length_filter_le p (List.range i)
      simp only [List.length_map, List.length_range] at *
      exact lineLt (by omega)
    · rw [upd_same, List.range_succ, List.filter_append, List.map_append, List.filter_cons_of_pos e]
      rfl
  · refine ⟨s4, ?_⟩
    rw [h4, List.range_succ, List.filter_append, List.filter_cons_of_neg (by simp [e]), List.filter_nil, List.append_nil]
end
/-! ### a loop's turns over things told by h -/
theorem forK_map {K : PySem.W.Frag} {a : Addr} {g : TG} {tb : TS} {D : Ends} {σ : L2.St} {H : Hp} {α : Type} (ns : List α) (h : α → V) (Pv : Nat → L2.St → Hp → Prop) (h0 : Pv 0 σ H) (hl : ∀ i σ H, i ≤ ns.length → Pv i σ H → SqL K H a (ns.map h))
    (hs : ∀ (i : Nat) (x : α) σ H, ns[i]? = some x → Pv i σ H → g (h x) σ H fun σ2 H2 => tb { D with nx := Pv (i + 1), ct := Pv (i + 1), bk := D.nx } σ2 H2) (hd : ∀ σ H, Pv ns.length σ H → D.nx σ H) :
    ForK (Itl K a) g tb D σ H := by
  refine forK_list (ns.map h) Pv h0 (fun i σ H hi p => hl i σ H (by rw [List.length_map] at hi; exact hi) p) (fun i x σ H hx p => ?_) (fun σ H p => hd σ H (by rw [List.length_map] at p; exact p))
  obtain ⟨z, hz, rfl⟩ := at_map hx
  exact hs i z σ H hz p
end Sh

set_option Elab.async false
set_option linter.all false
set_option maxRecDepth 100000
set_option maxHeartbeats 4000000
/-! Sh1: rules that the layer lacks: len(set(a list of ints)), list(reversed(a list)). -/
namespace Sh
open PySem PySem.Spec PyProof.Rows L2
/-! ### how many unlike ints -/
def dedup (ns : List Int) : List Int := firstMet (fun i => ns.getD i 0) ns.length
theorem firstMet_len (val : Nat → Int) : ∀ i, (firstMet val i).length ≤ i := fun i => firstMet_length_le val i
theorem step_dedup_len (l : List Int) (x : Int) : (step_dedup l x).length = if l.any (· == x) then l.length else l.length + 1 := by
  unfold step_dedup
  split
  · rfl
  · rw [List.length_append]
    rfl
theorem firstMet_full (ns : List Int) : ∀ i, i ≤ ns.length → ((firstMet (fun i => ns.getD i 0) i).length = i ↔ (ns.take i).Nodup)
  | 0, _ => by simp [firstMet_zero]
  | i + 1, h => by
    have ih := firstMet_full ns i (by omega)
    have hx : ns[i]? = some (ns.getD i 0) := by
      rw [List.getD_eq_getElem?_getD, List.getElem?_eq_getElem (by omega : i < ns.length)] <;> rfl
    rw [firstMet_succ, step_dedup_len, take_more hx, List.nodup_append]
    have hany : (firstMet (fun i => ns.getD i 0) i).any (· == ns.getD i 0) = (ns.take i).any (· == ns.getD i 0) := by
      rw [firstMet_any]
      congr 1
      apply List.ext_getElem?
      intro j
      by_cases hj : j < i
      · rw [List.getElem?_map, List.getElem?_range hj, List.getElem?_take_of_lt hj, List.getElem?_eq_getElem (by omega : j < ns.length)]
        simp [List.getD_eq_getElem?_getD, List.getElem?_eq_getElem (by omega : j < ns.length)]
      · rw [List.getElem?_eq_none (by simp; omega), List.getElem?_eq_none (by simp; omega)]
    rw [hany]
    have hle := firstMet_len (fun i => ns.getD i 0) i
    by_cases hc : (ns.take i).any (· == ns.getD i 0) = true
    · rw [if_pos hc]
      constructor
      · intro e; omega
      · rintro ⟨_, _, h3⟩
        obtain ⟨y, hy, e⟩ := List.any_eq_true.mp hc
        have e' : y = ns.getD i 0 := by simpa using e
        exact absurd e' (h3 y hy _ (by simp))
    · rw [if_neg hc]
      constructor
      · intro e
        refine ⟨ih.mp (by omega), by simp, fun a ha b hb e2 => hc ?_⟩
        have : b = ns.getD i 0 := by simpa using hb
        exact List.any_eq_true.mpr ⟨a, ha, by simp [e2, this]⟩
      · rintro ⟨h1, _, _⟩
        have := ih.mpr h1
        omega
theorem dedup_le (ns : List Int) : (dedup ns).length ≤ ns.length := firstMet_len _ _
theorem dedup_full (ns : List Int) : (dedup ns).length = ns.length ↔ ns.Nodup := by
  have := firstMet_full ns ns.length (Nat.le_refl _)
  rwa [List.take_length] at this
theorem dedup_lt (ns : List Int) : (((dedup ns).length : Nat) : Int) < ((ns.length : Nat) : Int) ↔ ¬ ns.Nodup := by
  have h1 := dedup_le ns
  have h2 := dedup_full ns
  constructor
  · intro h h3; have := h2.mpr h3; omega
  · intro h; by_cases e : (dedup ns).length = ns.length
    · exact absurd (h2.mp e) h
    · omega
/-- len(set(x)), x a list of ints -/
def tLenSetG (K : PySem.W.Frag) (ta : TE) : TE := fun σ H Q => ta σ H fun x H1 => ∃ (l : Addr) (ns : List Int), x = .ref l ∧ SqL K H1 l (ns.map V.int) ∧ ns.length ≤ 4000 ∧ Q (.int ((dedup ns).length : Nat)) H1
theorem pe_lenSetG {X : Cx} {a : Expr} {ta : TE} {p p2 q pos : Pos} (hg : Gl X "len") (hm : X.mg "len" = none) (hg2 : Gl X "set") (hm2 : X.mg "set" = none) (ha : PE X a ta) (hc : X.calm = true := by rfl)
    (na : starEach [a] X.env = (false, eval a X.env) :: starEach [] X.env := by rfl) : PE X (.Call (.Name "len" p) [.Call (.Name "set" p2) [a] [] q] [] pos) (tLenSetG X.K ta) := by
  refine ⟨fun pins s σ H Q I h => ?_⟩
  refine Call_ (ld_blt I hg hm boot_len ?_)
  refine PyProof.Rows.callWith_builtin1 (PyProof.Rows.args_cons ?_ rfl) rfl rfl
  refine Call_ (ld_blt I hg2 hm2 boot_set ?_)
  refine PyProof.Rows.callWith_type1 (PyProof.Rows.args_cons (thn (ha.run pins s σ H _ I h) fun v s1 ⟨x, H1, I1, r1, q1⟩ => PyProof.Rows.args_nil ?_) na) na rfl
  obtain ⟨l, ns, rfl, hq, hl, q1⟩ := q1
  cases r1
  obtain ⟨its, r, pl, hz⟩ := I1.list hq
  have hlen : its.toArray.size = ns.length := by rw [List.size_toArray, ← r.length, List.length_map]
  refine call_set_list (I1.ok.hd hc) pl.isList (by simpa using Vals.ints r) (by rw [hlen]; unfold scanBound; omega) fun h' tk hS hk => ?_
  refine PyProof.Rows.args_nil ?_
  rw [hlen] at hS
  obtain ⟨o, es, ep, t, ho, hex, hd, _, _, _, hf, hn⟩ := hS
  have hle := dedup_le ns
  have I2 : Inv X pins σ H1 { s1 with heap := h', toks := tk } := I1.kept fun b o e => hk b o (Heap.lt_size e) e
  have hn' : es.size = (dedup ns).length := hn
  exact call_len_set ho hex hd hf (by rw [hn] <;> exact Int.lt_of_le_of_lt (Int.ofNat_le.mpr hle) (by omega)) ⟨.int (dedup ns).length, H1, I2.tok _, ⟨_, by rw [hn]; rfl⟩, q1⟩
/-! ### list(reversed(a list)) -/
section
variable {prog : Program} {w : World} {A : Around} {E : Value → Shared → Prop} {s : Shared}
theorem extend_rev {R : Result → Shared → Prop} {it l : Addr} {items : Array Value} (hh : A.handled = none) (hit : s.heap.IsRevIter it l ((items.size : Int) - 1)) (hl : s.heap.IsList l items) (hne : l ≠ it) (hn : items.size ≤ sizeLine) (S : Addr) (res : Value) (c₀ : Nat)
    (hS : s.heap.get? S = some { cls := .type "list", data := .seq #[] c₀ }) (hSi : S ≠ it) (hSl : S ≠ l)
    (hR : ∀ h' tk acc' c', (∀ b o, b ≠ S → b ≠ it → s.heap.get? b = some o → h'.get? b = some o) → h'.get? S = some { cls := .type "list", dict := none, data := .seq acc' c', slots := #[] } →
      ItemsOf (fun i v => items[items.size - 1 - i]? = some v) acc' items.size → R (.ok (.ret res)) { s with heap := h', toks := tk }) :
    wpAny (model prog w) A.in1 (Builtin.List.listExtendWith (.ref S) (.ref it) res)
      (fun fin s' => match fin with | .done f => R (.ok f) s' | .again c' => c'.quiet = true ∧ codeAny (model prog w) A c' R s') (fun e s' => R (.error e) s') s := by
  have W := (Walks.listRev (prog := prog) (w := w) (A := A.in1) hh it l hne items).toS
  have hSf : S ∉ [it, l] := by simp only [List.mem_cons, List.not_mem_nil, or_false, not_or]; exact ⟨hSi, hSl⟩
  have hT : s.TypeIs (.ref it) "list_reverseiterator" := Heap.IsRevIter.typeIs hit
  have h1 : Builtin.List.listSameRef (.ref S) (.ref it) = false := by simp [Builtin.List.listSameRef, hSi]
  unfold Builtin.List.listExtendWith
  refine wpAny_bind (wpAny_typeOf hT ?_)
  rw [if_neg (by rw [h1]; decide)]
  refine wpAny_bind (wpAny_pyIter_revIter hit ?_)
  refine wpAny_bind (wpAny_holding ?_)
  unfold Builtin.List.listLengthHint
  refine wpAny_bind (wpAny_specialOf hT RT.nolen_lri ?_)
  show wpAny _ A.in1 (specialOf (Value.ref it) (Str.ofString "__length_hint__") >>= _) _ _ _
  refine wpAny_bind (wpAny_specialOf hT RT.hint_lri ?_)
  generalize hid : ("list_reverseiterator.__length_hint__" : String) = id0
  wp_delta
  rw [show splitId id0 = some ("list_reverseiterator", "__length_hint__") from by subst hid; decide +kernel]
  subst hid
  refine wpAny_bind (wpAny_isInstance (b := true) hT (by rw [isSubtype_type]; kernel_rfl) ?_)
  refine wpAny_pure ?_
  rw [if_neg (by decide)]
  have e0 : ((items.size : Nat) : Int) - 1 - ((0 : Nat) : Int) = (items.size : Int) - 1 := by omega
  refine wpAny_pure ⟨plainId_quiet F.plain_extend_loop _, codeAny_extend_loopS W hn _ hSf _ items.size 0 _ _ _ rfl (Nat.zero_le _) ⟨Nat.zero_le _, by rw [e0]; exact hit, hl⟩ hS (ItemsOf.nil _) fun s' acc' c' hm hS' hacc => ?_⟩
  rw [Moved.eq_with hm]
  refine hR s'.heap s'.toks acc' c' (fun b o hb hb2 e => hm.heap b o (fun hmem => ?_) e) hS' hacc
  rcases List.mem_cons.mp hmem with e' | hmem
  · exact hb e'
  · exact hb2 (List.mem_singleton.mp hmem)
theorem list_init_rev {R : Result → Shared → Prop} {it l : Addr} {items : Array Value} (hh : A.handled = none) (hit : s.heap.IsRevIter it l ((items.size : Int) - 1)) (hl : s.heap.IsList l items) (hne : l ≠ it) (hn : items.size ≤ sizeLine) (S : Addr)
    (hS : s.heap.get? S = some { cls := .type "list", data := .seq #[] }) (hSi : S ≠ it) (hSl : S ≠ l)
    (hR : ∀ h' tk acc' c', (∀ b o, b ≠ S → b ≠ it → s.heap.get? b = some o → h'.get? b = some o) → h'.get? S = some { cls := .type "list", dict := none, data := .seq acc' c', slots := #[] } →
      ItemsOf (fun i v => items[items.size - 1 - i]? = some v) acc' items.size → R (.ok (.ret .none)) { s with heap := h', toks := tk }) :
    wpAny (model prog w) A.in1 (Builtin.«list.__init__» ⟨[.ref S, .ref it], []⟩)
      (fun fin s' => match fin with | .done f => R (.ok f) s' | .again c' => c'.quiet = true ∧ codeAny (model prog w) A c' R s') (fun e s' => R (.error e) s') s := by
  show wpAny _ _ (do let old ← Builtin.List.listItems (.ref S); Builtin.List.listUpdate (.ref S) (fun _ => #[]); letGo old.toList.reverse; Builtin.List.listExtendWith (.ref S) (.ref it) .none) _ _ s
  refine wpAny_bind ?_
  unfold Builtin.List.listItems
  refine wpAny_bind (wpAny_seqItems hS rfl (wpAny_pure ?_))
  show wpAny _ _ (updateSeq S (fun _ => #[]) >>= fun _ => letGo (#[] : Array Value).toList.reverse >>= fun _ => Builtin.List.listExtendWith (.ref S) (.ref it) .none) _ _ s
  refine wpAny_bind (wpAny_updateSeq hS rfl ?_)
  have hS₂ := Heap.get?_update_self (Obj.mapSeq (fun _ => (#[] : Array Value))) hS rfl
  have oth : ∀ b o, b ≠ S → s.heap.get? b = some o → (s.heap.update S (Obj.mapSeq (fun _ => (#[] : Array Value)))).get? b = some o :=
    fun b o hb e => (Heap.get?_update_other _ _ (Ne.symm hb)).trans e
  refine wpAny_bind (wpAny_letGo ?_)
  obtain ⟨oi, hoi, ri⟩ := hit
  obtain ⟨ol, hol, rl⟩ := hl
  refine extend_rev (s := { s with heap := s.heap.update S (Obj.mapSeq (fun _ => (#[] : Array Value))) }) hh ⟨oi, oth it oi (Ne.symm hSi) hoi, ri⟩ ⟨ol, oth l ol (Ne.symm hSl) hol, rl⟩ hne hn S .none _ hS₂ hSi hSl fun h' tk acc' c' hk hS' hacc => ?_
  exact hR h' tk acc' c' (fun b o hb hb2 e => hk b o hb hb2 (oth b o hb e)) hS' hacc
theorem call_list_rev {Q : Value → Shared → Prop} {it l : Addr} {items : Array Value} (hh : A.handled = none) (hit : s.heap.IsRevIter it l ((items.size : Int) - 1)) (hl : s.heap.IsList l items) (hne : l ≠ it) (hn : items.size ≤ sizeLine)
    (hQ : ∀ h' tk acc' c', (∀ b o, b ≠ it → s.heap.get? b = some o → h'.get? b = some o) →
      h'.get? s.heap.objs.size = some { cls := .type "list", dict := none, data := .seq acc' c', slots := #[] } → ItemsOf (fun i v => items[items.size - 1 - i]? = some v) acc' items.size → Q (.ref s.heap.objs.size) { s with heap := h', toks := tk }) :
    wpAny (model prog w) A (call (.type "list") [.ref it]) Q E s := by
  obtain ⟨oi, hoi, ri⟩ := id hit
  obtain ⟨ol, hol, rl⟩ := id hl
  refine callType_codes (Q₁ := fun obj s₁ => obj = .ref s.heap.objs.size ∧ s₁ = { s with heap := s.heap.push { cls := .type "list", data := .seq #[] } }) F.called_list (F.typeCall_list_1 _) F.entry_list_init
    (code_list_new _ ⟨rfl, rfl⟩) fun obj s₁ h₁ => ?_
  obtain ⟨rfl, rfl⟩ := h₁
  have hS : (s.heap.push { cls := .type "list", data := .seq #[] }).get? s.heap.objs.size = some { cls := .type "list", data := .seq #[] } := Heap.get?_push_size _ rfl
  refine ⟨⟨_, hS, rfl⟩, F.args_list_init_2 _ _, list_init_rev (A := A.in1) (s := { s with heap := s.heap.push { cls := .type "list", data := .seq #[] } }) hh ⟨oi, Heap.get?_push_of_some _ hoi, ri⟩ ⟨ol, Heap.get?_push_of_some _ hol, rl⟩ hne hn _ hS (Nat.ne_of_gt (Heap.lt_size hoi)) (Nat.ne_of_gt (Heap.lt_size hol)) fun h' tk acc' c' hk hS' hacc => ?_⟩
  exact ⟨rfl, hQ h' tk acc' c' (fun b o hb e => hk b o (Nat.ne_of_lt (Heap.lt_size e)) hb (Heap.get?_push_of_some _ e)) hS' hacc⟩
end
def tListRev (K : PySem.W.Frag) (te : TE) : TE := fun σ H Q => te σ H fun v H1 => ∃ (a : Addr) (xs : List V), v = .ref a ∧ SqL K H1 a xs ∧ ∀ q, H1 q = none → Q (.ref q) (upd H1 q (.lst xs.reverse))
theorem pe_listRev {X : Cx} {e : Expr} {te : TE} {p p2 pos pos2 : Pos} (hc : X.calm = true) (hg : Gl X "list") (hm : X.mg "list" = none) (hg2 : Gl X "reversed") (hm2 : X.mg "reversed" = none) (he : PE X e te)
    (hs : starEach [e] X.env = (false, eval e X.env) :: starEach [] X.env := by rfl)
    (hs2 : starEach [.Call (.Name "reversed" p2) [e] [] pos2] X.env = (false, eval (.Call (.Name "reversed" p2) [e] [] pos2) X.env) :: starEach [] X.env := by rfl) :
    PE X (.Call (.Name "list" p) [.Call (.Name "reversed" p2) [e] [] pos2] [] pos) (tListRev X.K te) := by
  refine ⟨fun pins s σ H Q I h => ?_⟩
  refine Call_ (ld_blt I hg hm boot_list (PyProof.Rows.callWith_type1 (args_cons (Call_ (ld_blt I hg2 hm2 PyProof.Rows.boot_reversed (PyProof.Rows.callWith_type1 (args_cons (thn (he.run pins s σ H _ I h) fun u s1 ⟨v, H1, I1, r1, q1⟩ => args_nil ?_) hs) hs rfl))) hs2) hs2 rfl))
  obtain ⟨a, xs, ev, hq, q⟩ := q1
  subst ev
  obtain rfl : u = Value.ref a := r1
  obtain ⟨its, rv, p', hz⟩ := I1.list hq
  refine call_reversed_list p'.isList (args_nil ?_)
  have k0 : ∀ b o, s1.heap.get? b = some o → (s1.heap.push (revObj a ((its.toArray.size : Int) - 1))).get? b = some o := fun b o e => Heap.get?_push_of_some _ e
  have I2 : Inv X pins σ H1 { s1 with heap := s1.heap.push (revObj a ((its.toArray.size : Int) - 1)) } := I1.kept (t' := s1.toks) k0
  obtain ⟨f0, f1, f2, f3, f4, f5⟩ := I1.fpOk (H' := H1) (b := s1.heap.objs.size) (Nat.le_refl _) (I1.hok.fresh (Nat.le_refl _))
  have hl := p'.isList
  obtain ⟨ol, hol, _⟩ := id hl
  have hne : a ≠ s1.heap.objs.size := Nat.ne_of_lt (Heap.lt_size hol)
  have hn : its.toArray.size ≤ sizeLine := by rw [List.size_toArray, ← rv.length]; exact hz
  refine call_list_rev (s := { s1 with heap := s1.heap.push (revObj a ((its.toArray.size : Int) - 1)) }) (I1.ok.hd hc) ⟨_, Heap.get?_push_size _ rfl, rfl, rfl⟩ (hl.push _) hne hn fun h' tk acc c' hk hD hi => ?_
  have hD0 : H1 (s1.heap.push (revObj a ((its.toArray.size : Int) - 1))).objs.size = none := I2.hok.fresh (Nat.le_refl _)
  have nit : ∀ b u, H1 b = some u → b ≠ s1.heap.objs.size := fun b u e z => by rw [z, f0] at e; cases e
  have nD : ∀ b o, (s1.heap.push (revObj a ((its.toArray.size : Int) - 1))).get? b = some o → b ≠ (s1.heap.push (revObj a ((its.toArray.size : Int) - 1))).objs.size := fun b o e => Nat.ne_of_lt (Heap.lt_size e)
  have I3 : Inv X pins σ (upd H1 (s1.heap.push (revObj a ((its.toArray.size : Int) - 1))).objs.size (.lst xs.reverse)) { s1 with heap := h', toks := tk } := by
    refine L2.Inv.step (s := { s1 with heap := s1.heap.push (revObj a ((its.toArray.size : Int) - 1)) }) (h' := h') (t' := tk) (g' := s1.gens) (d' := s1.drawn) (ch := [s1.heap.objs.size]) I2 (fun b hb => ?_) (fun b o _ _ hc e _ => hk b o (fun z => hc (by simp [z])) e) (fun b o _ _ hc e _ => ⟨o.slots, hk b o (fun z => hc (by simp [z])) e⟩)
      (fun b o _ e n => by rw [upd_ne (nD b o e)]; exact n) (fun b o hc e => ⟨o, hk b o (fun z => hc (by simp [z])) e⟩) (fun b ys e => by rw [upd_ne (ne_of_none e hD0)]; exact e) (fun b o u e => by rw [upd_ne (ne_of_none e hD0)]; exact e)
      (fun b ps e => ⟨#[], by rw [upd_ne (ne_of_none e hD0), e]; simp⟩) (fun m hm => ?_) (fun b u e => ?_) I1.bare
    · have e : b = s1.heap.objs.size := by simpa using hb
      subst e
      exact ⟨f3, f1, f4, f5⟩
    · obtain ⟨o, es, ep, ho, r⟩ := hm
      exact ⟨o, es, ep, hk _ o (Ne.symm f1) ho, r⟩
    · by_cases hb : b = (s1.heap.push (revObj a ((its.toArray.size : Int) - 1))).objs.size
      · subst hb
        rw [upd_same] at e
        cases e
        refine ⟨by rw [List.length_reverse]; exact hz, acc.toList, c', RT.vals_rev rv hi, ?_⟩
        rw [Array.toArray_toList]
        exact hD
      · rw [upd_ne hb] at e
        refine (I2.hok b u e).stay (fun c v hc q => hk c v ?_ q) (fun c q => by rw [upd_ne (ne_of_none q hD0)]; exact q) fun c ys q => by rw [upd_ne (ne_of_none q hD0)]; exact q
        rcases hc with z | z
        · rw [z]; exact nit b u e
        · exact nit c _ z
  exact ⟨.ref _, _, I3, rfl, q _ hD0⟩
end Sh

set_option Elab.async false
set_option linter.all false
set_option maxRecDepth 100000
set_option maxHeartbeats 4000000
/-! M1: data compared, ranks, shapes: plain Lean (and what the layer's readings ask of it). -/
namespace Sh
open PySem PySem.Spec PyProof.Rows L2
/-! ### data of one form -/
structure IsD {α : Type} [DecidableEq α] (f : α → PyData) (k : Nat) : Prop where
  eqv : ∀ x y, PyData.eqv (f x) (f y) = decide (x = y)
  lay : ∀ x, (f x).canLay0 = true
  dep : ∀ x, (f x).depth ≤ k
theorem eqvAll_map {α : Type} [DecidableEq α] {f : α → PyData} {k : Nat} (h : IsD f k) : ∀ xs ys : List α, PyData.eqvAll (xs.map f) (ys.map f) = decide (xs = ys)
  | [], [] => by simp [PyData.eqvAll]
  | [], _ :: _ => by simp [PyData.eqvAll]
  | _ :: _, [] => by simp [PyData.eqvAll]
  | x :: xs, y :: ys => by
    simp only [List.map_cons, PyData.eqvAll, h.eqv, eqvAll_map h xs ys, List.cons.injEq, Bool.decide_and]
theorem layAll_map {α : Type} [DecidableEq α] {f : α → PyData} {k : Nat} (h : IsD f k) : ∀ xs : List α, PyData.canLayAll0 (xs.map f) = true
  | [] => by simp [PyData.canLayAll0]
  | x :: xs => by simp only [List.map_cons, PyData.canLayAll0, h.lay, layAll_map h xs, Bool.and_self]
theorem depAll_map {α : Type} [DecidableEq α] {f : α → PyData} {k : Nat} (h : IsD f k) : ∀ xs : List α, PyData.depthAll (xs.map f) ≤ k
  | [] => by simp [PyData.depthAll]
  | x :: xs => by
    have h1 := h.dep x
    have h2 := depAll_map h xs
    simp only [List.map_cons, PyData.depthAll]
    omega
theorem isD_int : IsD PyData.int 1 := ⟨fun x y => by simp [PyData.eqv, Bool.beq_eq_decide_eq], fun x => by simp [PyData.canLay0], fun x => by simp [PyData.depth]⟩
theorem isD_bool : IsD PyData.bool 1 := ⟨fun x y => by simp [PyData.eqv, Bool.beq_eq_decide_eq], fun x => by simp [PyData.canLay0], fun x => by simp [PyData.depth]⟩
theorem isD_list {α : Type} [DecidableEq α] {f : α → PyData} {k : Nat} (h : IsD f k) : IsD (fun xs : List α => PyData.list (xs.map f)) (k + 1) :=
  ⟨fun x y => by simp only [PyData.eqv, eqvAll_map h], fun x => by simp only [PyData.canLay0, layAll_map h], fun x => by have := depAll_map h x; simp only [PyData.depth]; omega⟩
theorem isD_tup {α : Type} [DecidableEq α] {f : α → PyData} {k : Nat} (h : IsD f k) : IsD (fun xs : List α => PyData.tuple (xs.map f)) (k + 1) :=
  ⟨fun x y => by simp only [PyData.eqv, eqvAll_map h], fun x => by simp only [PyData.canLay0, layAll_map h], fun x => by have := depAll_map h x; simp only [PyData.depth]; omega⟩
theorem shaped_of {α : Type} [DecidableEq α] {f : α → PyData} {k : Nat} (h : IsD f k) (hk : k ≤ 64) (x : α) : SeqAt.shaped (f x) = true := by
  unfold SeqAt.shaped
  rw [h.lay, decide_eq_true (Nat.le_trans (h.dep x) hk)]
  rfl
abbrev dInts : List Int → PyData := fun ns => .list (ns.map .int)
abbrev dTupI : List Int → PyData := fun ns => .tuple (ns.map .int)
abbrev dBools : List Bool → PyData := fun ns => .list (ns.map .bool)
abbrev dTupB : List Bool → PyData := fun ns => .tuple (ns.map .bool)
abbrev dLL : List (List Int) → PyData := fun xs => .list (xs.map dInts)
abbrev dLT : List (List Int) → PyData := fun xs => .list (xs.map dTupI)
theorem isD_ints : IsD dInts 2 := isD_list isD_int
theorem isD_tupI : IsD dTupI 2 := isD_tup isD_int
theorem isD_bools : IsD dBools 2 := isD_list isD_bool
theorem isD_tupB : IsD dTupB 2 := isD_tup isD_bool
theorem isD_LL : IsD dLL 3 := isD_list isD_ints
theorem isD_LT : IsD dLT 3 := isD_list isD_tupI
section
variable {K : PySem.W.Frag} {H : Hp}
theorem dpAll_int : ∀ ns : List Int, DpAll K H (ns.map V.int) (ns.map .int)
  | [] => .nil
  | n :: ns => .cons (.int n) (dpAll_int ns)
theorem dpAll_bool : ∀ ns : List Bool, DpAll K H (ns.map V.bl) (ns.map .bool)
  | [] => .nil
  | n :: ns => .cons (.bl n) (dpAll_bool ns)
theorem dp_ints {a : Addr} {ns : List Int} (h : SqL K H a (ns.map V.int)) : Dp K H (.ref a) (dInts ns) := .lst h (dpAll_int ns)
theorem dp_tupI {a : Addr} {ns : List Int} (h : SqT K H a (ns.map V.int)) : Dp K H (.ref a) (dTupI ns) := .tup h (dpAll_int ns)
theorem dp_bools {a : Addr} {ns : List Bool} (h : SqL K H a (ns.map V.bl)) : Dp K H (.ref a) (dBools ns) := .lst h (dpAll_bool ns)
theorem dp_tupB {a : Addr} {ns : List Bool} (h : SqT K H a (ns.map V.bl)) : Dp K H (.ref a) (dTupB ns) := .tup h (dpAll_bool ns)
theorem dpAll_of {α : Type} {f : α → PyData} : ∀ {vs : List V} {xs : List α}, Paired (fun v x => Dp K H v (f x)) vs xs → DpAll K H vs (xs.map f)
  | _, _, .nil => .nil
  | _, _, .cons h t => .cons h (dpAll_of t)
theorem rEq_of {α : Type} [DecidableEq α] {f : α → PyData} {k : Nat} {x y : V} {a b : α} {Q : VK} (D : IsD f k) (hk : k ≤ 64) (h1 : Dp K H x (f a)) (h2 : Dp K H y (f b)) (q : Q (.bl (decide (a = b))) H) : rEqD K x y H Q :=
  ⟨_, _, h1, h2, shaped_of D hk a, shaped_of D hk b, by rw [D.eqv]; exact q⟩
theorem rNe_of {α : Type} [DecidableEq α] {f : α → PyData} {k : Nat} {x y : V} {a b : α} {Q : VK} (D : IsD f k) (hk : k ≤ 64) (h1 : Dp K H x (f a)) (h2 : Dp K H y (f b)) (q : Q (.bl (!decide (a = b))) H) : rNeD K x y H Q :=
  ⟨_, _, h1, h2, shaped_of D hk a, shaped_of D hk b, by rw [D.eqv]; exact q⟩
theorem rEq_ints {a b : Addr} {ns ms : List Int} {Q : VK} (h1 : SqL K H a (ns.map V.int)) (h2 : SqL K H b (ms.map V.int)) (q : Q (.bl (decide (ns = ms))) H) : rEqD K (.ref a) (.ref b) H Q :=
  rEq_of isD_ints (by decide) (dp_ints h1) (dp_ints h2) q
theorem rNe_ints {a b : Addr} {ns ms : List Int} {Q : VK} (h1 : SqL K H a (ns.map V.int)) (h2 : SqL K H b (ms.map V.int)) (q : Q (.bl (!decide (ns = ms))) H) : rNeD K (.ref a) (.ref b) H Q :=
  rNe_of isD_ints (by decide) (dp_ints h1) (dp_ints h2) q
end
/-! ### x in (lists) -/
def rInDT (K : PySem.W.Frag) (neg : Bool) : R2 := fun x y H Q => ∃ d ds, Dp K H x d ∧ Dp K H y (.tuple ds) ∧ SeqAt.shaped d = true ∧ SeqAt.shaped (.list ds) = true ∧ Q (.bl (if neg then !(ds.any fun z => PyData.eqv z d) else ds.any fun z => PyData.eqv z d)) H
/-! ### the numbers 0 .. n - 1 -/
def rangeI (n : Nat) : List Int := (List.range n).map Int.ofNat
theorem rangeI_len (n : Nat) : (rangeI n).length = n := by simp [rangeI]
theorem rangeI_get {n i : Nat} (h : i < n) : (rangeI n)[i]? = some (i : Int) := by simp [rangeI, h]
theorem mem_rangeI {n : Nat} {x : Int} : x ∈ rangeI n ↔ 0 ≤ x ∧ x < n := by
  unfold rangeI
  simp only [List.mem_map, List.mem_range]
  constructor
  · rintro ⟨k, hk, rfl⟩
    exact ⟨Int.natCast_nonneg k, Int.ofNat_lt.mpr hk⟩
  · rintro ⟨h1, h2⟩
    exact ⟨x.toNat, by omega, by show ((x.toNat : Nat) : Int) = x; omega⟩
theorem rangeI_nodup (n : Nat) : (rangeI n).Nodup := by
  unfold rangeI List.Nodup
  rw [List.pairwise_map]
  exact List.Pairwise.imp (fun h e => h (Int.ofNat.inj e)) (List.nodup_range (n := n))
theorem rangeI_sorted (n : Nat) : (rangeI n).Pairwise (· ≤ ·) := by
  unfold rangeI
  rw [List.pairwise_map]
  exact List.pairwise_lt_range.imp fun h => Int.ofNat_le.mpr (Nat.le_of_lt h)
theorem rgV_range (n : Nat) : rgV 0 (n : Int) = (rangeI n).map V.int := by
  unfold rgV rangeI
  simp only [Int.sub_zero, Int.toNat_natCast, List.map_map]
  apply List.map_congr_left
  intro a _
  simp
/-! ### two ways to be sorted -/
theorem sorted_eq {ns ms : List Int} (p : ns.Perm ms) (h1 : ns.Pairwise (· ≤ ·)) (h2 : ms.Pairwise (· ≤ ·)) : ns = ms :=
  p.eq_of_pairwise (fun a b _ _ h h' => Int.le_antisymm h h') h1 h2
/-! ### ranks -/
def lessN (ns : List Int) (x : Int) : Int := ((ns.filter (· < x)).length : Int)
def rk (ns : List Int) : List Int := ns.map (lessN ns)
theorem rk_len (ns : List Int) : (rk ns).length = ns.length := by simp [rk]
theorem sorted_index : ∀ {l : List Int}, l.Pairwise (· ≤ ·) → ∀ {x : Int}, x ∈ l → l[(l.filter (· < x)).length]? = some x ∧ ∀ m y, m < (l.filter (· < x)).length → l[m]? = some y → y ≠ x
  | [], _, _, h => by simp at h
  | a :: l, hp, x, hx => by
    have h1 := (List.pairwise_cons.mp hp).1
    have h2 := (List.pairwise_cons.mp hp).2
    by_cases c : a < x
    · have hxl : x ∈ l := by
        rcases List.mem_cons.mp hx with e | e
        · omega
        · exact e
      have ih := sorted_index h2 hxl
      rw [List.filter_cons_of_pos (by simpa using c), List.length_cons]
      refine ⟨by rw [List.getElem?_cons_succ]; exact ih.1, fun m y hm hy => ?_⟩
      cases m with
      | zero =>
        have : a = y := by simpa using hy
        omega
      | succ m => exact ih.2 m y (by omega) (by simpa using hy)
    · have hall : ∀ y ∈ a :: l, ¬ y < x := fun y hy => by
        rcases List.mem_cons.mp hy with e | e
        · omega
        · have := h1 y e; omega
      have hz : (a :: l).filter (· < x) = [] := List.filter_eq_nil_iff.mpr (fun y hy => by simpa using hall y hy)
      rw [hz]
      have : a = x := by
        rcases List.mem_cons.mp hx with e | e
        · exact e.symm
        · have := h1 x e; omega
      exact ⟨by simp [this], fun m y hm => by simp at hm⟩
theorem rk_index {ns ns' : List Int} (perm : ns'.Perm ns) (ri : ns'.Pairwise (· ≤ ·)) (x : Int) (hx : x ∈ ns) : ∃ j : Nat, (j : Int) = lessN ns x ∧ ns'[j]? = some x ∧ ∀ m y, m < j → ns'[m]? = some y → y ≠ x := by
  have h := sorted_index ri (perm.mem_iff.mpr hx)
  have e : (ns'.filter (· < x)).length = (ns.filter (· < x)).length := (perm.filter _).length_eq
  exact ⟨(ns'.filter (· < x)).length, by unfold lessN; rw [e], h.1, h.2⟩
/-! ### rows and shapes -/
def rowOk (ns : List Int) : Prop := ns.length ≤ 30 ∧ ns.Nodup
def shapeOk (ns : List Int) : Prop := ns.length ≤ 30 ∧ ns.Perm (rangeI ns.length)
instance (ns : List Int) : Decidable (rowOk ns) := by unfold rowOk; infer_instance
instance (ns : List Int) : Decidable (shapeOk ns) := by unfold shapeOk; infer_instance
theorem shape_sorted {ns ns' : List Int} (p : ns'.Perm ns) (h : ns'.Pairwise (· ≤ ·)) : ns' = rangeI ns.length ↔ ns.Perm (rangeI ns.length) := by
  constructor
  · intro e; rw [← e]; exact p.symm
  · intro e; exact sorted_eq (p.trans e) h (rangeI_sorted _)
theorem shapeOk_row {ns : List Int} (h : shapeOk ns) : rowOk ns := ⟨h.1, h.2.nodup_iff.mpr (rangeI_nodup _)⟩
theorem shapeOk_mem {ns : List Int} (h : shapeOk ns) {x : Int} : x ∈ ns ↔ 0 ≤ x ∧ x < ns.length := by rw [h.2.mem_iff, mem_rangeI]
/-- flat ints within a list of values -/
theorem flat_ints (ns : List Int) : (ns.map V.int).all flatV = true := by
  rw [List.all_map]
  exact List.all_eq_true.mpr fun _ _ => rfl
theorem eqV_int (x y : Int) : eqV (.int x) (.int y) = decide (x = y) := by
  show (x == y) = _
  exact Bool.beq_eq_decide_eq _ _
theorem inV_ints (x : Int) (ns : List Int) : inV (.int x) (ns.map V.int) = decide (x ∈ ns) := by
  unfold inV
  rw [List.any_map]
  by_cases h : x ∈ ns
  · rw [decide_eq_true h]
    exact List.any_eq_true.mpr ⟨x, h, by simp [Function.comp, eqV_int]⟩
  · rw [decide_eq_false h]
    refine List.any_eq_false.mpr fun y hy => ?_
    simp only [Function.comp, eqV_int, decide_eq_true_eq]
    intro e; exact h (e ▸ hy)
end Sh

set_option Elab.async false
set_option linter.all false
set_option maxRecDepth 100000
set_option maxHeartbeats 4000000
/-! ShX: own errors caught: which class an except clause takes, isinstance of what was caught. -/
namespace Sh
open PySem PySem.Spec PyProof.Rows L2
section
variable {K : PySem.W.Frag}
theorem kit_ref {D C : Addr} {b : Bool} (hdct : PySem.W.hasDictIn K C = true) (ht : PySem.W.typeIn K (.ref C) = some (.type "type")) (h : PySem.W.subIn K (.ref D) (.ref C) = some b) (self : PySem.W.subIn K (.ref D) (.ref D) = some true) :
    PySem.W.kitOne K (.ref D) (.ref C) = some b := by
  obtain ⟨cd, hc, _⟩ := PySem.W.any_some hdct
  have e2 : ((PySem.W.clsIn K C).isSome && PySem.W.typeIn K (.ref C) == some (.type "type")) = true := by rw [hc, ht] <;> rfl
  unfold PySem.W.kitOne
  by_cases e : D = C
  · subst e
    rw [self] at h
    rw [if_pos (by simp)]
    exact h
  · rw [if_neg (by simpa using e)]
    show (if ((PySem.W.clsIn K C).isSome && PySem.W.typeIn K (.ref C) == some (.type "type")) = true then PySem.W.subIn K (.ref D) (.ref C) else none) = some b
    rw [if_pos e2]
    exact h
theorem kit_val {D : Addr} (h : PySem.W.subIn K (.ref D) (.type "ValueError") = some true) : PySem.W.kitOne K (.ref D) (.type "ValueError") = some true := by
  unfold PySem.W.kitOne
  rw [if_neg (by simp)]
  show (if PySem.W.kitMeta "ValueError" = true then PySem.W.subIn K (.ref D) (.type "ValueError") else none) = some true
  rw [if_pos (by decide +kernel)]
  exact h
end
/-- isinstance(e, c), e the error that the suite holds, of class cls -/
def rIsX (K : PySem.W.Frag) (a : Addr) (cls : Value) (d : Option Addr) : List V → Hp → VK → Prop := fun xs H Q => ∃ D, cls = .ref D ∧ d = none ∧ ExcC K D ∧ rIsE K D a xs H Q
theorem call_isX {X : Cx} {a : Addr} {oe : Obj} {pn : List (Addr × Obj)} {cls : Value} {d : Option Addr} (hz : Zc cls d oe) (hf : ∃ vs, oe.data = .fields vs) : CallR (X.suite a ((a, oe) :: pn)) (.builtin "isinstance") (rIsX X.K a cls d) := by
  intro pins s σ H xs us Q I r h
  obtain ⟨D, rfl, rfl, C, h⟩ := h
  exact call_isE C hz hf pins s σ H xs us Q I r h
theorem seq_of {t u : TS} {D : Ends} {σ : L2.St} {H : Hp} (Post : L2.St → Hp → Prop) (hu : ∀ σ H, Post σ H → u D σ H) (ht : ∀ U : L2.St → Hp → Prop, (∀ σ H, Post σ H → U σ H) → t { D with nx := U } σ H) : tSeq t u D σ H := ht _ hu
theorem seq_intro {t u : TS} {D : Ends} {σ : L2.St} {H : Hp} (h : t { D with nx := u D } σ H) : tSeq t u D σ H := h
/-! ### a loop over a list from its end -/
theorem forK_rev {K : PySem.W.Frag} {a : Addr} {g : TG} {tb : TS} {D : Ends} {σ : L2.St} {H : Hp} {α : Type} {n : Nat} (ns : List α) (h : α → V) (hn : n = ns.length) (Pv : Nat → L2.St → Hp → Prop) (h0 : Pv 0 σ H) (hl : ∀ i σ H, i ≤ ns.length → Pv i σ H → SqL K H a (ns.map h))
    (hs : ∀ (i : Nat) (x : α) σ H, i < ns.length → ns[ns.length - 1 - i]? = some x → Pv i σ H → g (h x) σ H fun σ2 H2 => tb { D with nx := Pv (i + 1), ct := Pv (i + 1), bk := D.nx } σ2 H2) (hd : ∀ σ H, Pv ns.length σ H → D.nx σ H) :
    ForK (Itv K a n) g tb D σ H := by
  subst hn
  refine ⟨fun i m σ H => m = ns.length - i ∧ i ≤ ns.length ∧ Pv i σ H, ⟨ns.length, by simp, Nat.zero_le _, h0⟩, ?_⟩
  rintro i m σ H ⟨rfl, hi, p⟩
  have q := hl i σ H hi p
  by_cases hlt : i < ns.length
  · have hx : ns[ns.length - 1 - i]? = some (ns[ns.length - 1 - i]'(by omega)) := List.getElem?_eq_getElem _
    have hy : (ns.map h)[ns.length - 1 - i]? = some (h (ns[ns.length - 1 - i]'(by omega))) := by rw [List.getElem?_map, hx]; rfl
    refine .inr ⟨⟨hlt, ns.map h, _, q, hy⟩, Pv (i + 1), fun σ' H' p' => ⟨ns.length - (i + 1), by omega, rfl, hlt, p'⟩, fun x H' y => ?_⟩
    obtain ⟨e, y⟩ := y
    subst e
    have e2 := (y _ q).symm.trans hy
    cases e2
    exact hs i _ σ _ hlt hx p
  · have e : i = ns.length := by omega
    subst e
    exact .inl ⟨Nat.le_refl _, hd σ H p⟩
end Sh

set_option Elab.async false
set_option linter.all false
set_option maxRecDepth 100000
set_option maxHeartbeats 4000000
/-! M2: contrary, turned over: plain Lean. -/
namespace Sh
open PySem PySem.Spec PyProof.Rows L2
/-! ### contrary, turned over -/
def contraryL (ns : List Int) : List Int := ns.map fun x => (ns.length : Int) - 1 - x
def overL (ns : List Int) : List Int := (List.range ns.length).map fun i : Nat => ((ns.idxOf (i : Int) : Nat) : Int)
theorem idxOf_at : ∀ {ns : List Int} {x : Int}, x ∈ ns → ns[ns.idxOf x]? = some x
  | [], _, h => by simp at h
  | a :: ns, x, h => by
    by_cases e : a = x
    · subst e; simp [List.idxOf_cons]
    · have h' : x ∈ ns := by
        rcases List.mem_cons.mp h with z | z
        · exact absurd z.symm e
        · exact z
      have q : (a == x) = false := by simpa using e
      rw [List.idxOf_cons, q]
      simpa using idxOf_at h'
theorem idxOf_min : ∀ {ns : List Int} {x : Int} {m : Nat} {y : Int}, m < ns.idxOf x → ns[m]? = some y → y ≠ x
  | [], _, _, _, h, _ => by simp at h
  | a :: ns, x, m, y, h, hy => by
    by_cases e : a = x
    · subst e; simp [List.idxOf_cons] at h
    · have q : (a == x) = false := by simpa using e
      rw [List.idxOf_cons, q] at h
      cases m with
      | zero =>
        have : a = y := by simpa using hy
        rw [← this]; exact e
      | succ m => exact idxOf_min (ns := ns) (m := m) (by simpa using h) (by simpa using hy)
theorem filter_len_le {α : Type} {p q : α → Bool} (h : ∀ x, q x = true → p x = true) : ∀ l : List α, (l.filter q).length ≤ (l.filter p).length
  | [] => by simp
  | a :: l => by
    have ih := filter_len_le h l
    by_cases c : q a = true
    · rw [List.filter_cons_of_pos c, List.filter_cons_of_pos (h a c)]
      simp; omega
    · rw [List.filter_cons_of_neg c]
      by_cases d : p a = true
      · rw [List.filter_cons_of_pos d]; simp; omega
      · rw [List.filter_cons_of_neg d]; exact ih
theorem filter_len_lt {α : Type} {p q : α → Bool} (h : ∀ x, q x = true → p x = true) {x : α} (hp : p x = true) (hq : q x = false) : ∀ l : List α, x ∈ l → (l.filter q).length < (l.filter p).length
  | a :: l, hm => by
    have le := filter_len_le h l
    by_cases e : a = x
    · subst e
      rw [List.filter_cons_of_neg (by simp [hq]), List.filter_cons_of_pos hp]
      simp; omega
    · have ih := filter_len_lt h hp hq l (by rcases List.mem_cons.mp hm with z | z; exact absurd z.symm e; exact z)
      by_cases c : q a = true
      · rw [List.filter_cons_of_pos c, List.filter_cons_of_pos (h a c)]
        simp; omega
      · rw [List.filter_cons_of_neg c]
        by_cases d : p a = true
        · rw [List.filter_cons_of_pos d]; simp; omega
        · rw [List.filter_cons_of_neg d]; exact ih
theorem filter_next {row : List Int} {num : Int} (h : num ∈ row) : (row.filter (fun y => decide (num + 1 ≤ y))).length < (row.filter (fun y => decide (num ≤ y))).length :=
  filter_len_lt (x := num) (fun x hx => by simp at hx ⊢; omega) (by simp) (by simp; omega) row h
end Sh

set_option Elab.async false
set_option linter.all false
set_option maxRecDepth 100000
set_option maxHeartbeats 4000000
/-! M3: shapes of rows, and shapes turned: plain Lean. -/
namespace Sh
open PySem PySem.Spec PyProof.Rows L2
theorem perm_of_sub {α : Type} [DecidableEq α] : ∀ {l m : List α}, l.Nodup → (∀ x ∈ l, x ∈ m) → m.length ≤ l.length → l.Perm m
  | [], m, _, _, h => by
    have : m = [] := by cases m with
      | nil => rfl
      | cons a r => simp at h
    subst this; exact List.Perm.nil
  | a :: l, m, hn, hs, h => by
    have ha : a ∈ m := hs a (by simp)
    have hn' := List.nodup_cons.mp hn
    have p : m.Perm (a :: m.erase a) := List.perm_cons_erase ha
    have hs' : ∀ x ∈ l, x ∈ m.erase a := fun x hx => by
      have hx' : x ∈ a :: m.erase a := p.mem_iff.mp (hs x (by simp [hx]))
      rcases List.mem_cons.mp hx' with e | e
      · exact absurd (e ▸ hx) hn'.1
      · exact e
    have hl : (m.erase a).length ≤ l.length := by
      have := List.length_erase_of_mem ha
      simp at h; omega
    exact ((perm_of_sub hn'.2 hs' hl).cons a).trans p.symm
theorem lessN_lt {ns : List Int} {x y : Int} (hx : x ∈ ns) (h : x < y) : lessN ns x < lessN ns y := by
  unfold lessN
  have := filter_len_lt (p := fun z => decide (z < y)) (q := fun z => decide (z < x)) (fun z hz => by simp at hz ⊢; omega) (x := x) (by simpa using h) (by simp) ns hx
  omega
theorem lessN_inj {ns : List Int} {x y : Int} (hx : x ∈ ns) (hy : y ∈ ns) (e : lessN ns x = lessN ns y) : x = y := by
  rcases Int.lt_trichotomy x y with h | h | h
  · have := lessN_lt hx h; omega
  · exact h
  · have := lessN_lt hy h; omega
theorem lessN_bound {ns : List Int} {x : Int} (hx : x ∈ ns) : 0 ≤ lessN ns x ∧ lessN ns x < ns.length := by
  unfold lessN
  refine ⟨by omega, ?_⟩
  have := filter_len_lt (p := fun _ => true) (q := fun z => decide (z < x)) (fun z _ => rfl) (x := x) rfl (by simp) ns hx
  rw [List.filter_eq_self.mpr (fun _ _ => rfl)] at this
  omega
theorem nodup_map {α β : Type} {f : α → β} {l : List α} (h : l.Nodup) (inj : ∀ a ∈ l, ∀ b ∈ l, f a = f b → a = b) : (l.map f).Nodup := by
  unfold List.Nodup
  rw [List.pairwise_map]
  exact List.Pairwise.imp_of_mem (fun {a b} ha hb hne e => hne (inj a ha b hb e)) h
theorem shape_of_nodup {ns : List Int} (hl : ns.length ≤ 30) (nd : ns.Nodup) (b : ∀ x ∈ ns, 0 ≤ x ∧ x < ns.length) : shapeOk ns :=
  ⟨hl, perm_of_sub nd (fun x hx => mem_rangeI.mpr (b x hx)) (by rw [rangeI_len]; exact Nat.le_refl _)⟩
theorem rk_shape {ns : List Int} (h : rowOk ns) : shapeOk (rk ns) := by
  refine shape_of_nodup (by rw [rk_len]; exact h.1) (nodup_map h.2 fun a ha b hb e => lessN_inj ha hb e) fun x hx => ?_
  obtain ⟨y, hy, rfl⟩ := List.mem_map.mp hx
  rw [rk_len]
  exact lessN_bound hy
theorem range_less (n : Nat) : ∀ k : Nat, k ≤ n → ((List.range n).filter (fun i => decide (i < k))).length = k := by
  induction n with
  | zero => intro k hk; have : k = 0 := by omega
            subst this; rfl
  | succ n ih =>
    intro k hk
    rw [List.range_succ, List.filter_append, List.length_append]
    by_cases e : k ≤ n
    · rw [ih k e, List.filter_cons_of_neg (by simp; omega)]; simp
    · have : k = n + 1 := by omega
      subst this
      have h1 : (List.range n).filter (fun i => decide (i < n + 1)) = List.range n := List.filter_eq_self.mpr fun i hi => by have := List.mem_range.mp hi; simp; omega
      rw [h1, List.filter_cons_of_pos (by simp)]
      simp
theorem lessN_range {n : Nat} {x : Int} (h0 : 0 ≤ x) (h : x ≤ n) : lessN (rangeI n) x = x := by
  obtain ⟨k, rfl⟩ : ∃ k : Nat, x = (k : Int) := ⟨x.toNat, by omega⟩
  unfold lessN rangeI
  rw [List.filter_map, List.length_map]
  have := range_less n k (by omega)
  have e : ((fun x => decide (x < (k : Int))) ∘ Int.ofNat) = fun i : Nat => decide (i < k) := by
    funext i
    simp [Function.comp]
  rw [e, this]
theorem lessN_perm {a b : List Int} (p : a.Perm b) (x : Int) : lessN a x = lessN b x := by
  unfold lessN; rw [(p.filter _).length_eq]
theorem rk_self {ns : List Int} (h : shapeOk ns) : rk ns = ns := by
  unfold rk
  conv => rhs; rw [← List.map_id ns]
  refine List.map_congr_left fun x hx => ?_
  have := (shapeOk_mem h).mp hx
  rw [lessN_perm h.2, lessN_range this.1 (by omega)]
  rfl
theorem reverse_shape {ns : List Int} (h : shapeOk ns) : shapeOk ns.reverse := ⟨by rw [List.length_reverse]; exact h.1, by rw [List.length_reverse]; exact (List.reverse_perm ns).trans h.2⟩
theorem contrary_len (ns : List Int) : (contraryL ns).length = ns.length := by simp [contraryL]
theorem contrary_shape {ns : List Int} (h : shapeOk ns) : shapeOk (contraryL ns) := by
  refine shape_of_nodup (by rw [contrary_len]; exact h.1) (nodup_map (shapeOk_row h).2 fun a _ b _ e => by omega) fun x hx => ?_
  obtain ⟨y, hy, rfl⟩ := List.mem_map.mp hx
  rw [contrary_len]
  have := (shapeOk_mem h).mp hy
  omega
theorem contrary_back (ns : List Int) : contraryL (contraryL ns) = ns := by
  unfold contraryL
  rw [List.map_map, List.length_map]
  conv => rhs; rw [← List.map_id ns]
  refine List.map_congr_left fun x _ => ?_
  simp only [Function.comp, id]
  omega
theorem over_len (ns : List Int) : (overL ns).length = ns.length := by simp [overL]
theorem over_get {ns : List Int} {i : Nat} (h : i < ns.length) : (overL ns)[i]? = some ((ns.idxOf (i : Int) : Nat) : Int) := by simp [overL, h]
theorem idxOf_of {ns : List Int} (nd : ns.Nodup) {i : Nat} {x : Int} (h : ns[i]? = some x) : ns.idxOf x = i := by
  have hm := List.mem_of_getElem? h
  exact nd_ix nd (idxOf_at hm) h
theorem idxOf_inj {ns : List Int} {x y : Int} (hx : x ∈ ns) (hy : y ∈ ns) (e : ns.idxOf x = ns.idxOf y) : x = y := by
  have h1 := idxOf_at hx
  rw [e, idxOf_at hy] at h1
  exact (Option.some.inj h1).symm
theorem idxOf_lt {ns : List Int} {x : Int} (hx : x ∈ ns) : ns.idxOf x < ns.length := (List.getElem?_eq_some_iff.mp (idxOf_at hx)).1
theorem over_shape {ns : List Int} (h : shapeOk ns) : shapeOk (overL ns) := by
  have hm : ∀ i ∈ List.range ns.length, ((i : Nat) : Int) ∈ ns := fun i hi => (shapeOk_mem h).mpr ⟨by omega, by have := List.mem_range.mp hi; omega⟩
  refine shape_of_nodup (by rw [over_len]; exact h.1) (nodup_map List.nodup_range fun a ha b hb e => ?_) fun x hx => ?_
  · have := idxOf_inj (hm a ha) (hm b hb) (by omega)
    omega
  · obtain ⟨y, hy, rfl⟩ := List.mem_map.mp hx
    rw [over_len]
    have := idxOf_lt (hm y hy)
    omega
theorem over_back {ns : List Int} (h : shapeOk ns) : overL (overL ns) = ns := by
  apply List.ext_getElem?
  intro i
  by_cases hi : i < ns.length
  · rw [over_get (by rw [over_len]; exact hi), List.getElem?_eq_getElem hi]
    have hx : ns[i] ∈ ns := List.getElem_mem hi
    have b := (shapeOk_mem h).mp hx
    have e : (overL ns)[(ns[i]).toNat]? = some (i : Int) := by
      rw [over_get (by omega)]
      have : (((ns[i]).toNat : Nat) : Int) = ns[i] := by omega
      rw [this, idxOf_of (shapeOk_row h).2 (List.getElem?_eq_getElem hi)]
    rw [idxOf_of (shapeOk_row (over_shape h)).2 e]
    congr 1
    omega
  · rw [List.getElem?_eq_none (by rw [over_len, over_len]; omega), List.getElem?_eq_none (by omega)]
def ovAt (s : List Int) (i : Nat) : List Int := (List.range s.length).map fun j : Nat => if s.idxOf (j : Int) < i then ((s.idxOf (j : Int) : Nat) : Int) else 0
theorem ovAt_len (s : List Int) (i : Nat) : (ovAt s i).length = s.length := by simp [ovAt]
theorem ovAt_zero (s : List Int) : ovAt s 0 = List.replicate s.length 0 := by
  unfold ovAt
  apply List.ext_getElem?
  intro j
  by_cases hj : j < s.length
  · simp [hj]
  · simp [hj]
theorem ovAt_full {s : List Int} (h : shapeOk s) : ovAt s s.length = overL s := by
  unfold ovAt overL
  refine List.map_congr_left fun j hj => ?_
  rw [if_pos (idxOf_lt ((shapeOk_mem h).mpr ⟨by omega, by have := List.mem_range.mp hj; omega⟩))]
theorem ovAt_step {s : List Int} (h : shapeOk s) {i : Nat} {x : Int} (hx : s[i]? = some x) : (ovAt s i).set x.toNat (i : Int) = ovAt s (i + 1) := by
  have b := (shapeOk_mem h).mp (List.mem_of_getElem? hx)
  have e := idxOf_of (shapeOk_row h).2 hx
  apply List.ext_getElem?
  intro j
  by_cases hj : j < s.length
  · by_cases ej : j = x.toNat
    · subst ej
      rw [List.getElem?_set_self (by rw [ovAt_len]; exact hj)]
      have : ((x.toNat : Nat) : Int) = x := by omega
      simp [ovAt, hj, this, e]
    · rw [List.getElem?_set_ne (Ne.symm ej)]
      have hjm : (j : Int) ∈ s := (shapeOk_mem h).mpr ⟨by omega, by omega⟩
      have ne : s.idxOf (j : Int) ≠ i := fun z => ej (by
        have := idxOf_at hjm
        rw [z, hx] at this
        have := Option.some.inj this
        omega)
      simp only [ovAt, List.getElem?_map, List.getElem?_range hj, Option.map_some]
      congr 1
      by_cases c : s.idxOf (j : Int) < i
      · rw [if_pos c, if_pos (by omega)]
      · rw [if_neg c, if_neg (by omega)]
  · rw [List.getElem?_eq_none (by rw [List.length_set, ovAt_len]; omega), List.getElem?_eq_none (by rw [ovAt_len]; omega)]
theorem rev_range (s : List Int) : (List.range s.length).map (fun k : Nat => s.getD (s.length - 1 - k) 0) = s.reverse := by
  apply List.ext_getElem?
  intro j
  by_cases hj : j < s.length
  · rw [List.getElem?_map, List.getElem?_range hj, List.getElem?_reverse hj, List.getElem?_eq_getElem (by omega)]
    simp [List.getD_eq_getElem?_getD, List.getElem?_eq_getElem (show s.length - 1 - j < s.length by omega)]
  · rw [List.getElem?_eq_none (by simp; omega), List.getElem?_eq_none (by simp; omega)]
theorem shape_iff (s : List Int) : (s.length < 31 ∧ ∀ j : Nat, j < s.length → (j : Int) ∈ s) ↔ shapeOk s := by
  constructor
  · rintro ⟨h1, h2⟩
    refine ⟨by omega, (perm_of_sub (rangeI_nodup _) (fun x hx => ?_) (by rw [rangeI_len]; exact Nat.le_refl _)).symm⟩
    have := mem_rangeI.mp hx
    have e : ((x.toNat : Nat) : Int) = x := by omega
    rw [← e]
    exact h2 _ (by omega)
  · intro h
    exact ⟨by have := h.1; omega, fun j hj => (shapeOk_mem h).mpr ⟨by omega, by omega⟩⟩
end Sh

set_option Elab.async false
set_option linter.all false
set_option maxRecDepth 100000
set_option maxHeartbeats 4000000
/-! M4: falls and wrong pairs: plain Lean. -/
namespace Sh
open PySem PySem.Spec PyProof.Rows L2
def inv : List Int → Nat
  | [] => 0
  | x :: r => (r.filter (· < x)).length + inv r
def fallsL (ns : List Int) : List Int := ((List.range (ns.length - 1)).filter fun k => decide (ns.getD (k + 1) 0 < ns.getD k 0)).map Int.ofNat
theorem inv_snoc : ∀ (l : List Int) (x : Int), inv (l ++ [x]) = inv l + (l.filter (fun y => decide (x < y))).length
  | [], x => by simp [inv]
  | a :: l, x => by
    have ih := inv_snoc l x
    simp only [List.cons_append, inv, List.filter_append, List.length_append, ih]
    by_cases c : x < a
    · rw [List.filter_cons_of_pos (by simpa using c), List.filter_cons_of_pos (by simpa using c)]
      simp; omega
    · rw [List.filter_cons_of_neg (by simpa using c), List.filter_cons_of_neg (by simpa using c)]
      simp; omega
theorem drop_get {ns : List Int} {i : Nat} (h : i < ns.length) : ns.drop i = ns.getD i 0 :: ns.drop (i + 1) := by
  rw [List.drop_eq_getElem_cons h, List.getD_eq_getElem?_getD, List.getElem?_eq_getElem h]
  rfl
theorem take_get {ns : List Int} {i : Nat} (h : i < ns.length) : ns.take (i + 1) = ns.take i ++ [ns.getD i 0] := by
  rw [List.getD_eq_getElem?_getD, List.getElem?_eq_getElem h, take_more (List.getElem?_eq_getElem h)]
  rfl
theorem inv_drop {ns : List Int} {i : Nat} (h : i < ns.length) : inv (ns.drop i) = ((ns.drop (i + 1)).filter (· < ns.getD i 0)).length + inv (ns.drop (i + 1)) := by
  rw [drop_get h]; rfl
theorem inv_take {ns : List Int} {i : Nat} (h : i < ns.length) : inv (ns.take (i + 1)) = inv (ns.take i) + ((ns.take i).filter (fun y => decide (ns.getD i 0 < y))).length := by
  rw [take_get h, inv_snoc]
theorem cut_from (xs : List V) (k : Nat) : cutV xs (some ((k : Int))) none = xs.drop k := by
  unfold cutV
  rw [HT.sIx_nat, HT.sIx_none]
  by_cases h : k ≤ xs.length
  · rw [Nat.min_eq_left h, List.take_of_length_le (by simp)]
  · rw [Nat.min_eq_right (by omega), List.drop_eq_nil_of_le (by omega : xs.length ≤ k)]
    simp
theorem insert_perm {s : List Int} {i : Nat} (p : s.Perm (rangeI i)) (j : Nat) : (s.take j ++ [(i : Int)] ++ s.drop j).Perm (rangeI (i + 1)) := by
  have h1 : (s.take j ++ [(i : Int)] ++ s.drop j).Perm ([(i : Int)] ++ s) := by
    conv => rhs; rw [← List.take_append_drop j s]
    rw [← List.append_assoc]
    exact List.Perm.append_right _ List.perm_append_comm
  refine h1.trans ?_
  have h2 : rangeI (i + 1) = rangeI i ++ [(i : Int)] := by
    unfold rangeI; rw [List.range_succ, List.map_append]; rfl
  rw [h2]
  exact (List.Perm.append_left _ p).trans List.perm_append_comm
end Sh

set_option Elab.async false
set_option linter.all false
set_option maxRecDepth 100000
set_option maxHeartbeats 4000000
/-! M5: wrong pairs of a shape backward and turned over: plain Lean. -/
namespace Sh
open PySem PySem.Spec PyProof.Rows L2
theorem split_len (x : Int) : ∀ l : List Int, x ∉ l → (l.filter (· < x)).length + (l.filter (fun y => decide (x < y))).length = l.length
  | [], _ => rfl
  | a :: l, h => by
    have h1 : x ≠ a := fun e => h (by simp [e])
    have ih := split_len x l (fun z => h (by simp [z]))
    by_cases c : a < x
    · rw [List.filter_cons_of_pos (by simpa using c), List.filter_cons_of_neg (by simp; omega)]
      simp; omega
    · rw [List.filter_cons_of_neg (by simpa using c), List.filter_cons_of_pos (by simp; omega)]
      simp; omega
theorem inv_reverse : ∀ l : List Int, l.Nodup → 2 * (inv l.reverse + inv l) = l.length * (l.length - 1)
  | [], _ => by simp [inv]
  | x :: l, h => by
    have hn := List.nodup_cons.mp h
    have ih := inv_reverse l hn.2
    have e := split_len x l hn.1
    have er : (l.reverse.filter (fun y => decide (x < y))).length = (l.filter (fun y => decide (x < y))).length := ((List.reverse_perm l).filter _).length_eq
    rw [List.reverse_cons, inv_snoc, er]
    simp only [inv, List.length_cons, Nat.add_sub_cancel]
    have e2 : (l.length + 1) * l.length = l.length * (l.length - 1) + 2 * l.length := by
      cases hl : l.length with
      | zero => rfl
      | succ n =>
        simp only [Nat.add_sub_cancel]
        generalize hm : (n + 1) * n = m
        have h3 : (n + 1 + 1) * (n + 1) = (n + 1) * n + 2 * (n + 1) := by
          rw [show n + 1 + 1 = n + 2 from rfl, Nat.mul_comm (n + 2) (n + 1), Nat.mul_add, Nat.mul_comm (n + 1) 2]
        omega
    rw [e2, ← ih]
    omega
theorem perm_sum {l m : List Nat} (p : l.Perm m) : l.sum = m.sum := by
  induction p with
  | nil => rfl
  | cons x _ ih => simp [ih]
  | swap x y l => simp; omega
  | trans _ _ h1 h2 => rw [h1, h2]
theorem fubini {α β : Type} (p : α → β → Bool) : ∀ (l : List α) (m : List β), (l.map fun x => m.countP (p x)).sum = (m.map fun y => l.countP (fun x => p x y)).sum
  | [], m => by
    induction m with
    | nil => rfl
    | cons a m ih => simp only [List.map_cons, List.sum_cons, ← ih]; rfl
  | a :: l, m => by
    have ih := fubini p l m
    simp only [List.map_cons, List.sum_cons, ih]
    clear ih
    induction m with
    | nil => rfl
    | cons b m ih =>
      simp only [List.countP_cons] at ih ⊢
      simp only [List.map_cons, List.sum_cons]
      omega
theorem count_below (p : Nat → Bool) (j : Nat) : ∀ n, j ≤ n → (List.range n).countP (fun i => decide (i < j) && p i) = (List.range j).countP p := by
  intro n
  induction n with
  | zero => intro h; have : j = 0 := by omega
            subst this; rfl
  | succ n ih =>
    intro h
    by_cases e : j ≤ n
    · rw [List.range_succ, List.countP_append, ih e, List.countP_cons_of_neg (by simp; omega)]; rfl
    · have : j = n + 1 := by omega
      subst this
      refine List.countP_congr fun i hi => ?_
      have := List.mem_range.mp hi
      simp [this]
theorem filter_take (ns : List Int) (x : Int) : ∀ m, m ≤ ns.length → ((ns.take m).filter (fun y => decide (x < y))).length = (List.range m).countP (fun i => decide (x < ns.getD i 0)) := by
  intro m
  induction m with
  | zero => intro _; rfl
  | succ m ih =>
    intro h
    rw [take_get (by omega), List.filter_append, List.length_append, ih (by omega), List.range_succ, List.countP_append]
    congr 1
    by_cases c : x < ns.getD m 0
    · rw [List.filter_cons_of_pos (by simpa using c), List.countP_cons_of_pos (by simpa using c)]; rfl
    · rw [List.filter_cons_of_neg (by simpa using c), List.countP_cons_of_neg (by simpa using c)]; rfl
theorem inv_sum (ns : List Int) : ∀ m, m ≤ ns.length → inv (ns.take m) = ((List.range m).map fun j => (List.range j).countP (fun i => decide (ns.getD j 0 < ns.getD i 0))).sum := by
  intro m
  induction m with
  | zero => intro _; rfl
  | succ m ih =>
    intro h
    rw [inv_take (by omega), ih (by omega), filter_take _ _ _ (by omega), List.range_succ, List.map_append, List.sum_append]
    simp
theorem inv_pairs (ns : List Int) : inv ns = ((List.range ns.length).map fun j => (List.range ns.length).countP (fun i => decide (i < j) && decide (ns.getD j 0 < ns.getD i 0))).sum := by
  have h := inv_sum ns ns.length (Nat.le_refl _)
  rw [List.take_length] at h
  rw [h]
  congr 1
  refine List.map_congr_left fun j hj => ?_
  have := List.mem_range.mp hj
  rw [count_below _ j _ (by omega)]
theorem getD_at {s : List Int} {i : Nat} (h : i < s.length) : s[i]? = some (s.getD i 0) := by
  rw [List.getD_eq_getElem?_getD, List.getElem?_eq_getElem h]; rfl
theorem map_getD (s : List Int) : (List.range s.length).map (fun i => s.getD i 0) = s := by
  apply List.ext_getElem?
  intro i
  by_cases h : i < s.length
  · rw [List.getElem?_map, List.getElem?_range h, getD_at h]; rfl
  · rw [List.getElem?_eq_none (by simp; omega), List.getElem?_eq_none (by omega)]
theorem shape_perm_nat {s : List Int} (h : shapeOk s) : ((List.range s.length).map (fun i => (s.getD i 0).toNat)).Perm (List.range s.length) := by
  have h1 : (s.map Int.toNat).Perm ((rangeI s.length).map Int.toNat) := h.2.map _
  have h2 : (rangeI s.length).map Int.toNat = List.range s.length := by
    unfold rangeI
    rw [List.map_map]
    conv => rhs; rw [← List.map_id (List.range s.length)]
    exact List.map_congr_left fun i _ => by simp
  rw [h2] at h1
  have h3 : (List.range s.length).map (fun i => (s.getD i 0).toNat) = s.map Int.toNat := by
    conv => rhs; rw [← map_getD s]
    rw [List.map_map]; rfl
  rw [h3]; exact h1
theorem inv_over {s : List Int} (h : shapeOk s) : inv (overL s) = inv s := by
  rw [inv_pairs (overL s), inv_pairs s, over_len]
  have P := shape_perm_nat h
  have at' : ∀ i, i < s.length → (overL s).getD (s.getD i 0).toNat 0 = (i : Int) := fun i hi => by
    have b := (shapeOk_mem h).mp (List.mem_of_getElem? (getD_at hi))
    have e : (((s.getD i 0).toNat : Nat) : Int) = s.getD i 0 := by omega
    rw [List.getD_eq_getElem?_getD, over_get (by omega), e, idxOf_of (shapeOk_row h).2 (getD_at hi)]
    rfl
  have pos : ∀ i, i < s.length → 0 ≤ s.getD i 0 := fun i hi => ((shapeOk_mem h).mp (List.mem_of_getElem? (getD_at hi))).1
  rw [perm_sum (P.map _).symm, List.map_map]
  rw [fubini (fun j i => decide (i < j) && decide (s.getD j 0 < s.getD i 0)) (List.range s.length) (List.range s.length)]
  congr 1
  refine List.map_congr_left fun i hi => ?_
  have hi' := List.mem_range.mp hi
  simp only [Function.comp]
  rw [← P.countP_eq, List.countP_map]
  refine List.countP_congr fun j hj => ?_
  have hj' := List.mem_range.mp hj
  simp only [Function.comp, at' i hi', at' j hj']
  have p1 := pos i hi'
  have p2 := pos j hj'
  simp only [Bool.and_eq_true, decide_eq_true_eq]
  omega
theorem eraseIdx_map {α β : Type} (f : α → β) : ∀ (l : List α) (i : Nat), (l.map f).eraseIdx i = (l.eraseIdx i).map f
  | [], _ => rfl
  | _ :: _, 0 => rfl
  | a :: l, i + 1 => by simp [eraseIdx_map f l i]
end Sh

set_option Elab.async false
set_option linter.all false
set_option maxRecDepth 100000
set_option maxHeartbeats 4000000
/-! M6: rows parted and exchanged: what the text computes. -/
namespace Sh
open PySem PySem.Spec PyProof.Rows L2
def pstep (b : Int → Bool) (s : List (List Int) × List Int) (x : Int) : List (List Int) × List Int := if b x = true then (s.1 ++ [s.2 ++ [x]], []) else (s.1, s.2 ++ [x])
def pfold (b : Int → Bool) (l : List Int) : List (List Int) × List Int := l.foldl (pstep b) ([], [])
def sideOf (row : List Int) (number : Int) : Int → Bool := fun x => decide (decide (x < number) = decide (row.getLastD 0 < number))
def partedL (row : List Int) (number : Int) : List (List Int) := (pfold (sideOf row number) row).1
def rotR (xs : List Int) : List Int := xs.drop (xs.length - 1) ++ xs.take (xs.length - 1)
def rotL (xs : List Int) : List Int := xs.drop 1 ++ xs.take 1
def exRow (row : List Int) (number : Int) : List Int := if 0 < row.length then ((partedL row number).map rotR).flatten else []
def exStep (row : List Int) (number : Int) : List Int := exRow row number ++ [number]
def exL (shape : List Int) : List Int := shape.foldl exStep []
theorem pfold_snoc (b : Int → Bool) (l : List Int) (x : Int) : pfold b (l ++ [x]) = pstep b (pfold b l) x := by simp [pfold, List.foldl_append]
theorem pfold_flat (b : Int → Bool) (l : List Int) : (pfold b l).1.flatten ++ (pfold b l).2 = l := by
  suffices h : ∀ (l : List Int) (s : List (List Int) × List Int), (l.foldl (pstep b) s).1.flatten ++ (l.foldl (pstep b) s).2 = s.1.flatten ++ s.2 ++ l by
    simpa [pfold] using h l ([], [])
  intro l
  induction l with
  | nil => intro s; simp
  | cons x l ih =>
    intro s
    rw [List.foldl_cons, ih]
    unfold pstep
    split <;> simp
theorem flatten_len_le {α : Type} (x : List α) : ∀ xss : List (List α), x ∈ xss → x.length ≤ xss.flatten.length
  | a :: r, h => by
    rw [List.flatten_cons, List.length_append]
    rcases List.mem_cons.mp h with e | e
    · subst e; omega
    · have := flatten_len_le x r e; omega
theorem parted_flat_len (row : List Int) (number : Int) : (partedL row number).flatten.length ≤ row.length := by
  have := congrArg List.length (pfold_flat (sideOf row number) row)
  rw [List.length_append] at this
  unfold partedL
  omega
theorem rotR_len (xs : List Int) : (rotR xs).length = xs.length := by unfold rotR; rw [List.length_append, List.length_drop, List.length_take]; omega
theorem rotL_len (xs : List Int) : (rotL xs).length = xs.length := by unfold rotL; rw [List.length_append, List.length_drop, List.length_take]; omega
theorem flat_map_len (f : List Int → List Int) (hf : ∀ xs, (f xs).length = xs.length) : ∀ xss : List (List Int), ((xss.map f).flatten).length = xss.flatten.length
  | [] => rfl
  | a :: r => by simp only [List.map_cons, List.flatten_cons, List.length_append, hf, flat_map_len f hf r]
theorem exRow_len (row : List Int) (number : Int) : (exRow row number).length ≤ row.length := by
  unfold exRow
  split
  · rw [flat_map_len _ rotR_len]; exact parted_flat_len row number
  · simp
theorem exL_len (l : List Int) : (exL l).length ≤ l.length := by
  suffices h : ∀ (l : List Int) (r : List Int), (l.foldl exStep r).length ≤ r.length + l.length by simpa [exL] using h l []
  intro l
  induction l with
  | nil => intro r; simp
  | cons x l ih =>
    intro r
    have h1 := ih (exStep r x)
    have h2 := exRow_len r x
    have h3 : (exStep r x).length = (exRow r x).length + 1 := by simp [exStep]
    rw [List.foldl_cons, List.length_cons]
    omega
theorem exL_snoc (l : List Int) (x : Int) : exL (l ++ [x]) = exStep (exL l) x := by simp [exL, List.foldl_append]
/-! ### cuts -/
theorem cut_last (xs : List V) : cutV xs (some (-1)) none = xs.drop (xs.length - 1) := by
  unfold cutV
  have e : HT.sIx xs.length 0 (some (-1)) = xs.length - 1 := by
    unfold HT.sIx
    simp only []
    split <;> omega
  rw [e, HT.sIx_none, List.take_of_length_le (by simp)]
theorem cut_init (xs : List V) : cutV xs none (some (-1)) = xs.take (xs.length - 1) := by
  unfold cutV
  have e : HT.sIx xs.length xs.length (some (-1)) = xs.length - 1 := by
    unfold HT.sIx
    simp only []
    split <;> omega
  rw [e, HT.sIx_none, List.drop_zero, Nat.sub_zero]
theorem cut_to (xs : List V) (k : Nat) : cutV xs none (some (k : Int)) = xs.take k := by
  unfold cutV
  rw [HT.sIx_nat, HT.sIx_none, List.drop_zero, Nat.sub_zero]
  by_cases h : k ≤ xs.length
  · rw [Nat.min_eq_left h]
  · rw [Nat.min_eq_right (by omega), List.take_of_length_le (Nat.le_refl _), List.take_of_length_le (by omega)]
theorem cut_mid (xs : List V) (i j : Nat) (hj : j ≤ xs.length) : cutV xs (some (i : Int)) (some (j : Int)) = (xs.take j).drop i := by
  unfold cutV
  rw [HT.sIx_nat, HT.sIx_nat, Nat.min_eq_left hj, List.drop_take]
  by_cases h : i ≤ xs.length
  · rw [Nat.min_eq_left h]
  · rw [Nat.min_eq_right (by omega)]
    rw [List.drop_eq_nil_of_le (Nat.le_refl _), List.drop_eq_nil_of_le (by omega : xs.length ≤ i)]
    simp
/-! ### a list of lists, each of its own -/
structure Own2 (H0 H : Hp) (qs : List Addr) (xss : List (List Int)) : Prop where
  at_ : Paired (fun q xs => H q = some (.lst (xs.map V.int))) qs xss
  nd : qs.Nodup
  new : ∀ q ∈ qs, H0 q = none
theorem paired_snoc {α β : Type} {R : α → β → Prop} : ∀ {xs : List α} {ys : List β} {x : α} {y : β}, Paired R xs ys → R x y → Paired R (xs ++ [x]) (ys ++ [y])
  | _, _, _, _, .nil, r => .cons r .nil
  | _, _, _, _, .cons a t, r => .cons a (paired_snoc t r)
theorem paired_imp {α β : Type} {R S : α → β → Prop} : ∀ {xs : List α} {ys : List β}, Paired R xs ys → (∀ x y, x ∈ xs → R x y → S x y) → Paired S xs ys
  | _, _, .nil, _ => .nil
  | _, _, .cons a t, f => .cons (f _ _ (by simp) a) (paired_imp t fun x y hx r => f x y (by simp [hx]) r)
theorem paired_get {α β : Type} {R : α → β → Prop} : ∀ {xs : List α} {ys : List β} {i : Nat} {x : α}, Paired R xs ys → xs[i]? = some x → ∃ y, ys[i]? = some y ∧ R x y
  | _, _, _, _, .nil, h => by simp at h
  | _, _, 0, _, .cons r _, h => by simp at h; subst h; exact ⟨_, rfl, r⟩
  | _, _, i + 1, x, .cons _ t, h => by
    obtain ⟨y, h1, h2⟩ := paired_get (i := i) (x := x) t (by simpa using h)
    exact ⟨y, by simpa using h1, h2⟩
theorem paired_len {α β : Type} {R : α → β → Prop} : ∀ {xs : List α} {ys : List β}, Paired R xs ys → xs.length = ys.length
  | _, _, .nil => rfl
  | _, _, .cons _ t => by simp [paired_len t]
theorem paired_at {α β : Type} {R : α → β → Prop} : ∀ {xs : List α} {ys : List β} {x : α}, Paired R xs ys → x ∈ xs → ∃ y, R x y
  | _, _, _, .nil, h => by simp at h
  | _, _, x, .cons r t, h => by
    rcases List.mem_cons.mp h with e | e
    · subst e; exact ⟨_, r⟩
    · exact paired_at t e
theorem Own2.mut {H0 H : Hp} {qs : List Addr} {xss : List (List Int)} {r : Addr} {o : HO} (h : Own2 H0 H qs xss) (hr : r ∉ qs) : Own2 H0 (upd H r o) qs xss :=
  ⟨paired_imp h.at_ fun q xs hq e => by rw [upd_ne (fun z : q = r => hr (z ▸ hq))]; exact e, h.nd, h.new⟩
theorem Own2.same {H0 H H' : Hp} {qs : List Addr} {xss : List (List Int)} (h : Own2 H0 H qs xss) (s : Same H H') : Own2 H0 H' qs xss :=
  ⟨paired_imp h.at_ fun q xs hq e => s _ _ e, h.nd, h.new⟩
theorem Own2.there {H0 H : Hp} {qs : List Addr} {xss : List (List Int)} (h : Own2 H0 H qs xss) {r : Addr} (hr : H r = none) : r ∉ qs := fun z => by
  obtain ⟨y, e⟩ := paired_at h.at_ z
  rw [hr] at e; cases e
theorem Own2.snoc {H0 H : Hp} {qs : List Addr} {xss : List (List Int)} {r : Addr} {xs : List Int} (h : Own2 H0 H qs xss) (hr : r ∉ qs) (h0 : H0 r = none) (e : H r = some (.lst (xs.map V.int))) : Own2 H0 H (qs ++ [r]) (xss ++ [xs]) :=
  ⟨paired_snoc h.at_ e, by
    rw [List.nodup_append]
    refine ⟨h.nd, by simp, fun a ha b hb z => hr ?_⟩
    have hb' : b = r := by simpa using hb
    rw [← hb', ← z]; exact ha, fun q hq => by
    rcases List.mem_append.mp hq with z | z
    · exact h.new q z
    · have hz : q = r := by simpa using z
      rw [hz]; exact h0⟩
theorem snoc_ind {α : Type} {P : List α → Prop} (h0 : P []) (h : ∀ l x, P l → P (l ++ [x])) : ∀ l, P l := by
  intro l
  rw [← List.reverse_reverse l]
  induction l.reverse with
  | nil => exact h0
  | cons a r ih => rw [List.reverse_cons]; exact h _ _ ih
theorem pfold_cur_len (b : Int → Bool) (l : List Int) : (pfold b l).2.length ≤ l.length := by
  have := congrArg List.length (pfold_flat b l)
  rw [List.length_append] at this; omega
theorem pfold_ne (b : Int → Bool) : ∀ l : List Int, ∀ p ∈ (pfold b l).1, p ≠ [] := by
  refine snoc_ind ?_ ?_
  · intro p hp; simp [pfold] at hp
  · intro l x ih p hp
    rw [pfold_snoc] at hp
    unfold pstep at hp
    split at hp
    · rcases List.mem_append.mp hp with z | z
      · exact ih p z
      · have hz : p = (pfold b l).2 ++ [x] := by simpa using z
        subst hz; simp
    · exact ih p hp
theorem pfold_count (b : Int → Bool) (l : List Int) : (pfold b l).1.length ≤ l.length := by
  have h : ∀ xss : List (List Int), (∀ p ∈ xss, p ≠ []) → xss.length ≤ xss.flatten.length := by
    intro xss
    induction xss with
    | nil => intro _; simp
    | cons a r ih =>
      intro hh
      have h1 := ih fun p hp => hh p (by simp [hp])
      have h2 : 0 < a.length := by
        have := hh a (by simp)
        exact List.length_pos_iff.mpr this
      simp only [List.length_cons, List.flatten_cons, List.length_append]; omega
  have h1 := h _ (pfold_ne b l)
  have := congrArg List.length (pfold_flat b l)
  rw [List.length_append] at this; omega
theorem drop_of_append {α : Type} {a b l : List α} (h : a ++ b = l) : l.drop a.length = b := by rw [← h, List.drop_left]
end Sh

set_option Elab.async false
set_option linter.all false
set_option maxRecDepth 100000
set_option maxHeartbeats 4000000
/-! M7: exchanged and back, and what becomes of the wrong pairs: plain Lean. -/
namespace Sh
open PySem PySem.Spec PyProof.Rows L2
def good (b : Int → Bool) (p : List Int) : Prop := ∃ u z, p = u ++ [z] ∧ b z = true ∧ ∀ y ∈ u, b y = false
theorem pfold_run (b : Int → Bool) : ∀ (u : List Int), (∀ y ∈ u, b y = false) → ∀ s : List (List Int) × List Int, u.foldl (pstep b) s = (s.1, s.2 ++ u)
  | [], _, s => by simp
  | y :: u, h, s => by
    have hy : pstep b s y = (s.1, s.2 ++ [y]) := by
      unfold pstep; rw [if_neg]; rw [h y (by simp)]; simp
    rw [List.foldl_cons, hy, pfold_run b u (fun z hz => h z (by simp [hz]))]
    simp
theorem foldl_good (b : Int → Bool) : ∀ (ps : List (List Int)), (∀ p ∈ ps, good b p) → ∀ s, ps.flatten.foldl (pstep b) (s, []) = (s ++ ps, [])
  | [], _, s => by simp
  | p :: ps, h, s => by
    obtain ⟨u, z, rfl, hz, hu⟩ := h p (by simp)
    rw [List.flatten_cons, List.foldl_append, List.foldl_append, pfold_run b u hu]
    have e : List.foldl (pstep b) (s, [] ++ u) [z] = (s ++ [u ++ [z]], []) := by
      simp [pstep, hz]
    rw [show ((s, ([] : List Int)).1, (s, ([] : List Int)).2 ++ u) = (s, [] ++ u) from rfl, e, foldl_good b ps (fun q hq => h q (by simp [hq]))]
    simp
theorem pfold_of_good {b : Int → Bool} {ps : List (List Int)} (h : ∀ p ∈ ps, good b p) : pfold b ps.flatten = (ps, []) := by
  unfold pfold
  rw [foldl_good b ps h]
  simp
theorem pfold_good (b : Int → Bool) : ∀ l : List Int, (∀ p ∈ (pfold b l).1, good b p) ∧ ∀ y ∈ (pfold b l).2, b y = false := by
  refine snoc_ind ?_ ?_
  · exact ⟨fun p hp => by simp [pfold] at hp, fun y hy => by simp [pfold] at hy⟩
  · intro l x ih
    rw [pfold_snoc]
    unfold pstep
    by_cases hb : b x = true
    · rw [if_pos hb]
      refine ⟨fun p hp => ?_, fun y hy => by simp at hy⟩
      rcases List.mem_append.mp hp with z | z
      · exact ih.1 p z
      · have e : p = (pfold b l).2 ++ [x] := by simpa using z
        exact ⟨_, x, e, hb, ih.2⟩
    · rw [if_neg hb]
      refine ⟨ih.1, fun y hy => ?_⟩
      rcases List.mem_append.mp hy with z | z
      · exact ih.2 y z
      · have e : y = x := by simpa using z
        rw [e]; simpa using hb
theorem parted_spec {row : List Int} {x : Int} (h : 0 < row.length) : (partedL row x).flatten = row ∧ ∀ p ∈ partedL row x, good (sideOf row x) p := by
  refine ⟨?_, (pfold_good (sideOf row x) row).1⟩
  obtain ⟨r, z, rfl⟩ : ∃ r z, row = r ++ [z] := ⟨row.dropLast, row.getLast (by intro e; simp [e] at h), (List.dropLast_concat_getLast _).symm⟩
  have hz : sideOf (r ++ [z]) x z = true := by unfold sideOf; rw [List.getLastD_concat]; simp
  have e := pfold_flat (sideOf (r ++ [z]) x) (r ++ [z])
  have e2 : (pfold (sideOf (r ++ [z]) x) (r ++ [z])).2 = [] := by
    rw [pfold_snoc]; unfold pstep; rw [if_pos hz]
  rw [e2, List.append_nil] at e
  exact e
theorem rotR_snoc (u : List Int) (z : Int) : rotR (u ++ [z]) = z :: u := by
  unfold rotR
  simp
theorem rotL_cons (u : List Int) (z : Int) : rotL (z :: u) = u ++ [z] := by
  unfold rotL
  simp
theorem rotR_perm (p : List Int) : (rotR p).Perm p := by
  unfold rotR
  refine List.perm_append_comm.trans ?_
  rw [List.take_append_drop]
def bkRow (row : List Int) (x : Int) : List Int := if 0 < row.length then ((partedL row.reverse x).reverse.map fun p => rotL p.reverse).flatten else []
theorem side_of {row row' : List Int} {x : Int} (h : sideOf row x (row'.getLastD 0) = true) : sideOf row' x = sideOf row x := by
  funext y
  unfold sideOf at h ⊢
  have h' := of_decide_eq_true h
  rw [h']
theorem exRow_bk {row : List Int} {x : Int} (h : 0 < row.length) : bkRow (exRow row x) x = row := by
  obtain ⟨hf, hg⟩ := parted_spec (x := x) h
  have el : (exRow row x).length = row.length := by
    unfold exRow; rw [if_pos h, flat_map_len _ rotR_len, hf]
  have ee : exRow row x = ((partedL row x).map rotR).flatten := by unfold exRow; rw [if_pos h]
  have hr : (exRow row x).reverse = (((partedL row x).map rotR).map List.reverse).reverse.flatten := by
    rw [ee, List.reverse_flatten]
  have hs : sideOf (exRow row x).reverse x = sideOf row x := by
    apply side_of
    rw [ee]
    cases hp : partedL row x with
    | nil => rw [hp] at hf; rw [← hf] at h; simp at h
    | cons p ps =>
      obtain ⟨u, z, rfl, hz, _⟩ := hg p (by rw [hp]; simp)
      rw [List.map_cons, rotR_snoc, List.flatten_cons]
      have : ((z :: u) ++ (ps.map rotR).flatten).reverse = (u ++ (ps.map rotR).flatten).reverse ++ [z] := by simp
      rw [this, List.getLastD_concat]
      exact hz
  have hq : ∀ q ∈ (((partedL row x).map rotR).map List.reverse).reverse, good (sideOf row x) q := by
    intro q hq
    rw [List.mem_reverse, List.map_map] at hq
    obtain ⟨p, hp, rfl⟩ := List.mem_map.mp hq
    obtain ⟨u, z, rfl, hz, hu⟩ := hg p hp
    refine ⟨u.reverse, z, ?_, hz, fun y hy => hu y (List.mem_reverse.mp hy)⟩
    simp only [Function.comp, rotR_snoc, List.reverse_cons]
  have hP : partedL (exRow row x).reverse x = (((partedL row x).map rotR).map List.reverse).reverse := by
    show (pfold (sideOf (exRow row x).reverse x) (exRow row x).reverse).1 = _
    rw [hs, hr, pfold_of_good hq]
  unfold bkRow
  rw [if_pos (by omega), hP, List.reverse_reverse, List.map_map, List.map_map]
  conv => rhs; rw [← hf]
  congr 1
  conv => rhs; rw [← List.map_id (partedL row x)]
  refine List.map_congr_left fun p hp => ?_
  obtain ⟨u, z, rfl, hz, hu⟩ := hg p hp
  simp only [Function.comp, rotR_snoc, List.reverse_reverse, rotL_cons, id]
theorem rot_rev {b : Int → Bool} {p : List Int} (h : good b p) : rotR (rotL p.reverse) = p.reverse ∧ good b (rotL p.reverse) := by
  obtain ⟨u, z, rfl, hz, hu⟩ := h
  rw [List.reverse_append, List.reverse_singleton, List.singleton_append, rotL_cons, rotR_snoc]
  exact ⟨rfl, _, _, rfl, hz, fun y hy => hu y (List.mem_reverse.mp hy)⟩
theorem bkRow_len {row : List Int} {x : Int} : (bkRow row x).length = row.length := by
  unfold bkRow
  by_cases h : 0 < row.length
  · obtain ⟨hf, hg⟩ := parted_spec (row := row.reverse) (x := x) (by rw [List.length_reverse]; exact h)
    rw [if_pos h, flat_map_len (fun p => rotL p.reverse) (fun p => by rw [rotL_len, List.length_reverse])]
    have e := congrArg List.length hf
    rw [List.length_reverse] at e
    rw [← e]
    have : ∀ l : List (List Int), l.reverse.flatten.length = l.flatten.length := fun l => by
      rw [List.length_flatten, List.length_flatten, List.map_reverse, List.sum_reverse]
    exact this _
  · rw [if_neg h]; simp; omega
theorem bkRow_ex {row : List Int} {x : Int} (h : 0 < row.length) : exRow (bkRow row x) x = row := by
  have hlen : (bkRow row x).length = row.length := bkRow_len
  obtain ⟨hf, hg⟩ := parted_spec (row := row.reverse) (x := x) (by rw [List.length_reverse]; exact h)
  have ee : bkRow row x = ((partedL row.reverse x).reverse.map fun p => rotL p.reverse).flatten := by unfold bkRow; rw [if_pos h]
  have hq : ∀ q ∈ (partedL row.reverse x).reverse.map (fun p => rotL p.reverse), good (sideOf row.reverse x) q := by
    intro q hq
    obtain ⟨p, hp, rfl⟩ := List.mem_map.mp hq
    exact (rot_rev (hg p (List.mem_reverse.mp hp))).2
  have hs : sideOf (bkRow row x) x = sideOf row.reverse x := by
    apply side_of
    rw [ee]
    cases hp : partedL row.reverse x with
    | nil => 
      rw [hp] at hf
      have := congrArg List.length hf
      simp at this; omega
    | cons p ps =>
      obtain ⟨u, z, rfl, hz, _⟩ := hg p (by rw [hp]; simp)
      have : (((u ++ [z]) :: ps).reverse.map fun p => rotL p.reverse).flatten = ((ps.reverse.map fun p => rotL p.reverse).flatten ++ u.reverse) ++ [z] := by
        rw [List.reverse_cons, List.map_append, List.flatten_append]
        simp [rotL_cons]
      rw [this, List.getLastD_concat]
      exact hz
  have hP : partedL (bkRow row x) x = (partedL row.reverse x).reverse.map fun p => rotL p.reverse := by
    show (pfold (sideOf (bkRow row x) x) (bkRow row x)).1 = _
    rw [hs, ee, pfold_of_good hq]
  unfold exRow
  rw [if_pos (by omega), hP, List.map_map]
  have e3 : (partedL row.reverse x).reverse.map (rotR ∘ fun p => rotL p.reverse) = (partedL row.reverse x).reverse.map List.reverse := by
    refine List.map_congr_left fun p hp => ?_
    exact (rot_rev (hg p (List.mem_reverse.mp hp))).1
  rw [e3, List.map_reverse, ← List.reverse_flatten, hf, List.reverse_reverse]
theorem exRow_perm (row : List Int) (x : Int) : (exRow row x).Perm row := by
  by_cases h : 0 < row.length
  · obtain ⟨hf, _⟩ := parted_spec (x := x) h
    unfold exRow
    rw [if_pos h]
    conv => rhs; rw [← hf]
    generalize partedL row x = ps
    induction ps with
    | nil => exact List.Perm.refl _
    | cons p ps ih =>
      rw [List.map_cons, List.flatten_cons, List.flatten_cons]
      exact (rotR_perm p).append ih
  · have : row = [] := List.length_eq_zero_iff.mp (by omega)
    subst this
    exact List.Perm.refl _
theorem exL_perm : ∀ l : List Int, (exL l).Perm l := by
  refine snoc_ind (List.Perm.refl _) fun l x ih => ?_
  rw [exL_snoc]
  exact ((exRow_perm _ x).trans ih).append_right _
def exBn : Nat → List Int → List Int
  | 0, _ => []
  | n + 1, row => exBn n (bkRow row.dropLast (row.getLastD 0)) ++ [row.getLastD 0]
def exB (row : List Int) : List Int := exBn row.length row
theorem exB_snoc (row : List Int) (x : Int) : exB (row ++ [x]) = exB (bkRow row x) ++ [x] := by
  unfold exB
  rw [List.length_append, List.length_singleton, exBn, List.getLastD_concat, List.dropLast_concat, bkRow_len]
theorem bk_nil (x : Int) : bkRow [] x = [] := rfl
theorem exB_ex : ∀ l : List Int, exB (exL l) = l := by
  refine snoc_ind rfl fun l x ih => ?_
  rw [exL_snoc]
  unfold exStep
  rw [exB_snoc]
  by_cases h : 0 < (exL l).length
  · rw [exRow_bk h, ih]
  · have e : exL l = [] := List.length_eq_zero_iff.mp (by omega)
    have e2 : l = [] := by
      have := (exL_perm l).length_eq
      rw [e] at this
      exact List.length_eq_zero_iff.mp (by simpa using this.symm)
    subst e2
    rfl
theorem exL_bk : ∀ (n : Nat) (l : List Int), l.length = n → exL (exB l) = l
  | 0, l, h => by
    have e : l = [] := List.length_eq_zero_iff.mp h
    subst e; rfl
  | n + 1, l, h => by
    obtain ⟨r, z, rfl⟩ : ∃ r z, l = r ++ [z] := ⟨l.dropLast, l.getLast (by intro e; simp [e] at h), (List.dropLast_concat_getLast _).symm⟩
    have hr : r.length = n := by simpa using h
    rw [exB_snoc, exL_snoc, exL_bk n (bkRow r z) (by rw [bkRow_len]; exact hr)]
    unfold exStep
    by_cases h0 : 0 < r.length
    · rw [bkRow_ex h0]
    · have e : r = [] := List.length_eq_zero_iff.mp (by omega)
      subst e; rfl
theorem exB_perm (l : List Int) : (exB l).Perm l := by
  have h := exL_perm (exB l)
  rw [exL_bk _ l rfl] at h
  exact h.symm
theorem exL_len_eq (l : List Int) : (exL l).length = l.length := (exL_perm l).length_eq
theorem exB_len_eq (l : List Int) : (exB l).length = l.length := (exB_perm l).length_eq
theorem exL_last {l : List Int} : (exL l).getLastD 0 = l.getLastD 0 := by
  refine snoc_ind (P := fun l => (exL l).getLastD 0 = l.getLastD 0) rfl (fun l x _ => ?_) l
  rw [exL_snoc, exStep, List.getLastD_concat, List.getLastD_concat]
theorem exB_last {l : List Int} : (exB l).getLastD 0 = l.getLastD 0 := by
  refine snoc_ind (P := fun l => (exB l).getLastD 0 = l.getLastD 0) rfl (fun l x _ => ?_) l
  rw [exB_snoc, List.getLastD_concat, List.getLastD_concat]
/-! ### wrong pairs -/
def cr (a b : List Int) : Nat := (a.map fun z => (b.filter (· < z)).length).sum
theorem inv_append : ∀ a b : List Int, inv (a ++ b) = inv a + inv b + cr a b
  | [], b => by simp [inv, cr]
  | x :: a, b => by
    have ih := inv_append a b
    simp only [List.cons_append, inv, ih, List.filter_append, List.length_append, cr, List.map_cons, List.sum_cons]
    omega
theorem cr_left {a a' : List Int} (p : a.Perm a') (b : List Int) : cr a b = cr a' b := perm_sum (p.map _)
theorem cr_right (a : List Int) {b b' : List Int} (p : b.Perm b') : cr a b = cr a b' := by
  unfold cr
  congr 1
  exact List.map_congr_left fun z _ => (p.filter _).length_eq
theorem rots_perm : ∀ ps : List (List Int), ((ps.map rotR).flatten).Perm ps.flatten
  | [] => List.Perm.refl _
  | p :: ps => by
    rw [List.map_cons, List.flatten_cons, List.flatten_cons]
    exact (rotR_perm p).append (rots_perm ps)
theorem inv_flat_less (x : Int) : ∀ ps : List (List Int), (∀ p ∈ ps, inv p = inv (rotR p) + (p.filter (fun y => decide (x < y))).length) → inv (ps.map rotR).flatten + (ps.flatten.filter (fun y => decide (x < y))).length = inv ps.flatten
  | [], _ => rfl
  | p :: ps, h => by
    have ih := inv_flat_less x ps fun q hq => h q (by simp [hq])
    have hp := h p (by simp)
    rw [List.map_cons, List.flatten_cons, List.flatten_cons, inv_append, inv_append, cr_left (rotR_perm p), cr_right p (rots_perm ps), List.filter_append, List.length_append]
    omega
theorem inv_flat_more (x : Int) : ∀ ps : List (List Int), (∀ p ∈ ps, inv (rotR p) = inv p + (p.filter (fun y => decide (y < x))).length) → inv (ps.map rotR).flatten = inv ps.flatten + (ps.flatten.filter (fun y => decide (y < x))).length
  | [], _ => rfl
  | p :: ps, h => by
    have ih := inv_flat_more x ps fun q hq => h q (by simp [hq])
    have hp := h p (by simp)
    rw [List.map_cons, List.flatten_cons, List.flatten_cons, inv_append, inv_append, cr_left (rotR_perm p), cr_right p (rots_perm ps), List.filter_append, List.length_append]
    omega
theorem filter_all {p : Int → Bool} {u : List Int} (h : ∀ y ∈ u, p y = true) : (u.filter p).length = u.length := by rw [List.filter_eq_self.mpr h]
theorem filter_none {p : Int → Bool} {u : List Int} (h : ∀ y ∈ u, p y = false) : (u.filter p).length = 0 := by
  rw [List.filter_eq_nil_iff.mpr fun y hy => by rw [h y hy]; simp]; rfl
theorem one_z {p : Int → Bool} {z : Int} (h : p z = false) : ∀ y ∈ [z], p y = false := fun y hy => by
  have e : y = z := by simpa using hy
  rw [e]; exact h
theorem inv_ex {row : List Int} {x : Int} (h : 0 < row.length) (hx : x ∉ row) : inv (exRow row x ++ [x]) = inv row + if x < row.getLastD 0 then row.length else 0 := by
  obtain ⟨hf, hg⟩ := parted_spec (x := x) h
  have ee : exRow row x = ((partedL row x).map rotR).flatten := by unfold exRow; rw [if_pos h]
  have hne : ∀ p ∈ partedL row x, x ∉ p := fun p hp z => hx (by rw [← hf]; exact List.mem_flatten.mpr ⟨p, hp, z⟩)
  have hlast : row.getLastD 0 ∈ row := by
    obtain ⟨r, z, rfl⟩ : ∃ r z, row = r ++ [z] := ⟨row.dropLast, row.getLast (by intro e; simp [e] at h), (List.dropLast_concat_getLast _).symm⟩
    rw [List.getLastD_concat]; simp
  have hl : row.getLastD 0 ≠ x := fun e => hx (e ▸ hlast)
  have hsp := split_len x row hx
  have hpm : ((exRow row x).filter (fun y => decide (x < y))).length = (row.filter (fun y => decide (x < y))).length := ((exRow_perm row x).filter _).length_eq
  rw [inv_snoc, hpm, ee]
  by_cases c : row.getLastD 0 < x
  · rw [if_neg (by omega), Nat.add_zero]
    have := inv_flat_less x (partedL row x) fun p hp => ?_
    · rw [hf] at this; exact this
    obtain ⟨u, z, rfl, hz, hu⟩ := hg p hp
    have hn := hne _ hp
    have hz' : z < x := by
      unfold sideOf at hz; rw [decide_eq_true c] at hz; simpa using hz
    have hu' : ∀ y ∈ u, x < y := fun y hy => by
      have h1 := hu y hy
      unfold sideOf at h1; rw [decide_eq_true c] at h1
      have h2 : ¬ y < x := by simpa using h1
      have h3 : y ≠ x := fun e => hn (by rw [← e]; simp [hy])
      omega
    rw [rotR_snoc, inv_snoc, List.filter_append, List.length_append]
    simp only [inv]
    rw [filter_all (p := fun y => decide (z < y)) (fun y hy => by have := hu' y hy; simp; omega), filter_none (p := fun y => decide (y < z)) (fun y hy => by have := hu' y hy; simp; omega), filter_all (p := fun y => decide (x < y)) (fun y hy => by simpa using hu' y hy), filter_none (p := fun y => decide (x < y)) (u := [z]) (one_z (by simp; omega))]
    omega
  · rw [if_pos (by omega)]
    have := inv_flat_more x (partedL row x) fun p hp => ?_
    · rw [hf] at this; omega
    obtain ⟨u, z, rfl, hz, hu⟩ := hg p hp
    have hn := hne _ hp
    have hz' : x < z := by
      unfold sideOf at hz; rw [decide_eq_false c] at hz
      have h1 : ¬ z < x := by simpa using hz
      have h3 : z ≠ x := fun e => hn (by rw [← e]; simp)
      omega
    have hu' : ∀ y ∈ u, y < x := fun y hy => by
      have h1 := hu y hy
      unfold sideOf at h1; rw [decide_eq_false c] at h1
      simpa using h1
    rw [rotR_snoc, inv_snoc, List.filter_append, List.length_append]
    simp only [inv]
    rw [filter_none (p := fun y => decide (z < y)) (fun y hy => by have := hu' y hy; simp; omega), filter_all (p := fun y => decide (y < z)) (fun y hy => by have := hu' y hy; simp; omega), filter_all (p := fun y => decide (y < x)) (fun y hy => by simpa using hu' y hy), filter_none (p := fun y => decide (y < x)) (u := [z]) (one_z (by simp; omega))]
    omega
/-! ### the sum of falls -/
def majI (ns : List Int) : Int := ((fallsL ns).map (· + 1)).sum
theorem range_filter_congr {n : Nat} {p q : Nat → Bool} (h : ∀ k, k < n → p k = q k) : (List.range n).filter p = (List.range n).filter q :=
  List.filter_congr fun k hk => h k (List.mem_range.mp hk)
theorem maj_snoc {l : List Int} (h : 0 < l.length) (x : Int) : majI (l ++ [x]) = majI l + if x < l.getLastD 0 then (l.length : Int) else 0 := by
  obtain ⟨r, z, rfl⟩ : ∃ r z, l = r ++ [z] := ⟨l.dropLast, l.getLast (by intro e; simp [e] at h), (List.dropLast_concat_getLast _).symm⟩
  rw [List.getLastD_concat]
  unfold majI fallsL
  have e1 : (r ++ [z] ++ [x]).length - 1 = r.length + 1 := by simp
  have e2 : (r ++ [z]).length - 1 = r.length := by simp
  rw [e1, e2, List.range_succ, List.filter_append]
  have e3 : (List.range r.length).filter (fun k => decide ((r ++ [z] ++ [x]).getD (k + 1) 0 < (r ++ [z] ++ [x]).getD k 0)) = (List.range r.length).filter (fun k => decide ((r ++ [z]).getD (k + 1) 0 < (r ++ [z]).getD k 0)) := by
    refine range_filter_congr fun k hk => ?_
    have a1 : (r ++ [z] ++ [x]).getD (k + 1) 0 = (r ++ [z]).getD (k + 1) 0 := by
      simp only [List.getD_eq_getElem?_getD]
      rw [List.getElem?_append_left (by simp; omega)]
    have a2 : (r ++ [z] ++ [x]).getD k 0 = (r ++ [z]).getD k 0 := by
      simp only [List.getD_eq_getElem?_getD]
      rw [List.getElem?_append_left (by simp; omega)]
    rw [a1, a2]
  have e4 : (r ++ [z] ++ [x]).getD (r.length + 1) 0 = x := by
    simp only [List.getD_eq_getElem?_getD]
    rw [List.getElem?_append_right (by simp)]
    simp
  have e5 : (r ++ [z] ++ [x]).getD r.length 0 = z := by
    simp only [List.getD_eq_getElem?_getD]
    rw [List.getElem?_append_left (by simp), List.getElem?_append_right (by simp)]
    simp
  rw [e3, List.map_append, List.map_append, List.sum_append]
  congr 1
  by_cases c : x < z
  · rw [if_pos c, List.filter_cons_of_pos (by rw [e4, e5]; simpa using c)]
    simp
  · rw [if_neg c, List.filter_cons_of_neg (by rw [e4, e5]; simpa using c)]
    simp
theorem inv_exL : ∀ l : List Int, l.Nodup → (inv (exL l) : Int) = majI l := by
  refine snoc_ind (fun _ => rfl) fun l x ih hn => ?_
  have hn' := List.nodup_append.mp hn
  have h1 := ih hn'.1
  have hx : x ∉ l := fun z => hn'.2.2 x z x (by simp) rfl
  rw [exL_snoc]
  unfold exStep
  by_cases h : 0 < l.length
  · have hx2 : x ∉ exL l := fun z => hx ((exL_perm l).mem_iff.mp z)
    rw [inv_ex (by rw [exL_len_eq]; exact h) hx2, exL_last, exL_len_eq, maj_snoc h, ← h1]
    split <;> simp
  · have e : l = [] := List.length_eq_zero_iff.mp (by omega)
    subst e
    rfl
theorem paired_split {α β : Type} {R : α → β → Prop} {x : α} {y : β} : ∀ {xs : List α} {ys : List β}, xs.length = ys.length → Paired R (xs ++ [x]) (ys ++ [y]) → Paired R xs ys ∧ R x y
  | [], [], _, h => by cases h with | cons r _ => exact ⟨.nil, r⟩
  | [], _ :: _, hl, _ => by simp at hl
  | _ :: _, [], hl, _ => by simp at hl
  | a :: xs, b :: ys, hl, h => by
    cases h with
    | cons r t =>
      obtain ⟨h1, h2⟩ := paired_split (xs := xs) (ys := ys) (by simpa using hl) t
      exact ⟨.cons r h1, h2⟩
theorem Own2.split {H0 H : Hp} {qs : List Addr} {xss : List (List Int)} {q : Addr} {xs : List Int} (hl : qs.length = xss.length) (h : Own2 H0 H (qs ++ [q]) (xss ++ [xs])) :
    Own2 H0 H qs xss ∧ H q = some (.lst (xs.map V.int)) ∧ q ∉ qs ∧ H0 q = none := by
  obtain ⟨h1, h2⟩ := paired_split hl h.at_
  have n := List.nodup_append.mp h.nd
  exact ⟨⟨h1, n.1, fun r hr => h.new r (by simp [hr])⟩, h2, fun z => n.2.2 q z q (by simp) rfl, h.new q (by simp)⟩
theorem rev_at {α : Type} {l : List α} {k : Nat} (h : k < l.length) : l.reverse[k]? = l[l.length - 1 - k]? := by rw [List.getElem?_reverse h]
theorem atI_lastD {ns : List Int} (h : 0 < ns.length) : atI (ns.map V.int) (-1) = some (.int (ns.getLastD 0)) := by
  obtain ⟨r, z, rfl⟩ : ∃ r z, ns = r ++ [z] := ⟨ns.dropLast, ns.getLast (by intro e; simp [e] at h), (List.dropLast_concat_getLast _).symm⟩
  rw [List.map_append]
  simp only [List.map_cons, List.map_nil, List.getLastD_concat]
  exact atI_last _ _
theorem exL_shape {s : List Int} (h : shapeOk s) : shapeOk (exL s) := ⟨by rw [exL_len_eq]; exact h.1, by rw [exL_len_eq]; exact (exL_perm s).trans h.2⟩
theorem exB_shape {s : List Int} (h : shapeOk s) : shapeOk (exB s) := ⟨by rw [exB_len_eq]; exact h.1, by rw [exB_len_eq]; exact (exB_perm s).trans h.2⟩
theorem sorted_of {s t l : List Int} (h : shapeOk s) (hl : s.length = l.length) (p : t.Perm s) (w : t.Pairwise (· ≤ ·)) : t = rangeI l.length := by
  rw [← hl]
  exact (shape_sorted p w).mpr h.2
end Sh

open PySem PySem.Spec PyProof.Rows L2
local macro_rules | `(tactic| walk_at "rd") => `(tactic| try simp only [Sh.cxOf_K, tSeq, tAsg, tRet, tRetN, tVar, tC, tOp, tUn, tCB, tCons, tNil, tLst, tTup, gName, gSub, Sh.tFor_eq, Sh.tLc_eq, iList, iTup, iRng1, iRng2, tBM, tBM0, tNext, tIfS, tTest, tB, tYes, tAnd, tOr, tNot, tAndV, tOrV, tNotV, tIf, tDrop, tChain, tSl, tPart, tNoPart, tCall, tCallS, rI0, rI, rU, rEq, rNe, rIsB, rNotB, wipe,
   rSortedI, rIndex, rSlL, rIxL, rIxT, rSetL, rAppend, rExtend, rPop, rReverse, rCat, rRep, rCatT, rSum, rMin, rIn, Sh.rLen, Sh.rListOf, Sh.rTupleOf, Sh.rInt1, tLstRg, tRg1, tRg2, Sh.tLenSetG, Sh.tListRev, iRevR, iRev, List.length_map, List.length_range, Int.toNat_natCast, Int.zero_add, CDiv, Int.reduceLT, Int.reduceLE,
   List.getElem?_cons_zero, List.getElem?_cons_succ, List.set_cons_zero, List.set_cons_succ, Option.some.injEq, V.int.injEq, V.ref.injEq, V.bl.injEq, List.cons.injEq, and_true, true_and, and_assoc, reduceCtorEq, false_and, and_false, exists_false, false_or, or_false, exists_eq_left', exists_eq_left, exists_and_left, exists_and_right, List.map_cons, List.map_nil, List.append_nil, List.nil_append, List.cons_append, reduceIte, Bool.true_eq_false, Bool.false_eq_true, exists_eq', exists_eq, eq_self, not_true_eq_false, not_false_eq_true, decide_true, decide_false, Bool.not_true, Bool.not_false, if_true, if_false, decide_eq_true_eq, Bool.not_eq_true', decide_eq_false_iff_not])
local macro_rules | `(tactic| walk_at "r1") => `(tactic| try simp only [Sh.cxOf_K, tAsg, tRet, tRetN, tVar, tC, tOp, tUn, tCB, tCons, tNil, tLst, tTup, gName, gSub, Sh.tFor_eq, Sh.tLc_eq, iList, iTup, iRng1, iRng2, tBM, tBM0, tNext, tIfS, tTest, tB, tYes, tAnd, tOr, tNot, tAndV, tOrV, tNotV, tIf, tDrop, tChain, tSl, tPart, tNoPart, tCall, tCallS, rI0, rI, rU, rEq, rNe, rIsB, rNotB, wipe,
   rSortedI, rIndex, rSlL, rIxL, rIxT, rSetL, rAppend, rExtend, rPop, rReverse, rCat, rRep, rCatT, rSum, rMin, rIn, Sh.rLen, Sh.rListOf, Sh.rTupleOf, Sh.rInt1, tLstRg, tRg1, tRg2, Sh.tLenSetG, Sh.tListRev, iRevR, iRev, List.length_map, List.length_range, Int.toNat_natCast, Int.zero_add, CDiv, Int.reduceLT, Int.reduceLE,
   List.getElem?_cons_zero, List.getElem?_cons_succ, List.set_cons_zero, List.set_cons_succ, Option.some.injEq, V.int.injEq, V.ref.injEq, V.bl.injEq, List.cons.injEq, and_true, true_and, and_assoc, reduceCtorEq, false_and, and_false, exists_false, false_or, or_false, exists_eq_left', exists_eq_left, exists_and_left, exists_and_right, List.map_cons, List.map_nil, List.append_nil, List.nil_append, List.cons_append, reduceIte, Bool.true_eq_false, Bool.false_eq_true, exists_eq', exists_eq, eq_self, not_true_eq_false, not_false_eq_true, decide_true, decide_false, Bool.not_true, Bool.not_false, if_true, if_false, decide_eq_true_eq, Bool.not_eq_true', decide_eq_false_iff_not])

namespace Sh
def topS (i : Nat) : Stmt := PySem.Challenge.pw_shapeorders_k12_whole_exchanged.main.body.getD i (.Pass ⟨0, 0, 0, 0⟩)
abbrev s__law_cell_at : Stmt := topS 12
theorem sc__law_cell_at : FnScope ["script", "k"] ["script", "k"] (defScope s__law_cell_at) := ⟨rfl, rfl, rfl, by decide +kernel, rfl, by decide +kernel, by decide +kernel⟩
abbrev s__law_shape : Stmt := topS 15
theorem sc__law_shape : FnScope ["script", "at", "size", "found", "k", "cell"] ["script", "at", "size"] (defScope s__law_shape) := ⟨rfl, rfl, rfl, by decide +kernel, rfl, by decide +kernel, by decide +kernel⟩
abbrev s_is_shape : Stmt := topS 5
theorem sc_is_shape : FnScope ["some"] ["some"] (defScope s_is_shape) := ⟨rfl, rfl, rfl, by decide +kernel, rfl, by decide +kernel, by decide +kernel⟩
abbrev s_ask_shape : Stmt := topS 6
theorem sc_ask_shape : FnScope ["shape"] ["shape"] (defScope s_ask_shape) := ⟨rfl, rfl, rfl, by decide +kernel, rfl, by decide +kernel, by decide +kernel⟩
abbrev s_parted : Stmt := topS 8
theorem sc_parted : FnScope ["row", "number", "less", "found", "part", "one"] ["row", "number"] (defScope s_parted) := ⟨rfl, rfl, rfl, by decide +kernel, rfl, by decide +kernel, by decide +kernel⟩
abbrev s_exchanged : Stmt := topS 9
theorem sc_exchanged : FnScope ["shape", "row", "number", "parts", "part"] ["shape"] (defScope s_exchanged) := ⟨rfl, rfl, rfl, by decide +kernel, rfl, by decide +kernel, by decide +kernel⟩
abbrev s_exchanged_back : Stmt := topS 10
theorem sc_exchanged_back : FnScope ["shape", "row", "found", "number", "parts", "part"] ["shape"] (defScope s_exchanged_back) := ⟨rfl, rfl, rfl, by decide +kernel, rfl, by decide +kernel, by decide +kernel⟩
abbrev s__law_whole : Stmt := topS 13
theorem sc__law_whole : FnScope ["found"] ["found"] (defScope s__law_whole) := ⟨rfl, rfl, rfl, by decide +kernel, rfl, by decide +kernel, by decide +kernel⟩
abbrev s__law_numbers : Stmt := topS 14
theorem sc__law_numbers : FnScope ["found", "due", "x"] ["found", "due"] (defScope s__law_numbers) := ⟨rfl, rfl, rfl, by decide +kernel, rfl, by decide +kernel, by decide +kernel⟩
abbrev s__law_pairs : Stmt := topS 16
theorem sc__law_pairs : FnScope ["shape", "found", "j", "i"] ["shape"] (defScope s__law_pairs) := ⟨rfl, rfl, rfl, by decide +kernel, rfl, by decide +kernel, by decide +kernel⟩
abbrev s__law_sum : Stmt := topS 17
theorem sc__law_sum : FnScope ["shape", "k"] ["shape"] (defScope s__law_sum) := ⟨rfl, rfl, rfl, by decide +kernel, rfl, by decide +kernel, by decide +kernel⟩
abbrev s_law : Stmt := topS 18
theorem sc_law : FnScope ["script", "shape", "size", "handed", "found", "back", "kept"] ["script"] (defScope s_law) := ⟨rfl, rfl, rfl, by decide +kernel, rfl, by decide +kernel, by decide +kernel⟩
/-- what the top has written -/
structure Tx (K : PySem.W.Frag) (mg : Str → Option Value) where
  f__law_cell_at : Addr
  fd__law_cell_at : FuncData
  F__law_cell_at : Fun K "_law_cell_at" "_law_cell_at" s__law_cell_at f__law_cell_at fd__law_cell_at
  g__law_cell_at : mg "_law_cell_at" = some (.ref f__law_cell_at)
  b__law_cell_at : Binds K fd__law_cell_at ["script", "k"] []
  f__law_shape : Addr
  fd__law_shape : FuncData
  F__law_shape : Fun K "_law_shape" "_law_shape" s__law_shape f__law_shape fd__law_shape
  g__law_shape : mg "_law_shape" = some (.ref f__law_shape)
  b__law_shape : Binds K fd__law_shape ["script", "at", "size"] []
  f_is_shape : Addr
  fd_is_shape : FuncData
  F_is_shape : Fun K "is_shape" "is_shape" s_is_shape f_is_shape fd_is_shape
  g_is_shape : mg "is_shape" = some (.ref f_is_shape)
  b_is_shape : Binds K fd_is_shape ["some"] []
  f_ask_shape : Addr
  fd_ask_shape : FuncData
  F_ask_shape : Fun K "ask_shape" "ask_shape" s_ask_shape f_ask_shape fd_ask_shape
  g_ask_shape : mg "ask_shape" = some (.ref f_ask_shape)
  b_ask_shape : Binds K fd_ask_shape ["shape"] []
  f_parted : Addr
  fd_parted : FuncData
  F_parted : Fun K "parted" "parted" s_parted f_parted fd_parted
  g_parted : mg "parted" = some (.ref f_parted)
  b_parted : Binds K fd_parted ["row", "number"] []
  f_exchanged : Addr
  fd_exchanged : FuncData
  F_exchanged : Fun K "exchanged" "exchanged" s_exchanged f_exchanged fd_exchanged
  g_exchanged : mg "exchanged" = some (.ref f_exchanged)
  b_exchanged : Binds K fd_exchanged ["shape"] []
  f_exchanged_back : Addr
  fd_exchanged_back : FuncData
  F_exchanged_back : Fun K "exchanged_back" "exchanged_back" s_exchanged_back f_exchanged_back fd_exchanged_back
  g_exchanged_back : mg "exchanged_back" = some (.ref f_exchanged_back)
  b_exchanged_back : Binds K fd_exchanged_back ["shape"] []
  f__law_whole : Addr
  fd__law_whole : FuncData
  F__law_whole : Fun K "_law_whole" "_law_whole" s__law_whole f__law_whole fd__law_whole
  g__law_whole : mg "_law_whole" = some (.ref f__law_whole)
  b__law_whole : Binds K fd__law_whole ["found"] []
  f__law_numbers : Addr
  fd__law_numbers : FuncData
  F__law_numbers : Fun K "_law_numbers" "_law_numbers" s__law_numbers f__law_numbers fd__law_numbers
  g__law_numbers : mg "_law_numbers" = some (.ref f__law_numbers)
  b__law_numbers : Binds K fd__law_numbers ["found", "due"] []
  f__law_pairs : Addr
  fd__law_pairs : FuncData
  F__law_pairs : Fun K "_law_pairs" "_law_pairs" s__law_pairs f__law_pairs fd__law_pairs
  g__law_pairs : mg "_law_pairs" = some (.ref f__law_pairs)
  b__law_pairs : Binds K fd__law_pairs ["shape"] []
  f__law_sum : Addr
  fd__law_sum : FuncData
  F__law_sum : Fun K "_law_sum" "_law_sum" s__law_sum f__law_sum fd__law_sum
  g__law_sum : mg "_law_sum" = some (.ref f__law_sum)
  b__law_sum : Binds K fd__law_sum ["shape"] []
  f_law : Addr
  fd_law : FuncData
  F_law : Fun K "law" "law" s_law f_law fd_law
  g_law : mg "law" = some (.ref f_law)
  b_law : Binds K fd_law ["script"] []
  m_len : mg "len" = none
  m_range : mg "range" = none
  m_sorted : mg "sorted" = none
  m_list : mg "list" = none
  m_reversed : mg "reversed" = none
  m_isinstance : mg "isinstance" = none
  m_int : mg "int" = none
  m_bool : mg "bool" = none
  m_sum : mg "sum" = none
  t_MOST : Tok
  g_MOST : mg "MOST" = some (.int 30 t_MOST)
  C_NoShape : Addr
  gC_NoShape : mg "NoShape" = some (.ref C_NoShape)
  x_NoShape : PySem.W.excIn K C_NoShape [.type "ValueError", .type "Exception", .type "BaseException", .type "object"] "ValueError.__new__" = true
  kC_NoShape : PySem.W.keepIn K (.ref C_NoShape) = true
  bC_NoShape : PySem.W.subIn K (.ref C_NoShape) (.type "BaseException") = some true
  tC_NoShape : PySem.W.typeIn K (.ref C_NoShape) = some (.type "type")
end Sh

namespace Sh
section
variable {P : Program} {w : World} {K : PySem.W.Frag} {mg : Str → Option Value} {base : Heap}
def sp__law_cell_at (T : Tx K mg) : Sp := fun vs H Q _ => ∃ (a : Addr) (ns : List Int) (k : Int), vs = [.ref a, .int k] ∧ SqL K H a (ns.map V.int) ∧ 0 ≤ k ∧ Q (.int (ns.getD k.toNat 0)) H
theorem ok__law_cell_at (T : Tx K mg) : FnOk P w K mg base CX0 1 T.f__law_cell_at T.fd__law_cell_at ["script", "k"] (sp__law_cell_at T) := by
  refine T.F__law_cell_at.ok sc__law_cell_at (fun vs H Q E h => ?_) (fun cdv A outer s H vs Q E hr h => ?_)
  · obtain ⟨a, ns, k, rfl, _⟩ := h
    rfl
  · obtain ⟨a, ns, k, rfl, hS, hk, q⟩ := h
    refine ⟨_, (pss_cons (by exact (ps_if (pt_cmpR (op_lt) (pv 1) (by exact (pe_callB call_lenS (by rfl) T.m_len PySem.boot_len (pa_cons (pv 0) pa_nil))) (nomark _)) (pss_one (by exact (ps_ret (pe_ix ix_list (pv 0) (pv 1) (fun _ _ => rfl))))) pss_nil))
        (pss_one (by exact (ps_ret pe_int)))), ?_⟩
    rw [show (start ["script", "k"] [V.ref a, V.int k] : L2.St) = [some (V.ref a), some (V.int k)] from rfl]
    walk_at "rd"
    refine ⟨_, .inl hS, ?_⟩
    walk_at "rd"
    obtain ⟨j, rfl⟩ : ∃ j : Nat, k = (j : Int) := ⟨k.toNat, by omega⟩
    rw [Int.toNat_natCast] at q
    refine ite2 (fun c => ?_) (fun c => ?_)
    · have hi : j < ns.length := by omega
      refine ⟨_, hS, .int (ns.getD j 0), atI_nat ?_, q⟩
      rw [List.getElem?_map, List.getElem?_eq_getElem hi, List.getD_eq_getElem?_getD, List.getElem?_eq_getElem hi]
      rfl
    · have e : ns.getD j 0 = 0 := by
        rw [List.getD_eq_getElem?_getD, List.getElem?_eq_none (by omega)] <;> rfl
      rw [e] at q
      exact q

end
end Sh

namespace Sh
section
variable {P : Program} {w : World} {K : PySem.W.Frag} {mg : Str → Option Value} {base : Heap}
def sp__law_shape (T : Tx K mg) : Sp := fun vs H Q _ => ∃ (a : Addr) (ns : List Int) (t n : Nat), vs = [.ref a, .int t, .int n] ∧ SqL K H a (ns.map V.int) ∧ n ≤ 4000 ∧ ∀ (s : List Int) H' p, s.Perm (rangeI n) → Same H H' → H p = none → H' p = some (.lst (s.map V.int)) → Q (.ref p) H'
theorem ok__law_shape (T : Tx K mg) : FnOk P w K mg base CX0 2 T.f__law_shape T.fd__law_shape ["script", "at", "size"] (sp__law_shape T) := by
  refine T.F__law_shape.ok sc__law_shape (fun vs H Q E h => ?_) (fun cdv A outer s H vs Q E hr h => ?_)
  · obtain ⟨a, ns, t, n, rfl, _⟩ := h
    rfl
  · obtain ⟨a, ns, t, n, rfl, hS, hlen, q⟩ := h
    refine ⟨_, (pss_cons (by exact (ps_set (i := 3) sc__law_shape.nd rfl (Or.inl rfl) (pe_lst pa_nil)))
        (pss_cons (by exact (ps_for PassesOwn.never rfl (pi_range1 rfl T.m_range (pa_cons (pv 2) pa_nil)) (pg_name (i := 4) sc__law_shape.nd rfl (Or.inl rfl))
        (pss_cons (by exact (ps_set (i := 5) sc__law_shape.nd rfl (Or.inl rfl) (by exact (pe_call (ok__law_cell_at T) (hr.mono (by decide)) (by rfl) T.g__law_cell_at T.F__law_cell_at.kp T.b__law_cell_at .nil pass0 (pa_cons (pv 0) (pa_cons (pe_op op_add (pv 1) (pv 4)) pa_nil))))))
        (pss_one (by exact (ps_expr (by exact (pe_bm PySem.F.plainAttrs_list PySem.F.slot_list_insert PySem.F.type_list_insert mt_insert (pv 3) (pa_cons (pe_ix ix_list (pe_lst (pa_cons (pe_op op_mod (pv 5) (pe_op op_add (pv 4) pe_int)) (pa_cons (pv 4) (pa_cons pe_int (pa_cons (pe_op op_mod (pe_op op_mod (pv 5) pe_int) (pe_op op_add (pv 4) pe_int)) pa_nil))))) (pe_op op_mod (pe_op op_fdiv (pv 5) pe_int) pe_int) (fun _ _ => rfl)) (pa_cons (pv 4) pa_nil))))))))))
        (pss_one (by exact (ps_ret (pv 3)))))), ?_⟩
    rw [show (start ["script", "at", "size", "found", "k", "cell"] [V.ref a, V.int t, V.int n] : L2.St) = [some (V.ref a), some (V.int t), some (V.int n), none, none, none] from rfl]
    walk_at "rd"
    refine ⟨lineLe (by decide), fun p np => ⟨by omega, by omega, ?_⟩⟩
    refine forK_range (fun i σ H' => ∃ (s : List Int) (y4 y5 : Option V), σ = [some (V.ref a), some (V.int t), some (V.int n), some (V.ref p), y4, y5] ∧ s.Perm (rangeI i) ∧ Same H H' ∧ H' p = some (.lst (s.map V.int)))
      ⟨[], _, _, rfl, List.Perm.refl _, same_new np, upd_same⟩ (fun i σ H' hi h => ?_) (fun σ H' h => ?_)
    · obtain ⟨s, y4, y5, rfl, pm, s1, hp⟩ := h
      walk_at "rd"
      refine ⟨a, ns, _, rfl, s1.seq hS, by omega, ?_⟩
      walk_at "rd"
      generalize ns.getD ((t : Int) + (i : Int)).toNat 0 = c
      refine ⟨tyL hp, by omega, by omega, lineLe (by simp), fun r nr => ⟨_, sql_self, _, atI_ints (ns := [c % ((i : Int) + 1), (i : Int), 0, c % 3 % ((i : Int) + 1)]) (by omega) (by show c / 37 % 4 < 4; omega), ?_⟩⟩
      obtain ⟨x, hx, hx0, hx1⟩ : ∃ x, [c % ((i : Int) + 1), (i : Int), 0, c % 3 % ((i : Int) + 1)].getD (c / 37 % 4).toNat 0 = x ∧ 0 ≤ x ∧ x ≤ i := by
        refine ⟨_, rfl, ?_⟩
        have h1 : 0 ≤ c % ((i : Int) + 1) ∧ c % ((i : Int) + 1) < (i : Int) + 1 := ⟨Int.emod_nonneg _ (by omega), Int.emod_lt_of_pos _ (by omega)⟩
        have h2 : 0 ≤ c % 3 % ((i : Int) + 1) ∧ c % 3 % ((i : Int) + 1) < (i : Int) + 1 := ⟨Int.emod_nonneg _ (by omega), Int.emod_lt_of_pos _ (by omega)⟩
        have h3 : (c / 37 % 4).toNat = 0 ∨ (c / 37 % 4).toNat = 1 ∨ (c / 37 % 4).toNat = 2 ∨ (c / 37 % 4).toNat = 3 := by omega
        rcases h3 with e | e | e | e <;> rw [e]
        · exact ⟨h1.1, by show c % ((i : Int) + 1) ≤ i; omega⟩
        · exact ⟨by show (0 : Int) ≤ i; omega, Int.le_refl _⟩
        · exact ⟨Int.le_refl _, by show (0 : Int) ≤ i; omega⟩
        · exact ⟨h2.1, by show c % 3 % ((i : Int) + 1) ≤ i; omega⟩
      rw [hx]
      have hpr := same_new (o := .lst ([c % ((i : Int) + 1), (i : Int), 0, c % 3 % ((i : Int) + 1)].map V.int)) nr _ _ hp
      have sl : s.length = i := by rw [pm.length_eq, rangeI_len]
      walk_at "rd"
      refine ⟨_, hpr, lineLt (by simp; omega), hx0, by omega, s.take x.toNat ++ [(i : Int)] ++ s.drop x.toNat, insert_perm pm _, same_mut (s1.trans (same_new nr)) np, ?_⟩
      rw [upd_same]
      simp only [List.map_append, List.map_take, List.map_drop, List.map_cons, List.map_nil]
    · obtain ⟨s, y4, y5, rfl, pm, s1, hp⟩ := h
      walk_at "rd"
      exact q s H' p pm s1 np hp

end
end Sh

namespace Sh
section
variable {P : Program} {w : World} {K : PySem.W.Frag} {mg : Str → Option Value} {base : Heap}
def sp_is_shape (T : Tx K mg) : Sp := fun vs H Q E => ∃ (a : Addr) (ns : List Int), vs = [.ref a] ∧ SqL K H a (ns.map V.int) ∧ ns.length ≤ 4000 ∧ ∀ H', Same H H' → Q (.bl (decide (shapeOk ns))) H'
theorem ok_is_shape (T : Tx K mg) : FnOk P w K mg base CX0 1 T.f_is_shape T.fd_is_shape ["some"] (sp_is_shape T) := by
  refine T.F_is_shape.ok sc_is_shape (fun vs H Q E h => ?_) (fun cdv A outer s H vs Q E hr h => ?_)
  · obtain ⟨a, ns, rfl, _⟩ := h
    rfl
  · obtain ⟨a, ns, rfl, hS, hl, q⟩ := h
    refine ⟨_, (pss_one (by exact (ps_ret (pe_and (pe_cmpR (op_le) (by exact (pe_callB call_lenS (by rfl) T.m_len PySem.boot_len (pa_cons (pv 0) pa_nil))) (pe_glob (v := .int 30) rfl T.g_MOST ⟨_, rfl⟩) (nomark _)) (pe_one (pe_cmpR (op_eqD hr.units) (by exact (pe_callB cr_sortedI (by rfl) T.m_sorted (by decide +kernel) (pa_cons (pv 0) pa_nil))) (by exact (pe_listRg rfl (by rfl) T.m_list (prg_1 (by rfl) T.m_range (by exact (pe_callB call_lenS (by rfl) T.m_len PySem.boot_len (pa_cons (pv 0) pa_nil)))))) (nomark _))))))), ?_⟩
    rw [show (start ["some"] [V.ref a] : L2.St) = [some (V.ref a)] from rfl]
    walk_at "rd"
    refine ⟨_, .inl hS, ?_⟩
    walk_at "rd"
    refine ite2 (fun c => ⟨ns, hS, fun ns' p perm ri np => ⟨_, .inl (sql_new np hS), ?_⟩⟩) (fun c => ?_)
    · walk_at "rd"
      refine ⟨⟨by decide, by decide, by omega, by omega, by omega⟩, fun r nr => ?_⟩
      refine rEq_ints (ns := ns') (ms := rangeI ns.length) (sql_new nr sql_self) (by rw [rgV_range]; exact sql_self) ?_
      have e : decide (ns' = rangeI ns.length) = decide (shapeOk ns) := by
        refine decide_eq_decide.mpr ((shape_sorted perm ri).trans ⟨fun z => ⟨by omega, z⟩, fun z => z.2⟩)
      rw [e]
      exact q _ ((same_new np).trans (same_new nr))
    · have e : decide (shapeOk ns) = false := decide_eq_false fun z => by have := z.1; omega
      have := q H (Same.refl H)
      rw [e] at this
      exact this

end
end Sh

namespace Sh
section
variable {P : Program} {w : World} {K : PySem.W.Frag} {mg : Str → Option Value} {base : Heap}
def sp_ask_shape (T : Tx K mg) : Sp := fun vs H Q E => ∃ (a : Addr) (ns : List Int), vs = [.ref a] ∧ SqL K H a (ns.map V.int) ∧ ns.length ≤ 4000 ∧ (shapeOk ns → ∀ H', Same H H' → Q .non H') ∧ (¬ shapeOk ns → ∀ H', Same H H' → E (.ref T.C_NoShape) none H')
theorem ok_ask_shape (T : Tx K mg) : FnOk P w K mg base (L2.CX P w) 2 T.f_ask_shape T.fd_ask_shape ["shape"] (sp_ask_shape T) := by
  refine T.F_ask_shape.okX sc_ask_shape (fun vs H Q E h => ?_) (fun cdv A outer s H vs Q E hr h => ?_)
  · obtain ⟨a, ns, rfl, _⟩ := h
    rfl
  · obtain ⟨a, ns, rfl, hS, hl, q1, q2⟩ := h
    refine ⟨_, (pss_one (by exact (ps_if (pt_not (pt_val (by exact (pe_call (ok_is_shape T) (hr.mono (by decide)) (by rfl) T.g_is_shape T.F_is_shape.kp T.b_is_shape .nil pass0 (pa_cons (pv 0) pa_nil))))) (pss_one (by exact (ps_raise rfl (takes_of rfl rfl rfl rfl) (pmk_own PySem.F.excBase_ValueError T.x_NoShape T.gC_NoShape T.kC_NoShape (raises_own T.bC_NoShape T.tC_NoShape) (by exact rfl))))) pss_nil))), ?_⟩
    rw [show (start ["shape"] [V.ref a] : L2.St) = [some (V.ref a)] from rfl]
    walk_at "rd"
    refine ⟨a, ns, rfl, hS, hl, fun H' s => ⟨_, rfl, ite2 (fun c => ?_) (fun c => ?_)⟩⟩
    · exact q2 (of_decide_eq_false c) H' s
    · exact q1 (of_decide_eq_true (by simpa using c)) H' s

end
end Sh

namespace Sh
section
variable {P : Program} {w : World} {K : PySem.W.Frag} {mg : Str → Option Value} {base : Heap}
def sp_parted (T : Tx K mg) : Sp := fun vs H Q E => ∃ (a : Addr) (ns : List Int) (x : Int), vs = [.ref a, .int x] ∧ SqL K H a (ns.map V.int) ∧ 0 < ns.length ∧ ns.length ≤ 4000 ∧ ∀ H' p qs, Same H H' → H p = none → H' p = some (.lst (qs.map V.ref)) → Own2 H H' qs (partedL ns x) → p ∉ qs → Q (.ref p) H'
theorem ok_parted (T : Tx K mg) : FnOk P w K mg base CX0 1 T.f_parted T.fd_parted ["row", "number"] (sp_parted T) := by
  refine T.F_parted.ok sc_parted (fun vs H Q E h => ?_) (fun cdv A outer s H vs Q E hr h => ?_)
  · obtain ⟨a, ns, x, rfl, _⟩ := h
    rfl
  · obtain ⟨a, ns, x, rfl, hS, h0, hl, q⟩ := h
    refine ⟨_, (pss_cons (by exact (ps_set (i := 2) sc_parted.nd rfl (Or.inl rfl) (pe_cmpR (op_lt) (pe_ix ix_list (pv 0) (pe_un un_neg pe_int) (fun _ _ => rfl)) (pv 1) (nomark _))))
        (pss_cons (by exact (ps_set (i := 3) sc_parted.nd rfl (Or.inl rfl) (pe_lst pa_nil)))
        (pss_cons (by exact (ps_set (i := 4) sc_parted.nd rfl (Or.inl rfl) (pe_lst pa_nil)))
        (pss_cons (by exact (ps_for PassesOwn.never rfl (pi_list (pv 0)) (pg_name (i := 5) sc_parted.nd rfl (Or.inl rfl))
        (pss_cons (by exact (ps_expr (by exact (pe_bm PySem.F.plainAttrs_list PySem.F.slot_list_append PySem.F.type_list_append mt_append (pv 4) (pa_cons (pv 5) pa_nil)))))
        (pss_one (by exact (ps_if (pt_cmpR (op_eq) (pe_cmpR (op_lt) (pv 5) (pv 1) (nomark _)) (pv 2) (nomark _)) (pss_cons (by exact (ps_expr (by exact (pe_bm PySem.F.plainAttrs_list PySem.F.slot_list_append PySem.F.type_list_append mt_append (pv 3) (pa_cons (pv 4) pa_nil)))))
        (pss_one (by exact (ps_set (i := 4) sc_parted.nd rfl (Or.inl rfl) (pe_lst pa_nil))))) pss_nil))))))
        (pss_one (by exact (ps_ret (pv 3)))))))), ?_⟩
    rw [show (start ["row", "number", "less", "found", "part", "one"] [V.ref a, V.int x] : L2.St) = [some (V.ref a), some (V.int x), none, none, none, none] from rfl]
    walk_at "rd"
    have hlast : atI (ns.map V.int) (-1) = some (.int (ns.getLastD 0)) := by
      obtain ⟨r, z, rfl⟩ : ∃ r z, ns = r ++ [z] := ⟨ns.dropLast, ns.getLast (by intro e; simp [e] at h0), (List.dropLast_concat_getLast _).symm⟩
      rw [List.map_append]
      simp only [List.map_cons, List.map_nil, List.getLastD_concat]
      exact atI_last _ _
    refine ⟨_, hS, _, hlast, ?_⟩
    walk_at "rd"
    refine ⟨lineLe (by simp), fun f nf => ⟨lineLe (by simp), fun pt npt => ⟨⟨_, sql_new npt (sql_new nf hS)⟩, ?_⟩⟩⟩
    have npt0 : H pt = none := (same_new nf).free npt
    have nfp : f ≠ pt := ne_of_none (upd_same (H := H) (a := f) (o := .lst [])) npt
    refine forK_map ns V.int (fun i σ H' => ∃ (pt : Addr) (y5 : Option V) (qs : List Addr), σ = [some (V.ref a), some (V.int x), some (V.bl (decide (ns.getLastD 0 < x))), some (V.ref f), some (V.ref pt), y5] ∧ Same H H' ∧ H' f = some (.lst (qs.map V.ref)) ∧
        H' pt = some (.lst ((pfold (sideOf ns x) (ns.take i)).2.map V.int)) ∧ Own2 H H' qs (pfold (sideOf ns x) (ns.take i)).1 ∧ f ∉ qs ∧ pt ∉ qs ∧ f ≠ pt ∧ H pt = none)
      ⟨pt, none, [], rfl, (same_new nf).trans (same_new npt), by rw [upd_ne nfp, upd_same]; rfl, upd_same, ⟨.nil, by simp, by simp⟩, by simp, by simp, nfp, npt0⟩ (fun i σ H' _ h => ?_) (fun i y σ H' hy h => ?_) (fun σ H' h => ?_)
    · obtain ⟨pt, y5, qs, rfl, s1, _⟩ := h
      exact s1.seq hS
    · obtain ⟨pt, y5, qs, rfl, s1, hf, hpt, ow, fq, pq, fp, np0⟩ := h
      walk_at "rd"
      have hi : i < ns.length := (List.getElem?_eq_some_iff.mp hy).1
      have l1 := pfold_cur_len (sideOf ns x) (ns.take i)
      have l2 := pfold_count (sideOf ns x) (ns.take i)
      rw [List.length_take] at l1 l2
      have ql := paired_len ow.at_
      have hfm : ∀ o, (upd H' pt o) f = some (.lst (qs.map V.ref)) := fun o => by rw [upd_ne fp]; exact hf
      rw [take_more hy, pfold_snoc]
      refine ⟨tyL hpt, _, hpt, lineLt (by simp; omega), rfl, ?_⟩
      refine ite2 (fun c => ?_) (fun c => ?_)
      · refine ⟨tyL (hfm _), _, hfm _, lineLt (by simp; omega), lineLe (by simp), fun p np => ?_⟩
        have hcur : (upd H' pt (.lst ((pfold (sideOf ns x) (ns.take i)).2.map V.int ++ [V.int y]))) pt = some (.lst (((pfold (sideOf ns x) (ns.take i)).2 ++ [y]).map V.int)) := by rw [upd_same]; simp
        have es : pstep (sideOf ns x) (pfold (sideOf ns x) (ns.take i)) y = ((pfold (sideOf ns x) (ns.take i)).1 ++ [(pfold (sideOf ns x) (ns.take i)).2 ++ [y]], []) := by
          unfold pstep; rw [if_pos]; simpa [sideOf] using c
        have npf : f ≠ p := ne_of_none upd_same np
        have s2 : Same H (upd (upd H' pt (.lst ((pfold (sideOf ns x) (ns.take i)).2.map V.int ++ [V.int y]))) f (.lst (qs.map V.ref ++ [V.ref pt]))) := same_mut (same_mut s1 np0) nf
        have ow2 := ((ow.mut (o := .lst ((pfold (sideOf ns x) (ns.take i)).2.map V.int ++ [V.int y])) pq).snoc pq np0 hcur)
        have fq2 : f ∉ qs ++ [pt] := by simp [fq, fp]
        have ow3 := ow2.mut (o := .lst (qs.map V.ref ++ [V.ref pt])) fq2
        rw [es]
        refine ⟨s2.trans (same_new np), qs ++ [pt], ?_, upd_same, ow3.same (same_new np), fq2, ow3.there np, npf, s2.free np⟩
        rw [upd_ne npf, upd_same]
        simp
      · have es : pstep (sideOf ns x) (pfold (sideOf ns x) (ns.take i)) y = ((pfold (sideOf ns x) (ns.take i)).1, (pfold (sideOf ns x) (ns.take i)).2 ++ [y]) := by
          unfold pstep; rw [if_neg]; simpa [sideOf] using c
        rw [es]
        refine ⟨same_mut s1 np0, qs, hfm _, ?_, ow.mut pq, fq, pq, fp, np0⟩
        rw [upd_same]
        simp
    · obtain ⟨pt, y5, qs, rfl, s1, hf, hpt, ow, fq, pq, fp, np0⟩ := h
      walk_at "rd"
      rw [List.take_length] at ow
      exact q H' f qs s1 nf hf ow fq

end
end Sh

namespace Sh
section
variable {P : Program} {w : World} {K : PySem.W.Frag} {mg : Str → Option Value} {base : Heap}
def sp_exchanged (T : Tx K mg) : Sp := fun vs H Q E => ∃ (a : Addr) (ns : List Int), vs = [.ref a] ∧ SqL K H a (ns.map V.int) ∧ ns.length ≤ 4000 ∧ (shapeOk ns → ∀ H' p, Same H H' → H p = none → H' p = some (.lst ((exL ns).map V.int)) → Q (.ref p) H') ∧ (¬ shapeOk ns → ∀ H', Same H H' → E (.ref T.C_NoShape) none H')
theorem ok_exchanged (T : Tx K mg) : FnOk P w K mg base (L2.CX P w) 3 T.f_exchanged T.fd_exchanged ["shape"] (sp_exchanged T) := by
  refine T.F_exchanged.okX sc_exchanged (fun vs H Q E h => ?_) (fun cdv A outer s H vs Q E hr h => ?_)
  · obtain ⟨a, ns, rfl, _⟩ := h
    rfl
  · obtain ⟨a, ns, rfl, hS, hl, q1, q2⟩ := h
    refine ⟨_, (pss_cons (by exact (ps_expr (by exact (pe_call (ok_ask_shape T) (hr.mono (by decide)) (by rfl) T.g_ask_shape T.F_ask_shape.kp T.b_ask_shape .nil (passes_call (takes_of rfl rfl rfl rfl) (fun _ _ _ _ h => h)) (pa_cons (pv 0) pa_nil)))))
        (pss_cons (by exact (ps_set (i := 1) sc_exchanged.nd rfl (Or.inl rfl) (pe_lst pa_nil)))
        (pss_cons (by exact (ps_for (passes_of rfl) rfl (pi_list (pv 0)) (pg_name (i := 2) sc_exchanged.nd rfl (Or.inl rfl))
        (pss_cons (by exact (ps_if (pt_cmpR (op_gt) (by exact (pe_callB call_lenS (by rfl) T.m_len PySem.boot_len (pa_cons (pv 1) pa_nil))) pe_int (nomark _)) (pss_cons (by exact (ps_set (i := 3) sc_exchanged.nd rfl (Or.inl rfl) (by exact (pe_call (ok_parted T) (hr.mono (by decide)) (by rfl) T.g_parted T.F_parted.kp T.b_parted .nil pass0 (pa_cons (pv 1) (pa_cons (pv 2) pa_nil))))))
        (pss_cons (by exact (ps_set (i := 1) sc_exchanged.nd rfl (Or.inl rfl) (pe_lst pa_nil)))
        (pss_one (by exact (ps_for (passes_of rfl) rfl (pi_list (pv 3)) (pg_name (i := 4) sc_exchanged.nd rfl (Or.inl rfl))
        (pss_one (by exact (ps_set (i := 1) sc_exchanged.nd rfl (Or.inl rfl) (pe_op op_cat (pe_op op_cat (pv 1) (pe_slice sl_list (pv 4) (po_some (pe_un un_neg pe_int)) po_none)) (pe_slice sl_list (pv 4) po_none (po_some (pe_un un_neg pe_int)))))))))))) pss_nil))
        (pss_one (by exact (ps_set (i := 1) sc_exchanged.nd rfl (Or.inl rfl) (pe_op op_cat (pv 1) (pe_lst (pa_cons (pv 2) pa_nil)))))))))
        (pss_one (by exact (ps_ret (pv 1))))))), ?_⟩
    rw [show (start ["shape", "row", "number", "parts", "part"] [V.ref a] : L2.St) = [some (V.ref a), none, none, none, none] from rfl]
    walk_at "rd"
    refine ⟨a, ns, rfl, hS, hl, fun ok H1 s1 => ?_, q2⟩
    walk_at "rd"
    refine ⟨lineLe (by simp), fun r0 nr0 => ⟨⟨_, sql_new nr0 (s1.seq hS)⟩, ?_⟩⟩
    refine forK_map ns V.int (fun i σ H' => ∃ (r : Addr) (y2 y3 y4 : Option V), σ = [some (V.ref a), some (V.ref r), y2, y3, y4] ∧ Same H H' ∧ H r = none ∧ H' r = some (.lst ((exL (ns.take i)).map V.int)))
      ⟨r0, none, none, none, rfl, s1.trans (same_new nr0), s1.free nr0, upd_same⟩ (fun i σ H' _ h => ?_) (fun i y σ H' hy h => ?_) (fun σ H' h => ?_)
    · obtain ⟨r, y2, y3, y4, rfl, s2, _⟩ := h
      exact s2.seq hS
    · obtain ⟨r, y2, y3, y4, rfl, s2, nr, hr⟩ := h
      have hi : i < ns.length := (List.getElem?_eq_some_iff.mp hy).1
      have el := exL_len (ns.take i)
      rw [List.length_take] at el
      walk_at "rd"
      refine ⟨_, .inl (SqL.of hr), ?_⟩
      walk_at "rd"
      rw [take_more hy, exL_snoc]
      have ex := exRow_len (exL (ns.take i)) y
      refine ite2 (fun c => ?_) (fun c => ?_)
      · refine ⟨r, _, y, rfl, SqL.of hr, by omega, by omega, fun H2 pp qs s3 npp hpp ow pq => ⟨lineLe (by simp), fun r2 nr2 => ?_⟩⟩
        walk_at "rd"
        have hpp2 := same_new (o := .lst []) nr2 _ _ hpp
        have ow2 := ow.same (same_new (o := .lst []) nr2)
        have s4 := (s2.trans s3).trans (same_new (o := .lst []) nr2)
        have nr2' : H r2 = none := (s2.trans s3).free nr2
        have fl := parted_flat_len (exL (ns.take i)) y
        refine ⟨⟨_, SqL.of hpp2⟩, ?_⟩
        have hr2 : (upd H2 r2 (.lst [])) r2 = some (.lst []) := upd_same
        generalize upd H2 r2 (.lst []) = H3 at hpp2 ow2 s4 hr2 ⊢
        refine forK_map qs V.ref (fun k σ H' => ∃ (r : Addr) (y4 : Option V), σ = [some (V.ref a), some (V.ref r), some (V.int y), some (V.ref pp), y4] ∧ Same H3 H' ∧ H r = none ∧ H' r = some (.lst (((((partedL (exL (ns.take i)) y).take k).map rotR).flatten).map V.int)))
          ⟨r2, y4, rfl, Same.refl _, nr2', hr2⟩ (fun k σ H' _ h => ?_) (fun k qk σ H' hk h => ?_) (fun σ H' h => ?_)
        · obtain ⟨r, y4, rfl, s5, _⟩ := h
          exact SqL.of (s5 _ _ hpp2)
        · obtain ⟨r, y4, rfl, s5, nr5, hr5⟩ := h
          obtain ⟨xs, hxs, hqk⟩ := paired_get ow2.at_ hk
          have hqk5 := s5 _ _ hqk
          have hmem := List.mem_of_getElem? hxs
          have hxl := flatten_len_le xs _ hmem
          have hfl5 : (((partedL (exL (ns.take i)) y).take k).map rotR).flatten.length ≤ 4000 := by
            rw [flat_map_len _ rotR_len]
            have e := congrArg List.length (congrArg List.flatten (List.take_append_drop k (partedL (exL (ns.take i)) y)))
            rw [List.flatten_append, List.length_append] at e
            omega
          walk_at "rd"
          refine ⟨_, SqL.of hqk5, fun p1 np1 => ?_⟩
          rw [cut_last]
          have s6 := s5.trans (same_new (o := .lst ((xs.map V.int).drop ((xs.map V.int).length - 1))) np1)
          have e1 := same_new (o := .lst ((xs.map V.int).drop ((xs.map V.int).length - 1))) np1 _ _ hr5
          have e2 := same_new (o := .lst ((xs.map V.int).drop ((xs.map V.int).length - 1))) np1 _ _ hqk5
          have e3 : (upd H' p1 (.lst ((xs.map V.int).drop ((xs.map V.int).length - 1)))) p1 = _ := upd_same
          generalize upd H' p1 (.lst ((xs.map V.int).drop ((xs.map V.int).length - 1))) = H6 at s6 e1 e2 e3 ⊢
          refine ⟨_, e1, _, e3, lineLe (by simp only [List.length_append, List.length_map, List.length_drop, List.length_take]; omega), fun p2 np2 => ⟨_, SqL.of (same_new np2 _ _ e2), fun p3 np3 => ?_⟩⟩
          rw [cut_init]
          have e4 := same_new (o := .lst ((xs.map V.int).take ((xs.map V.int).length - 1))) np3 _ _ (upd_same (H := H6) (a := p2) (o := .lst ((((partedL (exL (ns.take i)) y).take k).map rotR).flatten.map V.int ++ (xs.map V.int).drop ((xs.map V.int).length - 1))))
          refine ⟨_, e4, _, upd_same, lineLe (by simp only [List.length_append, List.length_map, List.length_drop, List.length_take]; omega), fun p4 np4 => ?_⟩
          have s7 := ((s6.trans (same_new np2)).trans (same_new np3)).trans (same_new (o := .lst ((((partedL (exL (ns.take i)) y).take k).map rotR).flatten.map V.int ++ (xs.map V.int).drop ((xs.map V.int).length - 1) ++ (xs.map V.int).take ((xs.map V.int).length - 1))) np4)
          refine ⟨s7, (s4.trans ((s6.trans (same_new np2)).trans (same_new np3))).free np4, ?_⟩
          rw [upd_same, take_more hxs, List.map_append, List.flatten_append]
          simp [rotR, List.append_assoc]
        · obtain ⟨r, y4, rfl, s5, nr5, hr5⟩ := h
          have ql := paired_len ow2.at_
          rw [ql, List.take_length] at hr5
          have ee : ((partedL (exL (ns.take i)) y).map rotR).flatten = exRow (exL (ns.take i)) y := by unfold exRow; rw [if_pos (by omega)]
          rw [ee] at hr5
          walk_at "rd"
          refine ⟨lineLe (by simp), fun p1 np1 => ⟨_, same_new np1 _ _ hr5, _, upd_same, lineLe (by simp; omega), fun p2 np2 => ?_⟩⟩
          refine ⟨(s4.trans s5).trans ((same_new np1).trans (same_new np2)), ((s4.trans s5).trans (same_new np1)).free np2, ?_⟩
          rw [upd_same, exStep]
          simp
      · have ee : exRow (exL (ns.take i)) y = [] := by unfold exRow; rw [if_neg (by omega)]
        have e0 : exL (ns.take i) = [] := List.length_eq_zero_iff.mp (by omega)
        refine ⟨lineLe (by simp), fun p1 np1 => ⟨_, same_new np1 _ _ hr, _, upd_same, lineLe (by simp; omega), fun p2 np2 => ?_⟩⟩
        refine ⟨s2.trans ((same_new np1).trans (same_new np2)), (s2.trans (same_new np1)).free np2, ?_⟩
        rw [upd_same, exStep, ee, e0]
        simp
    · obtain ⟨r, y2, y3, y4, rfl, s2, nr, hr⟩ := h
      walk_at "rd"
      rw [List.take_length] at hr
      exact q1 ok H' r s2 nr hr

end
end Sh

namespace Sh
section
variable {P : Program} {w : World} {K : PySem.W.Frag} {mg : Str → Option Value} {base : Heap}
def sp_exchanged_back (T : Tx K mg) : Sp := fun vs H Q E => ∃ (a : Addr) (ns : List Int), vs = [.ref a] ∧ SqL K H a (ns.map V.int) ∧ ns.length ≤ 4000 ∧ (shapeOk ns → ∀ H' p, Same H H' → H p = none → H' p = some (.lst ((exB ns).map V.int)) → Q (.ref p) H') ∧ (¬ shapeOk ns → ∀ H', Same H H' → E (.ref T.C_NoShape) none H')
theorem ok_exchanged_back (T : Tx K mg) : FnOk P w K mg base (L2.CX P w) 3 T.f_exchanged_back T.fd_exchanged_back ["shape"] (sp_exchanged_back T) := by
  refine T.F_exchanged_back.okX sc_exchanged_back (fun vs H Q E h => ?_) (fun cdv A outer s H vs Q E hr h => ?_)
  · obtain ⟨a, ns, rfl, _⟩ := h
    rfl
  · obtain ⟨a, ns, rfl, hS, hl, q1, q2⟩ := h
    refine ⟨_, (pss_cons (by exact (ps_expr (by exact (pe_call (ok_ask_shape T) (hr.mono (by decide)) (by rfl) T.g_ask_shape T.F_ask_shape.kp T.b_ask_shape .nil (passes_call (takes_of rfl rfl rfl rfl) (fun _ _ _ _ h => h)) (pa_cons (pv 0) pa_nil)))))
        (pss_cons (by exact (ps_set (i := 1) sc_exchanged_back.nd rfl (Or.inl rfl) (by exact (pe_callTy call_listS (by rfl) T.m_list (by decide +kernel) (pa_cons (pv 0) pa_nil)))))
        (pss_cons (by exact (ps_set (i := 2) sc_exchanged_back.nd rfl (Or.inl rfl) (pe_lst pa_nil)))
        (pss_cons (by exact (ps_while (passes_of rfl) (pt_cmpR (op_gt) (by exact (pe_callB call_lenS (by rfl) T.m_len PySem.boot_len (pa_cons (pv 1) pa_nil))) pe_int (nomark _))
        (pss_cons (by exact (ps_set (i := 3) sc_exchanged_back.nd rfl (Or.inl rfl) (by exact (pe_bm0 PySem.F.plainAttrs_list PySem.F.slot_list_pop PySem.F.type_list_pop mt_pop (pv 1)))))
        (pss_cons (by exact (ps_expr (by exact (pe_bm PySem.F.plainAttrs_list PySem.F.slot_list_append PySem.F.type_list_append mt_append (pv 2) (pa_cons (pv 3) pa_nil)))))
        (pss_one (by exact (ps_if (pt_cmpR (op_gt) (by exact (pe_callB call_lenS (by rfl) T.m_len PySem.boot_len (pa_cons (pv 1) pa_nil))) pe_int (nomark _)) (pss_cons (by exact (ps_set (i := 4) sc_exchanged_back.nd rfl (Or.inl rfl) (by exact (pe_call (ok_parted T) (hr.mono (by decide)) (by rfl) T.g_parted T.F_parted.kp T.b_parted .nil pass0 (pa_cons (by exact (pe_listRev rfl (by rfl) T.m_list (by rfl) T.m_reversed (pv 1))) (pa_cons (pv 3) pa_nil))))))
        (pss_cons (by exact (ps_set (i := 1) sc_exchanged_back.nd rfl (Or.inl rfl) (pe_lst pa_nil)))
        (pss_one (by exact (ps_for (passes_of rfl) rfl (pi_reversed (by rfl) T.m_reversed (pa_cons (pv 4) pa_nil)) (pg_name (i := 5) sc_exchanged_back.nd rfl (Or.inl rfl))
        (pss_cons (by exact (ps_expr (by exact (pe_bm0 PySem.F.plainAttrs_list PySem.F.slot_list_reverse PySem.F.type_list_reverse mt_reverse (pv 5)))))
        (pss_one (by exact (ps_set (i := 1) sc_exchanged_back.nd rfl (Or.inl rfl) (pe_op op_cat (pe_op op_cat (pv 1) (pe_slice sl_list (pv 5) (po_some pe_int) po_none)) (pe_slice sl_list (pv 5) po_none (po_some pe_int)))))))))))) pss_nil)))))))
        (pss_cons (by exact (ps_expr (by exact (pe_bm0 PySem.F.plainAttrs_list PySem.F.slot_list_reverse PySem.F.type_list_reverse mt_reverse (pv 2)))))
        (pss_one (by exact (ps_ret (pv 2))))))))), ?_⟩
    rw [show (start ["shape", "row", "found", "number", "parts", "part"] [V.ref a] : L2.St) = [some (V.ref a), none, none, none, none, none] from rfl]
    walk_at "rd"
    refine ⟨a, ns, rfl, hS, hl, fun ok H1 s1 => ?_, q2⟩
    walk_at "rd"
    refine ⟨_, .inl (s1.seq hS), fun r0 nr0 => ⟨lineLe (by simp), fun f nf => ?_⟩⟩
    have nr0' : H r0 = none := s1.free nr0
    have nf' : H f = none := (s1.trans (same_new nr0)).free nf
    have hr0f : r0 ≠ f := ne_of_none upd_same nf
    refine ⟨fun m σ H' => ∃ (r : Addr) (row fo : List Int) (y3 y4 y5 : Option V), σ = [some (V.ref a), some (V.ref r), some (V.ref f), y3, y4, y5] ∧ m = row.length ∧ row.length + fo.length = ns.length ∧ exB ns = exB row ++ fo.reverse ∧ Same H H' ∧ H r = none ∧ r ≠ f ∧ H' r = some (.lst (row.map V.int)) ∧ H' f = some (.lst (fo.map V.int)),
      ⟨_, r0, ns, [], _, _, _, rfl, rfl, by simp, by simp, (s1.trans (same_new nr0)).trans (same_new nf), nr0', hr0f, by rw [upd_ne hr0f, upd_same], upd_same⟩, fun m σ H' hW => ?_⟩
    obtain ⟨r, row, fo, y3, y4, y5, rfl, rfl, hlen, hex, s2, nr, hrf, hr, hf⟩ := hW
    walk_at "rd"
    refine ⟨_, .inl (SqL.of hr), ?_⟩
    walk_at "rd"
    refine ite2 (fun c => ?_) (fun c => ?_)
    · obtain ⟨ini, x, rfl⟩ : ∃ r z, row = r ++ [z] := ⟨row.dropLast, row.getLast (by intro e; simp [e] at c), (List.dropLast_concat_getLast _).symm⟩
      rw [List.length_append, List.length_singleton] at hlen
      refine ⟨fun σ' H' => ∃ (r : Addr) (y3 y4 y5 : Option V), σ' = [some (V.ref a), some (V.ref r), some (V.ref f), y3, y4, y5] ∧ Same H H' ∧ H r = none ∧ r ≠ f ∧ H' r = some (.lst ((bkRow ini x).map V.int)) ∧ H' f = some (.lst ((fo ++ [x]).map V.int)), fun σ' H' h => ?_, ?_⟩
      · obtain ⟨r, y3, y4, y5, rfl, s3, nr3, hrf3, hr3, hf3⟩ := h
        refine ⟨_, ?_, r, ⟨_, _, _, rfl⟩, bkRow ini x, rfl, fo ++ [x], by rw [bkRow_len]; simp; omega, by rw [hex, exB_snoc]; simp, s3, nr3, hrf3, hr3, hf3⟩
        rw [bkRow_len]; simp
      · have hdl : ((ini ++ [x]).map V.int).dropLast = ini.map V.int := by rw [List.map_append]; exact List.dropLast_concat
        refine ⟨tyL hr, _, hr, V.int x, by simp, ?_⟩
        rw [hdl]
        have hf2 : (upd H' r (.lst (ini.map V.int))) f = some (.lst (fo.map V.int)) := by rw [upd_ne (Ne.symm hrf)]; exact hf
        refine ⟨tyL hf2, _, hf2, lineLt (by simp; omega), ?_⟩
        have hr4 : (upd (upd H' r (.lst (ini.map V.int))) f (.lst (fo.map V.int ++ [V.int x]))) r = some (.lst (ini.map V.int)) := by rw [upd_ne hrf, upd_same]
        have hf4 : (upd (upd H' r (.lst (ini.map V.int))) f (.lst (fo.map V.int ++ [V.int x]))) f = some (.lst ((fo ++ [x]).map V.int)) := by rw [upd_same]; simp
        have s4 : Same H (upd (upd H' r (.lst (ini.map V.int))) f (.lst (fo.map V.int ++ [V.int x]))) := same_mut (same_mut s2 nr) nf'
        generalize (upd (upd H' r (.lst (ini.map V.int))) f (.lst (fo.map V.int ++ [V.int x]))) = H4 at hr4 hf4 s4 ⊢
        refine ⟨_, .inl (SqL.of hr4), ?_⟩
        walk_at "rd"
        refine ite2 (fun c => ?_) (fun c => ?_)
        · refine ⟨_, SqL.of hr4, fun t nt => ?_⟩
          have hf5 := same_new (o := .lst (ini.map V.int).reverse) nt _ _ hf4
          have s5 := s4.trans (same_new (o := .lst (ini.map V.int).reverse) nt)
          have ht5 : (upd H4 t (.lst (ini.map V.int).reverse)) t = some (.lst (ini.reverse.map V.int)) := by rw [upd_same, List.map_reverse]
          generalize upd H4 t (.lst (ini.map V.int).reverse) = H5 at hf5 s5 ht5 ⊢
          refine ⟨t, ini.reverse, x, rfl, SqL.of ht5, by simp; omega, by simp; omega, fun H6 pp qs s6 npp hpp ow pq => ⟨lineLe (by simp), fun r6 nr6 => ?_⟩⟩
          have hpp7 := same_new (o := .lst []) nr6 _ _ hpp
          have ow7 := ow.same (same_new (o := .lst []) nr6)
          have hf7 := same_new (o := .lst []) nr6 _ _ (s6 _ _ hf5)
          have s7 := (s5.trans s6).trans (same_new (o := .lst []) nr6)
          have nr7 : H r6 = none := (s5.trans s6).free nr6
          have hr7 : (upd H6 r6 (.lst [])) r6 = some (.lst []) := upd_same
          have hrf7 : r6 ≠ f := (ne_of_none (s6 _ _ hf5) nr6).symm
          have hppr : pp ≠ r6 := ne_of_none hpp nr6
          have hrq : r6 ∉ qs := ow.there nr6
          have hex7 : ∀ z ∈ qs, (upd H6 r6 (.lst [])) z ≠ none := fun z hz => by
            obtain ⟨y, e⟩ := paired_at ow7.at_ hz
            rw [e]; exact fun w => nomatch w
          have hfq : f ∉ qs := fun z => by have := ow.new f z; rw [hf5] at this; cases this
          have npp0 : H pp = none := s5.free npp
          have ql := paired_len ow.at_
          have hnew : ∀ q ∈ qs, H q = none := fun q hq => s5.free (ow.new q hq)
          have fl := parted_flat_len ini.reverse x
          rw [List.length_reverse] at fl
          have hbk : bkRow ini x = ((partedL ini.reverse x).reverse.map fun p => rotL p.reverse).flatten := by unfold bkRow; rw [if_pos (by omega)]
          generalize upd H6 r6 (.lst []) = H7 at hpp7 ow7 hf7 s7 hr7 hex7 ⊢
          refine ⟨pp, rfl, _, SqL.of hpp7, ?_⟩
          rw [hbk]
          generalize partedL ini.reverse x = ps at ow7 ql fl ⊢
          refine forK_rev qs V.ref (by simp) (fun k σ H' => ∃ (r : Addr) (y5 : Option V), σ = [some (V.ref a), some (V.ref r), some (V.ref f), some (V.int x), some (V.ref pp), y5] ∧ Same H H' ∧ H r = none ∧ r ≠ f ∧ r ≠ pp ∧ r ∉ qs ∧ (∀ z ∈ qs, H' z ≠ none) ∧ H' pp = some (.lst (qs.map V.ref)) ∧ H' f = some (.lst ((fo ++ [x]).map V.int)) ∧
              Own2 H5 H' (qs.take (qs.length - k)) (ps.take (qs.length - k)) ∧ H' r = some (.lst ((((ps.reverse.take k).map fun p => rotL p.reverse).flatten).map V.int)))
            ⟨r6, y5, rfl, s7, nr7, hrf7, hppr.symm, hrq, hex7, hpp7, hf7, by rw [Nat.sub_zero, List.take_length, ql, List.take_length]; exact ow7, by simpa using hr7⟩ (fun k σ H' _ h => ?_) (fun k q σ H' hk hq h => ?_) (fun σ H' h => ?_)
          · obtain ⟨r, y5, rfl, _, _, _, _, _, _, hpp8, _⟩ := h
            exact SqL.of hpp8
          · obtain ⟨r, y5, rfl, s8, nr8, hrf8, hrp8, hrq8, hex8, hpp8, hf8, ow8, hr8⟩ := h
            walk_at "rd"
            obtain ⟨p, hp⟩ : ∃ p, ps[qs.length - 1 - k]? = some p := ⟨_, List.getElem?_eq_getElem (by omega)⟩
            have e1 : qs.length - k = (qs.length - 1 - k) + 1 := by omega
            rw [e1, take_more hq, take_more hp] at ow8
            obtain ⟨ow9, hq9, nq9, _⟩ := ow8.split (by rw [List.length_take, List.length_take, ql])
            have hqm : q ∈ qs := List.mem_of_getElem? hq
            have hqf : q ≠ f := fun z => hfq (z ▸ hqm)
            have hqr : q ≠ r := fun z => hrq8 (z ▸ hqm)
            have hqp : q ≠ pp := fun z => pq (z ▸ hqm)
            have hfl8 : (((ps.reverse.take k).map fun p => rotL p.reverse).flatten).length + p.length ≤ 4000 := by
              rw [flat_map_len (fun p => rotL p.reverse) (fun p => by rw [rotL_len, List.length_reverse])]
              have hp' : ps.reverse[k]? = some p := by rw [rev_at (by omega), ← ql]; exact hp
              have e2 := congrArg List.length (congrArg List.flatten (List.take_append_drop (k + 1) ps.reverse))
              rw [take_more hp', List.flatten_append, List.flatten_append, List.length_append, List.length_append] at e2
              have e3 : ps.reverse.flatten.length = ps.flatten.length := by rw [List.length_flatten, List.length_flatten, List.map_reverse, List.sum_reverse]
              simp only [List.flatten_singleton] at e2
              omega
            have s9 : Same H (upd H' q (.lst (p.map V.int).reverse)) := same_mut s8 (hnew q hqm)
            have hq10 : (upd H' q (.lst (p.map V.int).reverse)) q = some (.lst (p.reverse.map V.int)) := by rw [upd_same, List.map_reverse]
            have hr10 : (upd H' q (.lst (p.map V.int).reverse)) r = _ := (upd_ne (Ne.symm hqr)).trans hr8
            have hpp10 : (upd H' q (.lst (p.map V.int).reverse)) pp = _ := (upd_ne (Ne.symm hqp)).trans hpp8
            have hf10 : (upd H' q (.lst (p.map V.int).reverse)) f = _ := (upd_ne (Ne.symm hqf)).trans hf8
            have hex10 : ∀ z ∈ qs, (upd H' q (.lst (p.map V.int).reverse)) z ≠ none := fun z hz => by
              by_cases e : z = q
              · subst e; rw [upd_same]; exact fun w => nomatch w
              · rw [upd_ne e]; exact hex8 z hz
            have ow10 := ow9.mut (o := .lst (p.map V.int).reverse) nq9
            refine ⟨tyL hq9, _, hq9, ?_⟩
            have ft : ∀ q ∈ qs.take (qs.length - 1 - k), q ∈ qs := fun q hq => List.mem_of_mem_take hq
            generalize upd H' q (.lst (p.map V.int).reverse) = H10 at s9 hq10 hr10 hpp10 hf10 hex10 ow10 ⊢
            have c1 : cutV (p.reverse.map V.int) (some 1) none = (p.reverse.drop 1).map V.int := by rw [show (1 : Int) = ((1 : Nat) : Int) from rfl, cut_from, List.map_drop]
            have c2 : cutV (p.reverse.map V.int) none (some 1) = (p.reverse.take 1).map V.int := by rw [show (1 : Int) = ((1 : Nat) : Int) from rfl, cut_to, List.map_take]
            refine ⟨_, SqL.of hq10, fun p1 np1 => ?_⟩
            rw [c1]
            refine ⟨_, same_new np1 _ _ hr10, _, upd_same, lineLe (by simp only [List.length_map, List.length_drop, List.length_reverse]; omega), fun p2 np2 => ⟨_, SqL.of (same_new np2 _ _ (same_new np1 _ _ hq10)), fun p3 np3 => ?_⟩⟩
            rw [c2]
            have t1 := same_new (o := .lst ((p.reverse.drop 1).map V.int)) np1
            have t2 := t1.trans (same_new (o := .lst ((((ps.reverse.take k).map fun p => rotL p.reverse).flatten).map V.int ++ (p.reverse.drop 1).map V.int)) np2)
            have t3 := t2.trans (same_new (o := .lst ((p.reverse.take 1).map V.int)) np3)
            refine ⟨_, same_new np3 _ _ upd_same, _, upd_same, lineLe (by simp only [List.length_append, List.length_map, List.length_drop, List.length_take, List.length_reverse]; omega), fun p4 np4 => ?_⟩
            have t4 := t3.trans (same_new (o := .lst ((((ps.reverse.take k).map fun p => rotL p.reverse).flatten).map V.int ++ (p.reverse.drop 1).map V.int ++ (p.reverse.take 1).map V.int)) np4)
            have hp' : ps.reverse[k]? = some p := by rw [rev_at (by omega), ← ql]; exact hp
            have n4 : H10 p4 = none := t3.free np4
            refine ⟨s9.trans t4, (s9.trans t3).free np4, fun z => ?_, fun z => ?_, fun z => hex10 _ z n4, fun z hz w => hex10 _ hz (t4.free w), t4 _ _ hpp10, t4 _ _ hf10, ?_, ?_⟩
            · rw [z, hf10] at n4; cases n4
            · rw [z, hpp10] at n4; cases n4
            · have e3 : qs.length - (k + 1) = qs.length - 1 - k := by omega
              rw [e3]
              exact ow10.same t4
            · rw [upd_same, take_more hp', List.map_append, List.flatten_append]
              simp [rotL, List.append_assoc]
          · obtain ⟨r, y5, rfl, s8, nr8, hrf8, hrp8, hrq8, hex8, hpp8, hf8, ow8, hr8⟩ := h
            walk_at "rd"
            rw [ql, ← List.length_reverse, List.take_length] at hr8
            exact ⟨s8, nr8, hrf8, hr8, hf8⟩
        · have e0 : ini = [] := List.length_eq_zero_iff.mp (by omega)
          subst e0
          exact ⟨s4, nr, hrf, hr4, hf4⟩
    · have e0 : row = [] := List.length_eq_zero_iff.mp (by omega)
      subst e0
      refine ⟨tyL hf, _, hf, q1 ok _ f (same_mut s2 nf') nf' ?_⟩
      rw [upd_same, hex, ← List.map_reverse]
      rfl

end
end Sh

namespace Sh
section
variable {P : Program} {w : World} {K : PySem.W.Frag} {mg : Str → Option Value} {base : Heap}
def sp__law_whole (T : Tx K mg) : Sp := fun vs H Q _ => ∃ (i : Int), vs = [.int i] ∧ Q (.bl true) H
theorem ok__law_whole (T : Tx K mg) : FnOk P w K mg base CX0 1 T.f__law_whole T.fd__law_whole ["found"] (sp__law_whole T) := by
  refine T.F__law_whole.ok sc__law_whole (fun vs H Q E h => ?_) (fun cdv A outer s H vs Q E hr h => ?_)
  · obtain ⟨i, rfl, _⟩ := h
    rfl
  · obtain ⟨i, rfl, q⟩ := h
    refine ⟨_, (pss_one (by exact (ps_ret (pe_and (by exact (pe_callB call_isi (by rfl) T.m_isinstance (by decide +kernel) (pa_cons (pv 0) (pa_cons (pe_bltn (v := .ty "int") (by rfl) T.m_int (by decide +kernel) rfl) pa_nil)))) (pe_one (pe_not (by exact (pe_callB call_isi (by rfl) T.m_isinstance (by decide +kernel) (pa_cons (pv 0) (pa_cons (pe_bltn (v := .ty "bool") (by rfl) T.m_bool (by decide +kernel) rfl) pa_nil)))))))))), ?_⟩
    rw [show (start ["found"] [V.int i] : L2.St) = [some (V.int i)] from rfl]
    walk_at "rd"
    refine ⟨_, _, _, _, true, rfl, .ty "int", .base (.int i), kit_ty (by decide +kernel), ?_⟩
    walk_at "rd"
    refine ⟨_, _, _, _, false, rfl, .ty "bool", .base (.int i), kit_ty (by decide +kernel), ?_⟩
    walk_at "rd"
    exact q

end
end Sh

namespace Sh
section
variable {P : Program} {w : World} {K : PySem.W.Frag} {mg : Str → Option Value} {base : Heap}
def sp__law_numbers (T : Tx K mg) : Sp := fun vs H Q _ => ∃ (a b : Addr) (ns ms : List Int), vs = [.ref a, .ref b] ∧ H a = some (.lst (ns.map V.int)) ∧ SqL K H b (ms.map V.int) ∧ Q (.bl (decide (ns = ms))) H
theorem ok__law_numbers (T : Tx K mg) : FnOk P w K mg base CX0 2 T.f__law_numbers T.fd__law_numbers ["found", "due"] (sp__law_numbers T) := by
  refine T.F__law_numbers.ok sc__law_numbers (fun vs H Q E h => ?_) (fun cdv A outer s H vs Q E hr h => ?_)
  · obtain ⟨a, b, ns, ms, rfl, _⟩ := h
    rfl
  · obtain ⟨a, b, ns, ms, rfl, ha, hb, q⟩ := h
    refine ⟨_, (pss_cons (by exact (ps_if (PW.pt (pw_or (pt_not (pt_val (by exact (pe_callB call_isi (by rfl) T.m_isinstance (by decide +kernel) (pa_cons (pv 0) (pa_cons (pe_bltn (v := .ty "list") (by rfl) T.m_list (by decide +kernel) rfl) pa_nil)))))) (pw_or1 (pt_cmpR (op_ne) (by exact (pe_callB call_lenS (by rfl) T.m_len PySem.boot_len (pa_cons (pv 0) pa_nil))) (by exact (pe_callB call_lenS (by rfl) T.m_len PySem.boot_len (pa_cons (pv 1) pa_nil))) (nomark _))))) (pss_one (by exact (ps_ret pe_bl))) pss_nil))
        (pss_cons (by exact (ps_for PassesOwn.never rfl (pi_list (pv 0)) (pg_name (i := 2) sc__law_numbers.nd rfl (Or.inl rfl))
        (pss_one (by exact (ps_if (pt_not (pt_val (by exact (pe_call (ok__law_whole T) (hr.mono (by decide)) (by rfl) T.g__law_whole T.F__law_whole.kp T.b__law_whole .nil pass0 (pa_cons (pv 2) pa_nil))))) (pss_one (by exact (ps_ret pe_bl))) pss_nil)))))
        (pss_one (by exact (ps_ret (pe_cmpR (op_eqD hr.units) (pv 0) (pv 1) (nomark _))))))), ?_⟩
    rw [show (start ["found", "due", "x"] [V.ref a, V.ref b] : L2.St) = [some (V.ref a), some (V.ref b), none] from rfl]
    walk_at "rd"
    have hA : SqL K H a (ns.map V.int) := SqL.of ha
    refine ⟨_, _, _, _, true, rfl, .ty "list", .base (.lst ha), kit_ty (by decide +kernel), ?_⟩
    walk_at "rd"
    refine ⟨_, .inl hA, _, .inl hb, rfl, ?_⟩
    walk_at "rd"
    refine ite2 (fun c => ?_) (fun c => ⟨⟨_, hA⟩, ?_⟩)
    · have e : decide (ns = ms) = false := decide_eq_false fun z => c (by rw [z])
      rw [e] at q
      exact q
    · refine forK_map ns V.int (fun i σ H' => H' = H ∧ ∃ y, σ = [some (V.ref a), some (V.ref b), y]) ⟨rfl, _, rfl⟩ (fun i σ H' _ h => by rw [h.1]; exact hA) (fun i x σ H' hx h => ?_) (fun σ H' h => ?_)
      · obtain ⟨rfl, y, rfl⟩ := h
        walk_at "rd"
        refine ⟨x, rfl, ?_⟩
        walk_at "rd"
      · obtain ⟨rfl, y, rfl⟩ := h
        walk_at "rd"
        exact rEq_ints hA hb q

end
end Sh

namespace Sh
section
variable {P : Program} {w : World} {K : PySem.W.Frag} {mg : Str → Option Value} {base : Heap}
def sp__law_pairs (T : Tx K mg) : Sp := fun vs H Q E => ∃ (a : Addr) (ns : List Int), vs = [.ref a] ∧ SqL K H a (ns.map V.int) ∧ ns.length ≤ 4000 ∧ Q (.int (inv ns)) H
theorem ok__law_pairs (T : Tx K mg) : FnOk P w K mg base CX0 1 T.f__law_pairs T.fd__law_pairs ["shape"] (sp__law_pairs T) := by
  refine T.F__law_pairs.ok sc__law_pairs (fun vs H Q E h => ?_) (fun cdv A outer s H vs Q E hr h => ?_)
  · obtain ⟨a, ns, rfl, _⟩ := h
    rfl
  · obtain ⟨a, ns, rfl, hS, hl, q1⟩ := h
    refine ⟨_, (pss_cons (by exact (ps_set (i := 1) sc__law_pairs.nd rfl (Or.inl rfl) pe_int))
        (pss_cons (by exact (ps_for PassesOwn.never rfl (pi_range1 rfl T.m_range (pa_cons (by exact (pe_callB call_lenS (by rfl) T.m_len PySem.boot_len (pa_cons (pv 0) pa_nil))) pa_nil)) (pg_name (i := 2) sc__law_pairs.nd rfl (Or.inl rfl))
        (pss_one (by exact (ps_for PassesOwn.never rfl (pi_range1 rfl T.m_range (pa_cons (pv 2) pa_nil)) (pg_name (i := 3) sc__law_pairs.nd rfl (Or.inl rfl))
        (pss_one (by exact (ps_set (i := 1) sc__law_pairs.nd rfl (Or.inl rfl) (pe_op op_add (pv 1) (by exact (pe_callTy call_intS (by rfl) T.m_int (by decide +kernel) (pa_cons (pe_cmpR (op_gt) (pe_ix ix_list (pv 0) (pv 3) (fun _ _ => rfl)) (pe_ix ix_list (pv 0) (pv 2) (fun _ _ => rfl)) (nomark _)) pa_nil))))))))))))
        (pss_one (by exact (ps_ret (pv 1)))))), ?_⟩
    rw [show (start ["shape", "found", "j", "i"] [V.ref a] : L2.St) = [some (V.ref a), none, none, none] from rfl]
    walk_at "rd"
    refine ⟨_, .inl hS, ?_⟩
    walk_at "rd"
    refine ⟨by omega, by omega, ?_⟩
    refine forK_range (fun j σ H' => ∃ (y2 y3 : Option V), σ = [some (V.ref a), some (V.int (inv (ns.take j))), y2, y3] ∧ H' = H) ⟨none, none, by simp [inv], rfl⟩ (fun j σ H' hj h => ?_) (fun σ H' h => ?_)
    · obtain ⟨y2, y3, rfl, rfl⟩ := h
      walk_at "rd"
      refine ⟨by omega, by omega, ?_⟩
      refine forK_range (fun i σ H2 => ∃ (y3 : Option V), σ = [some (V.ref a), some (V.int ((inv (ns.take j) : Int) + ((ns.take i).filter (fun y => decide (ns.getD j 0 < y))).length)), some (V.int j), y3] ∧ H2 = H') ⟨y3, by simp, rfl⟩ (fun i σ H2 hi h => ?_) (fun σ H2 h => ?_)
      · obtain ⟨y3, rfl, rfl⟩ := h
        walk_at "rd"
        refine ⟨_, hS, _, atI_ints (by omega) (by omega), _, hS, _, atI_ints (by omega) (by omega), ?_⟩
        walk_at "rd"
        rw [take_get (show i < ns.length by omega), List.filter_append, List.length_append]
        by_cases c : ns.getD j 0 < ns.getD i 0
        · rw [List.filter_cons_of_pos (by simpa using c), if_pos c]; simp; omega
        · rw [List.filter_cons_of_neg (by simpa using c), if_neg c]; simp
      · obtain ⟨y3, rfl, rfl⟩ := h
        walk_at "rd"
        have := inv_take hj
        omega
    · obtain ⟨y2, y3, rfl, rfl⟩ := h
      walk_at "rd"
      rw [List.take_length]
      exact q1

end
end Sh

namespace Sh
section
variable {P : Program} {w : World} {K : PySem.W.Frag} {mg : Str → Option Value} {base : Heap}
def sp__law_sum (T : Tx K mg) : Sp := fun vs H Q E => ∃ (a : Addr) (ns : List Int), vs = [.ref a] ∧ SqL K H a (ns.map V.int) ∧ ns.length ≤ 4000 ∧ ∀ H', Same H H' → Q (.int ((fallsL ns).map (· + 1)).sum) H'
theorem ok__law_sum (T : Tx K mg) : FnOk P w K mg base CX0 1 T.f__law_sum T.fd__law_sum ["shape"] (sp__law_sum T) := by
  refine T.F__law_sum.ok sc__law_sum (fun vs H Q E h => ?_) (fun cdv A outer s H vs Q E hr h => ?_)
  · obtain ⟨a, ns, rfl, _⟩ := h
    rfl
  · obtain ⟨a, ns, rfl, hS, hl, q1⟩ := h
    refine ⟨_, (pss_one (by exact (ps_ret (by exact (pe_callB (cr_sum rfl) (by rfl) T.m_sum (by decide +kernel) (pa_cons (by exact (pe_lc (own := [("k", 1)]) (g := gName 1) (tt := (tTest (tOp (rI0 fun i j => .bl (decide (j < i))) (tOp (rIxL K) (tVar 0) (tOp (rI0 fun i j => .int (i - j)) (tVar 1) (tC (.int 1)))) (tOp (rIxL K) (tVar 0) (tVar 1))))) (te := (tVar 1)) rfl sc__law_sum.nd (pi_range2 rfl T.m_range (pa_cons pe_int (pa_cons (by exact (pe_callB call_lenS (by rfl) T.m_len PySem.boot_len (pa_cons (pv 0) pa_nil))) pa_nil))) (blkOk_by (N := ["shape", "k"]) (sc := defScope s__law_sum) (by decide +kernel)) (fun _ _ _ _ _ => by exact (pg_name (i := 1) sc__law_sum.nd rfl (by first | exact Or.inl rfl | exact Or.inr rfl))) (fun _ _ _ _ _ => by exact (pts_one (pt_cmpR (op_gt) (pe_ix ix_list (pv 0) (pe_op op_sub (pv 1) pe_int) (fun _ _ => rfl)) (pe_ix ix_list (pv 0) (pv 1) (fun _ _ => rfl)) (nomark _)))) (fun _ _ _ _ _ => by exact (pv 1)))) pa_nil)))))), ?_⟩
    rw [show (start ["shape", "k"] [V.ref a] : L2.St) = [some (V.ref a), none] from rfl]
    walk_at "rd"
    refine ⟨_, .inl hS, ?_⟩
    walk_at "rd"
    refine ⟨by omega, by omega, by omega, by omega, fun D nD => ?_⟩
    have e0 : ((ns.length : Int) - 1).toNat = ns.length - 1 := by omega
    rw [e0]
    refine lcK_filtR (fun k => decide (ns.getD (k + 1) 0 < ns.getD k 0)) (fun k => V.int (1 + k)) nD (by omega) (fun i acc H2 Qt Qf hi hs hD ht hf => ?_) (fun H2 hs hD => ?_)
    · walk_at "rd"
      have hA : SqL K H2 a (ns.map V.int) := hs.seq hS
      refine ⟨_, hA, _, atI_ints (by omega) (by omega), _, hA, _, atI_ints (by omega) (by omega), ?_⟩
      have e1 : (1 + (i : Int)).toNat = i + 1 := by omega
      have e2 : (1 + (i : Int) - 1).toNat = i := by omega
      walk_at "rd"
      rw [e1, e2]
      exact ite2 (fun c => ht (decide_eq_true c) _ hs hD) (fun c => hf (decide_eq_false c) _ hs hD)
    · refine ⟨(fallsL ns).map (· + 1), SqL.of ?_, q1 _ hs⟩
      rw [hD, fallsL, List.map_map, List.map_map]
      congr 2
      refine List.map_congr_left fun k _ => ?_
      simp [Int.add_comm]

end
end Sh

namespace Sh
section
variable {P : Program} {w : World} {K : PySem.W.Frag} {mg : Str → Option Value} {base : Heap}
def spL (K : PySem.W.Frag) : Sp := fun vs H Q _ => ∃ (a : Addr) (ns : List Int), vs = [.ref a] ∧ SqL K H a (ns.map V.int) ∧ ns.length ≤ 63 ∧ ∀ H', Q (.bl true) H'
def sp_law (T : Tx K mg) : Sp := spL K
theorem ok_law (T : Tx K mg) : FnOk P w K mg base CX0 4 T.f_law T.fd_law ["script"] (sp_law T) := by
  refine T.F_law.ok sc_law (fun vs H Q E h => ?_) (fun cdv A outer s H vs Q E hr h => ?_)
  · obtain ⟨a, ns, rfl, _⟩ := h
    rfl
  · obtain ⟨a, ns, rfl, hS, hlen, q⟩ := h
    refine ⟨_, (pss_cons (by exact (ps_set (i := 1) sc_law.nd rfl (Or.inl rfl) (by exact (pe_call (ok__law_shape T) (hr.mono (by decide)) (by rfl) T.g__law_shape T.F__law_shape.kp T.b__law_shape .nil pass0 (pa_cons (pv 0) (pa_cons pe_int (pa_cons (pe_op op_mod (by exact (pe_call (ok__law_cell_at T) (hr.mono (by decide)) (by rfl) T.g__law_cell_at T.F__law_cell_at.kp T.b__law_cell_at .nil pass0 (pa_cons (pv 0) (pa_cons pe_int pa_nil)))) pe_int) pa_nil)))))))
        (pss_cons (by exact (ps_set (i := 2) sc_law.nd rfl (Or.inl rfl) (by exact (pe_callB call_lenS (by rfl) T.m_len PySem.boot_len (pa_cons (pv 1) pa_nil)))))
        (pss_cons (by exact (ps_set (i := 3) sc_law.nd rfl (Or.inl rfl) (by exact (pe_callTy call_listS (by rfl) T.m_list (by decide +kernel) (pa_cons (pv 1) pa_nil)))))
        (pss_cons (by exact (ps_set (i := 4) sc_law.nd rfl (Or.inl rfl) (by exact (pe_call (ok_exchanged T) (hr.mono (by decide)) (by rfl) T.g_exchanged T.F_exchanged.kp T.b_exchanged .nil passL (pa_cons (pv 3) pa_nil)))))
        (pss_cons (by exact (ps_set (i := 5) sc_law.nd rfl (Or.inl rfl) (by exact (pe_call (ok_exchanged_back T) (hr.mono (by decide)) (by rfl) T.g_exchanged_back T.F_exchanged_back.kp T.b_exchanged_back .nil passL (pa_cons (pv 3) pa_nil)))))
        (pss_cons (by exact (ps_if (PW.pt (pw_or (pt_cmpR (op_neD hr.units) (pv 3) (pv 1) (nomark _)) (pw_or (pt_not (pt_val (by exact (pe_call (ok__law_numbers T) (hr.mono (by decide)) (by rfl) T.g__law_numbers T.F__law_numbers.kp T.b__law_numbers .nil pass0 (pa_cons (pv 4) (pa_cons (by exact (pe_callTy call_listS (by rfl) T.m_list (by decide +kernel) (pa_cons (pv 4) pa_nil))) pa_nil)))))) (pw_or1 (pt_not (pt_val (by exact (pe_call (ok__law_numbers T) (hr.mono (by decide)) (by rfl) T.g__law_numbers T.F__law_numbers.kp T.b__law_numbers .nil pass0 (pa_cons (pv 5) (pa_cons (by exact (pe_callTy call_listS (by rfl) T.m_list (by decide +kernel) (pa_cons (pv 5) pa_nil))) pa_nil)))))))))) (pss_one (by exact (ps_ret pe_bl))) pss_nil))
        (pss_cons (by exact (ps_if (PW.pt (pw_or (pt_cmpR (op_neD hr.units) (by exact (pe_callB cr_sortedI (by rfl) T.m_sorted (by decide +kernel) (pa_cons (pv 4) pa_nil))) (by exact (pe_listRg rfl (by rfl) T.m_list (prg_1 (by rfl) T.m_range (pv 2)))) (nomark _)) (pw_or1 (pt_cmpR (op_neD hr.units) (by exact (pe_callB cr_sortedI (by rfl) T.m_sorted (by decide +kernel) (pa_cons (pv 5) pa_nil))) (by exact (pe_listRg rfl (by rfl) T.m_list (prg_1 (by rfl) T.m_range (pv 2)))) (nomark _))))) (pss_one (by exact (ps_ret pe_bl))) pss_nil))
        (pss_cons (by exact (ps_if (PW.pt (pw_or (pt_cmpR (op_ne) (by exact (pe_call (ok__law_pairs T) (hr.mono (by decide)) (by rfl) T.g__law_pairs T.F__law_pairs.kp T.b__law_pairs .nil pass0 (pa_cons (pv 4) pa_nil))) (by exact (pe_call (ok__law_sum T) (hr.mono (by decide)) (by rfl) T.g__law_sum T.F__law_sum.kp T.b__law_sum .nil pass0 (pa_cons (pv 1) pa_nil))) (nomark _)) (pw_or1 (pt_cmpR (op_ne) (by exact (pe_call (ok__law_sum T) (hr.mono (by decide)) (by rfl) T.g__law_sum T.F__law_sum.kp T.b__law_sum .nil pass0 (pa_cons (pv 5) pa_nil))) (by exact (pe_call (ok__law_pairs T) (hr.mono (by decide)) (by rfl) T.g__law_pairs T.F__law_pairs.kp T.b__law_pairs .nil pass0 (pa_cons (pv 1) pa_nil))) (nomark _))))) (pss_one (by exact (ps_ret pe_bl))) pss_nil))
        (pss_cons (by exact (ps_if (PW.pt (pw_and (pt_cmpR (op_gt) (pv 2) pe_int (nomark _)) (pw_and1 (PW.pt (pw_or (pt_cmpR (op_ne) (pe_ix ix_list (pv 4) (pe_un un_neg pe_int) (fun _ _ => rfl)) (pe_ix ix_list (pv 1) (pe_un un_neg pe_int) (fun _ _ => rfl)) (nomark _)) (pw_or1 (pt_cmpR (op_ne) (pe_ix ix_list (pv 5) (pe_un un_neg pe_int) (fun _ _ => rfl)) (pe_ix ix_list (pv 1) (pe_un un_neg pe_int) (fun _ _ => rfl)) (nomark _)))))))) (pss_one (by exact (ps_ret pe_bl))) pss_nil))
        (pss_cons (by exact (ps_set (i := 6) sc_law.nd rfl (Or.inl rfl) (pe_lst (pa_cons (by exact (pe_callTy call_listS (by rfl) T.m_list (by decide +kernel) (pa_cons (pv 4) pa_nil))) (pa_cons (by exact (pe_callTy call_listS (by rfl) T.m_list (by decide +kernel) (pa_cons (pv 5) pa_nil))) pa_nil)))))
        (pss_cons (by exact (ps_expr (by exact (pe_bm PySem.F.plainAttrs_list PySem.F.slot_list_append PySem.F.type_list_append mt_append (pv 4) (pa_cons pe_int pa_nil)))))
        (pss_cons (by exact (ps_expr (by exact (pe_bm PySem.F.plainAttrs_list PySem.F.slot_list_append PySem.F.type_list_append mt_append (pv 5) (pa_cons pe_int pa_nil)))))
        (pss_cons (by exact (ps_if (PW.pt (pw_or (pt_cmpR (op_neD hr.units) (by exact (pe_call (ok_exchanged T) (hr.mono (by decide)) (by rfl) T.g_exchanged T.F_exchanged.kp T.b_exchanged .nil passL (pa_cons (pv 3) pa_nil))) (pe_ix ix_list (pv 6) pe_int (fun _ _ => rfl)) (nomark _)) (pw_or1 (pt_cmpR (op_neD hr.units) (by exact (pe_call (ok_exchanged_back T) (hr.mono (by decide)) (by rfl) T.g_exchanged_back T.F_exchanged_back.kp T.b_exchanged_back .nil passL (pa_cons (pv 3) pa_nil))) (pe_ix ix_list (pv 6) pe_int (fun _ _ => rfl)) (nomark _))))) (pss_one (by exact (ps_ret pe_bl))) pss_nil))
        (pss_one (by exact (ps_ret (pe_and (pe_cmpR (op_eqD hr.units) (by exact (pe_call (ok_exchanged_back T) (hr.mono (by decide)) (by rfl) T.g_exchanged_back T.F_exchanged_back.kp T.b_exchanged_back .nil passL (pa_cons (pe_ix ix_list (pv 6) pe_int (fun _ _ => rfl)) pa_nil))) (pv 1) (nomark _)) (pe_one (pe_cmpR (op_eqD hr.units) (by exact (pe_call (ok_exchanged T) (hr.mono (by decide)) (by rfl) T.g_exchanged T.F_exchanged.kp T.b_exchanged .nil passL (pa_cons (pe_ix ix_list (pv 6) pe_int (fun _ _ => rfl)) pa_nil))) (pv 1) (nomark _)))))))))))))))))))), ?_⟩
    rw [show (start ["script", "shape", "size", "handed", "found", "back", "kept"] [V.ref a] : L2.St) = [some (V.ref a), none, none, none, none, none, none] from rfl]
    walk_at "rd"
    refine ⟨a, ns, _, rfl, hS, by decide, ?_⟩
    walk_at "rd"
    obtain ⟨n, hn, hn30⟩ : ∃ n : Nat, ns.getD (Int.toNat 0) 0 % 31 = (n : Int) ∧ n ≤ 30 := ⟨(ns.getD (Int.toNat 0) 0 % 31).toNat, by omega, by omega⟩
    rw [hn]
    refine ⟨a, ns, 1, n, rfl, hS, by omega, fun s H1 sa pm s1 nsa hsa => ?_⟩
    have sl : s.length = n := by rw [pm.length_eq, rangeI_len]
    have sok : shapeOk s := ⟨by omega, by rw [sl]; exact pm⟩
    walk_at "rd"
    refine ⟨_, .inl (SqL.of hsa), ?_⟩
    walk_at "rd"
    refine ⟨_, .inl (SqL.of hsa), fun hd nhd => ?_⟩
    have hsa2 := same_new (o := .lst (s.map V.int)) nhd _ _ hsa
    have hhd2 : (upd H1 hd (.lst (s.map V.int))) hd = some (.lst (s.map V.int)) := upd_same
    generalize upd H1 hd (.lst (s.map V.int)) = H2 at hsa2 hhd2 ⊢
    refine ⟨hd, s, rfl, SqL.of hhd2, by omega, fun _ H3 fo s3 nfo hfo => ?_, fun z => absurd sok z⟩
    walk_at "rd"
    refine ⟨hd, s, rfl, SqL.of (s3 _ _ hhd2), by omega, fun _ H4 ba s4 nba hba => ?_, fun z => absurd sok z⟩
    have s04 := s3.trans s4
    walk_at "rd"
    refine rNe_ints (SqL.of (s04 _ _ hhd2)) (SqL.of (s04 _ _ hsa2)) ?_
    walk_at "rd"
    have hfo4 := s4 _ _ hfo
    have hsa4 := s04 _ _ hsa2
    have hhd4 := s04 _ _ hhd2
    have fl : (exL s).length = s.length := exL_len_eq s
    have bl : (exB s).length = s.length := exB_len_eq s
    refine ⟨_, .inl (SqL.of hfo4), fun l1 nl1 => ⟨fo, l1, exL s, exL s, rfl, same_new nl1 _ _ hfo4, SqL.of upd_same, ?_⟩⟩
    have t1 := same_new (o := .lst ((exL s).map V.int)) nl1
    generalize upd H4 l1 (.lst ((exL s).map V.int)) = H5 at t1 ⊢
    walk_at "rd"
    refine ⟨_, .inl (SqL.of (t1 _ _ hba)), fun l2 nl2 => ⟨ba, l2, exB s, exB s, rfl, same_new nl2 _ _ (t1 _ _ hba), SqL.of upd_same, ?_⟩⟩
    have t2 := t1.trans (same_new (o := .lst ((exB s).map V.int)) nl2)
    generalize upd H5 l2 (.lst ((exB s).map V.int)) = H6 at t2 ⊢
    walk_at "rd"
    refine ⟨_, SqL.of (t2 _ _ hfo4), fun w1 p1 pm1 ri1 np1 => ⟨⟨by decide, by decide, by omega, by omega, by omega⟩, fun q1 nq1 => ?_⟩⟩
    refine rNe_ints (ns := w1) (ms := rangeI s.length) (sql_new nq1 sql_self) (by rw [rgV_range]; exact sql_self) ?_
    rw [sorted_of (exL_shape sok) fl pm1 ri1, decide_eq_true rfl]
    rw [sorted_of (exL_shape sok) fl pm1 ri1] at nq1
    have t3 := (t2.trans (same_new (o := .lst ((rangeI s.length).map V.int)) np1)).trans (same_new (o := .lst (rgV 0 (s.length : Int))) nq1)
    generalize upd (upd H6 p1 (.lst ((rangeI s.length).map V.int))) q1 (.lst (rgV 0 (s.length : Int))) = H7 at t3 ⊢
    walk_at "rd"
    refine ⟨_, SqL.of (t3 _ _ hba), fun w2 p2 pm2 ri2 np2 => ⟨⟨by decide, by decide, by omega, by omega, by omega⟩, fun q2 nq2 => ?_⟩⟩
    refine rNe_ints (ns := w2) (ms := rangeI s.length) (sql_new nq2 sql_self) (by rw [rgV_range]; exact sql_self) ?_
    rw [sorted_of (exB_shape sok) bl pm2 ri2, decide_eq_true rfl]
    rw [sorted_of (exB_shape sok) bl pm2 ri2] at nq2
    have t4 := (t3.trans (same_new (o := .lst ((rangeI s.length).map V.int)) np2)).trans (same_new (o := .lst (rgV 0 (s.length : Int))) nq2)
    generalize upd (upd H7 p2 (.lst ((rangeI s.length).map V.int))) q2 (.lst (rgV 0 (s.length : Int))) = H8 at t4 ⊢
    walk_at "rd"
    refine ⟨fo, exL s, rfl, SqL.of (t4 _ _ hfo4), by omega, ?_⟩
    walk_at "rd"
    refine ⟨sa, s, rfl, SqL.of (t4 _ _ hsa4), by omega, fun H9 u9 => ?_⟩
    have t5 := t4.trans u9
    walk_at "rd"
    refine ⟨rfl, ?_⟩
    have nd := (shapeOk_row sok).2
    have m1 : (inv (exL s) : Int) = ((fallsL s).map (fun x => x + 1)).sum := inv_exL s nd
    have m2 : ((fallsL (exB s)).map (fun x => x + 1)).sum = (inv s : Int) := by
      have := inv_exL (exB s) ((exB_perm s).nodup_iff.mpr nd)
      rw [exL_bk _ s rfl] at this
      exact this.symm
    rw [if_neg (fun z => z m1)]
    refine ⟨ba, exB s, rfl, SqL.of (t5 _ _ hba), by omega, fun H10 u10 => ?_⟩
    have t6 := t5.trans u10
    walk_at "rd"
    refine ⟨sa, s, rfl, SqL.of (t6 _ _ hsa4), by omega, ?_⟩
    refine ⟨rfl, ?_⟩
    rw [m2, if_neg (fun z => z rfl)]
    have ea : ∀ {t : List Int}, t.length = s.length → 0 < s.length → atI (t.map V.int) (-1) = some (.int (t.getLastD 0)) := fun hl h0 => atI_lastD (by omega)
    refine ite2 (fun c => ?_) (fun c => ?_)
    have c0 : 0 < s.length := by omega
    refine ⟨_, SqL.of (t6 _ _ hfo4), _, ea fl c0, _, SqL.of (t6 _ _ hsa4), _, ea rfl c0, rfl, ?_⟩
    rw [if_neg (fun z => z (by rw [exL_last]))]
    refine ⟨_, SqL.of (t6 _ _ hba), _, ea bl c0, _, SqL.of (t6 _ _ hsa4), _, ea rfl c0, rfl, ?_⟩
    rw [if_neg (fun z => z (by rw [exB_last]))]
    all_goals
      have hfo10 := t6 _ _ hfo4
      have hba10 := t6 _ _ hba
      have hsa10 := t6 _ _ hsa4
      have hhd10 := t6 _ _ hhd4
      refine ⟨_, .inl (SqL.of hfo10), fun k1 nk1 => ⟨_, .inl (SqL.of (same_new nk1 _ _ hba10)), fun k2 nk2 => ⟨lineLe (by simp), fun kp nkp => ?_⟩⟩⟩
      have v := ((same_new (o := .lst ((exL s).map V.int)) nk1).trans (same_new (o := .lst ((exB s).map V.int)) nk2)).trans (same_new (o := .lst [V.ref k1, V.ref k2]) nkp)
      have hk1 : (upd (upd (upd H10 k1 (.lst ((exL s).map V.int))) k2 (.lst ((exB s).map V.int))) kp (.lst [V.ref k1, V.ref k2])) k1 = some (.lst ((exL s).map V.int)) := same_new nkp _ _ (same_new nk2 _ _ upd_same)
      have hk2 : (upd (upd (upd H10 k1 (.lst ((exL s).map V.int))) k2 (.lst ((exB s).map V.int))) kp (.lst [V.ref k1, V.ref k2])) k2 = some (.lst ((exB s).map V.int)) := same_new nkp _ _ upd_same
      have hkp : (upd (upd (upd H10 k1 (.lst ((exL s).map V.int))) k2 (.lst ((exB s).map V.int))) kp (.lst [V.ref k1, V.ref k2])) kp = some (.lst [V.ref k1, V.ref k2]) := upd_same
      have nkp10 : H10 kp = none := (((same_new nk1).trans (same_new nk2)).free nkp)
      have nk210 : H10 k2 = none := ((same_new nk1).free nk2)
      generalize (upd (upd (upd H10 k1 (.lst ((exL s).map V.int))) k2 (.lst ((exB s).map V.int))) kp (.lst [V.ref k1, V.ref k2])) = H13 at v hk1 hk2 hkp ⊢
      have hne : fo ≠ ba := ne_of_none hfo nba
      have hba13 : (upd H13 fo (.lst ((exL s).map V.int ++ [V.int 0]))) ba = some (.lst ((exB s).map V.int)) := (upd_ne hne.symm).trans (v _ _ hba10)
      refine ⟨tyL (v _ _ hfo10), _, v _ _ hfo10, lineLt (by simp; omega), tyL hba13, _, hba13, lineLt (by simp; omega), ?_⟩
      have keep : ∀ z o, H13 z = some o → z ≠ fo → z ≠ ba → (upd (upd H13 fo (.lst ((exL s).map V.int ++ [V.int 0]))) ba (.lst ((exB s).map V.int ++ [V.int 0]))) z = some o := fun z o e h1 h2 => (upd_ne h2).trans ((upd_ne h1).trans e)
      have gk1 := keep _ _ hk1 (ne_of_none hfo10 nk1).symm (ne_of_none hba10 nk1).symm
      have gk2 := keep _ _ hk2 (ne_of_none hfo10 nk210).symm (ne_of_none hba10 nk210).symm
      have gkp := keep _ _ hkp (ne_of_none hfo10 nkp10).symm (ne_of_none hba10 nkp10).symm
      have ghd := keep _ _ (v _ _ hhd10) (ne_of_none hhd2 nfo) (ne_of_none (s3 _ _ hhd2) nba)
      have gsa := keep _ _ (v _ _ hsa10) (ne_of_none hsa2 nfo) (ne_of_none (s3 _ _ hsa2) nba)
      generalize (upd (upd H13 fo (.lst ((exL s).map V.int ++ [V.int 0]))) ba (.lst ((exB s).map V.int ++ [V.int 0]))) = H15 at gk1 gk2 gkp ghd gsa ⊢
      refine ⟨hd, s, rfl, SqL.of ghd, by omega, fun _ H16 e1 w1 ne1 he1 => ⟨_, SqL.of (w1 _ _ gkp), _, atI_nat (j := 0) rfl, ?_⟩, fun z => absurd sok z⟩
      refine rNe_ints (SqL.of he1) (SqL.of (w1 _ _ gk1)) ?_
      walk_at "rd"
      refine ⟨hd, s, rfl, SqL.of (w1 _ _ ghd), by omega, fun _ H17 e2 w2 ne2 he2 => ⟨_, SqL.of (w2 _ _ (w1 _ _ gkp)), _, atI_nat (j := 1) rfl, ?_⟩, fun z => absurd sok z⟩
      refine rNe_ints (SqL.of he2) (SqL.of (w2 _ _ (w1 _ _ gk2))) ?_
      walk_at "rd"
      have w := w1.trans w2
      refine ⟨_, SqL.of (w _ _ gkp), _, atI_nat (j := 0) rfl, k1, exL s, rfl, SqL.of (w _ _ gk1), by omega, fun _ H18 e3 w3 ne3 he3 => ?_, fun z => absurd (exL_shape sok) z⟩
      rw [exB_ex] at he3
      refine rEq_ints (SqL.of he3) (SqL.of (w3 _ _ (w _ _ gsa))) ?_
      walk_at "rd"
      have ww := w.trans w3
      refine ⟨_, SqL.of (ww _ _ gkp), _, atI_nat (j := 1) rfl, k2, exB s, rfl, SqL.of (ww _ _ gk2), by omega, fun _ H19 e4 w4 ne4 he4 => ?_, fun z => absurd (exB_shape sok) z⟩
      rw [exL_bk _ s rfl] at he4
      refine rEq_ints (SqL.of he4) (SqL.of (w4 _ _ (ww _ _ gsa))) ?_
      walk_at "rd"
      exact q _

end
end Sh

namespace Sh
theorem all_mk {l : PySem.W.OpenLaw} {w : World} {K : PySem.W.Frag} {h : Heap} {mg : Str → Option Value} {fa : Addr} (X : K.In h) (G : h.Ns mainGlobals mg) (hfa : mg "law" = some (.ref fa))
    {f0 : Addr} {od0 an0 : Option Addr} {sl0 : Array (Option Value)} {oc0 kV0 dc0 pm0 cd0 ct0 : Value}
    {f1 : Addr} {od1 an1 : Option Addr} {sl1 : Array (Option Value)} {oc1 kV1 dc1 pm1 cd1 ct1 : Value}
    {f2 : Addr} {od2 an2 : Option Addr} {sl2 : Array (Option Value)} {oc2 kV2 dc2 pm2 cd2 ct2 : Value}
    {f3 : Addr} {od3 an3 : Option Addr} {sl3 : Array (Option Value)} {oc3 kV3 dc3 pm3 cd3 ct3 : Value}
    {f4 : Addr} {od4 an4 : Option Addr} {sl4 : Array (Option Value)} {oc4 kV4 dc4 pm4 cd4 ct4 : Value}
    {f5 : Addr} {od5 an5 : Option Addr} {sl5 : Array (Option Value)} {oc5 kV5 dc5 pm5 cd5 ct5 : Value}
    {f6 : Addr} {od6 an6 : Option Addr} {sl6 : Array (Option Value)} {oc6 kV6 dc6 pm6 cd6 ct6 : Value}
    {f7 : Addr} {od7 an7 : Option Addr} {sl7 : Array (Option Value)} {oc7 kV7 dc7 pm7 cd7 ct7 : Value}
    {f8 : Addr} {od8 an8 : Option Addr} {sl8 : Array (Option Value)} {oc8 kV8 dc8 pm8 cd8 ct8 : Value}
    {f9 : Addr} {od9 an9 : Option Addr} {sl9 : Array (Option Value)} {oc9 kV9 dc9 pm9 cd9 ct9 : Value}
    {f10 : Addr} {od10 an10 : Option Addr} {sl10 : Array (Option Value)} {oc10 kV10 dc10 pm10 cd10 ct10 : Value}
    {f11 : Addr} {od11 an11 : Option Addr} {sl11 : Array (Option Value)} {oc11 kV11 dc11 pm11 cd11 ct11 : Value}
    {t0 : Tok}
    {C0 : Addr}
    (a0 : PySem.W.nsIn K mainGlobals "_law_cell_at" = some (some (.ref f0)))
    (l0 : K.lookup f0 = some ⟨oc0, od0, .func (PySem.W.fnOf "_law_cell_at" "_law_cell_at" (defArgs s__law_cell_at) (defBody s__law_cell_at) (defScope s__law_cell_at) .none kV0 dc0 pm0 an0 cd0 ct0), sl0⟩)
    (c0 : PySem.W.codeIn K cd0 "_law_cell_at" = true)
    (k0 : PySem.W.keepIn K (.ref f0) = true)
    (a1 : PySem.W.nsIn K mainGlobals "_law_shape" = some (some (.ref f1)))
    (l1 : K.lookup f1 = some ⟨oc1, od1, .func (PySem.W.fnOf "_law_shape" "_law_shape" (defArgs s__law_shape) (defBody s__law_shape) (defScope s__law_shape) .none kV1 dc1 pm1 an1 cd1 ct1), sl1⟩)
    (c1 : PySem.W.codeIn K cd1 "_law_shape" = true)
    (k1 : PySem.W.keepIn K (.ref f1) = true)
    (a2 : PySem.W.nsIn K mainGlobals "is_shape" = some (some (.ref f2)))
    (l2 : K.lookup f2 = some ⟨oc2, od2, .func (PySem.W.fnOf "is_shape" "is_shape" (defArgs s_is_shape) (defBody s_is_shape) (defScope s_is_shape) .none kV2 dc2 pm2 an2 cd2 ct2), sl2⟩)
    (c2 : PySem.W.codeIn K cd2 "is_shape" = true)
    (k2 : PySem.W.keepIn K (.ref f2) = true)
    (a3 : PySem.W.nsIn K mainGlobals "ask_shape" = some (some (.ref f3)))
    (l3 : K.lookup f3 = some ⟨oc3, od3, .func (PySem.W.fnOf "ask_shape" "ask_shape" (defArgs s_ask_shape) (defBody s_ask_shape) (defScope s_ask_shape) .none kV3 dc3 pm3 an3 cd3 ct3), sl3⟩)
    (c3 : PySem.W.codeIn K cd3 "ask_shape" = true)
    (k3 : PySem.W.keepIn K (.ref f3) = true)
    (a4 : PySem.W.nsIn K mainGlobals "parted" = some (some (.ref f4)))
    (l4 : K.lookup f4 = some ⟨oc4, od4, .func (PySem.W.fnOf "parted" "parted" (defArgs s_parted) (defBody s_parted) (defScope s_parted) .none kV4 dc4 pm4 an4 cd4 ct4), sl4⟩)
    (c4 : PySem.W.codeIn K cd4 "parted" = true)
    (k4 : PySem.W.keepIn K (.ref f4) = true)
    (a5 : PySem.W.nsIn K mainGlobals "exchanged" = some (some (.ref f5)))
    (l5 : K.lookup f5 = some ⟨oc5, od5, .func (PySem.W.fnOf "exchanged" "exchanged" (defArgs s_exchanged) (defBody s_exchanged) (defScope s_exchanged) .none kV5 dc5 pm5 an5 cd5 ct5), sl5⟩)
    (c5 : PySem.W.codeIn K cd5 "exchanged" = true)
    (k5 : PySem.W.keepIn K (.ref f5) = true)
    (a6 : PySem.W.nsIn K mainGlobals "exchanged_back" = some (some (.ref f6)))
    (l6 : K.lookup f6 = some ⟨oc6, od6, .func (PySem.W.fnOf "exchanged_back" "exchanged_back" (defArgs s_exchanged_back) (defBody s_exchanged_back) (defScope s_exchanged_back) .none kV6 dc6 pm6 an6 cd6 ct6), sl6⟩)
    (c6 : PySem.W.codeIn K cd6 "exchanged_back" = true)
    (k6 : PySem.W.keepIn K (.ref f6) = true)
    (a7 : PySem.W.nsIn K mainGlobals "_law_whole" = some (some (.ref f7)))
    (l7 : K.lookup f7 = some ⟨oc7, od7, .func (PySem.W.fnOf "_law_whole" "_law_whole" (defArgs s__law_whole) (defBody s__law_whole) (defScope s__law_whole) .none kV7 dc7 pm7 an7 cd7 ct7), sl7⟩)
    (c7 : PySem.W.codeIn K cd7 "_law_whole" = true)
    (k7 : PySem.W.keepIn K (.ref f7) = true)
    (a8 : PySem.W.nsIn K mainGlobals "_law_numbers" = some (some (.ref f8)))
    (l8 : K.lookup f8 = some ⟨oc8, od8, .func (PySem.W.fnOf "_law_numbers" "_law_numbers" (defArgs s__law_numbers) (defBody s__law_numbers) (defScope s__law_numbers) .none kV8 dc8 pm8 an8 cd8 ct8), sl8⟩)
    (c8 : PySem.W.codeIn K cd8 "_law_numbers" = true)
    (k8 : PySem.W.keepIn K (.ref f8) = true)
    (a9 : PySem.W.nsIn K mainGlobals "_law_pairs" = some (some (.ref f9)))
    (l9 : K.lookup f9 = some ⟨oc9, od9, .func (PySem.W.fnOf "_law_pairs" "_law_pairs" (defArgs s__law_pairs) (defBody s__law_pairs) (defScope s__law_pairs) .none kV9 dc9 pm9 an9 cd9 ct9), sl9⟩)
    (c9 : PySem.W.codeIn K cd9 "_law_pairs" = true)
    (k9 : PySem.W.keepIn K (.ref f9) = true)
    (a10 : PySem.W.nsIn K mainGlobals "_law_sum" = some (some (.ref f10)))
    (l10 : K.lookup f10 = some ⟨oc10, od10, .func (PySem.W.fnOf "_law_sum" "_law_sum" (defArgs s__law_sum) (defBody s__law_sum) (defScope s__law_sum) .none kV10 dc10 pm10 an10 cd10 ct10), sl10⟩)
    (c10 : PySem.W.codeIn K cd10 "_law_sum" = true)
    (k10 : PySem.W.keepIn K (.ref f10) = true)
    (a11 : PySem.W.nsIn K mainGlobals "law" = some (some (.ref f11)))
    (l11 : K.lookup f11 = some ⟨oc11, od11, .func (PySem.W.fnOf "law" "law" (defArgs s_law) (defBody s_law) (defScope s_law) .none kV11 dc11 pm11 an11 cd11 ct11), sl11⟩)
    (c11 : PySem.W.codeIn K cd11 "law" = true)
    (k11 : PySem.W.keepIn K (.ref f11) = true)
    (z0 : PySem.W.nsIn K mainGlobals "len" = some none)
    (z1 : PySem.W.nsIn K mainGlobals "range" = some none)
    (z2 : PySem.W.nsIn K mainGlobals "sorted" = some none)
    (z3 : PySem.W.nsIn K mainGlobals "list" = some none)
    (z4 : PySem.W.nsIn K mainGlobals "reversed" = some none)
    (z5 : PySem.W.nsIn K mainGlobals "isinstance" = some none)
    (z6 : PySem.W.nsIn K mainGlobals "int" = some none)
    (z7 : PySem.W.nsIn K mainGlobals "bool" = some none)
    (z8 : PySem.W.nsIn K mainGlobals "sum" = some none)
    (n0 : PySem.W.nsIn K mainGlobals "MOST" = some (some (.int 30 t0)))
    (x0 : PySem.W.nsIn K mainGlobals "NoShape" = some (some (.ref C0)))
    (xe0 : PySem.W.excIn K C0 [.type "ValueError", .type "Exception", .type "BaseException", .type "object"] "ValueError.__new__" = true)
    (xk0 : PySem.W.keepIn K (.ref C0) = true)
    (xb0 : PySem.W.subIn K (.ref C0) (.type "BaseException") = some true)
    (xt0 : PySem.W.typeIn K (.ref C0) = some (.type "type")) :
    ∃ fd : FuncData, (∀ (s : Shared) (v : Value), BindsTo s fd ⟨[v], []⟩ [("script", v)]) ∧ ∀ base : Heap, K.In base → base.Ns mainGlobals mg → FnOk l.prog w K mg base CX0 4 fa fd ["script"] (spL K) := by
  have e := hfa.symm.trans (PySem.W.mg_of X G a11)
  cases e
  have F0 := fun_mk (st := s__law_cell_at) l0 c0 k0
  have b0 := F0.binds (ps := ["script", "k"]) fun _ _ _ _ _ _ us hl => match us, hl with | [_, _], _ => rfl
  have F1 := fun_mk (st := s__law_shape) l1 c1 k1
  have b1 := F1.binds (ps := ["script", "at", "size"]) fun _ _ _ _ _ _ us hl => match us, hl with | [_, _, _], _ => rfl
  have F2 := fun_mk (st := s_is_shape) l2 c2 k2
  have b2 := F2.binds (ps := ["some"]) fun _ _ _ _ _ _ us hl => match us, hl with | [_], _ => rfl
  have F3 := fun_mk (st := s_ask_shape) l3 c3 k3
  have b3 := F3.binds (ps := ["shape"]) fun _ _ _ _ _ _ us hl => match us, hl with | [_], _ => rfl
  have F4 := fun_mk (st := s_parted) l4 c4 k4
  have b4 := F4.binds (ps := ["row", "number"]) fun _ _ _ _ _ _ us hl => match us, hl with | [_, _], _ => rfl
  have F5 := fun_mk (st := s_exchanged) l5 c5 k5
  have b5 := F5.binds (ps := ["shape"]) fun _ _ _ _ _ _ us hl => match us, hl with | [_], _ => rfl
  have F6 := fun_mk (st := s_exchanged_back) l6 c6 k6
  have b6 := F6.binds (ps := ["shape"]) fun _ _ _ _ _ _ us hl => match us, hl with | [_], _ => rfl
  have F7 := fun_mk (st := s__law_whole) l7 c7 k7
  have b7 := F7.binds (ps := ["found"]) fun _ _ _ _ _ _ us hl => match us, hl with | [_], _ => rfl
  have F8 := fun_mk (st := s__law_numbers) l8 c8 k8
  have b8 := F8.binds (ps := ["found", "due"]) fun _ _ _ _ _ _ us hl => match us, hl with | [_, _], _ => rfl
  have F9 := fun_mk (st := s__law_pairs) l9 c9 k9
  have b9 := F9.binds (ps := ["shape"]) fun _ _ _ _ _ _ us hl => match us, hl with | [_], _ => rfl
  have F10 := fun_mk (st := s__law_sum) l10 c10 k10
  have b10 := F10.binds (ps := ["shape"]) fun _ _ _ _ _ _ us hl => match us, hl with | [_], _ => rfl
  have F11 := fun_mk (st := s_law) l11 c11 k11
  have b11 := F11.binds (ps := ["script"]) fun _ _ _ _ _ _ us hl => match us, hl with | [_], _ => rfl
  let T : Tx K mg := {
    f__law_cell_at := _, fd__law_cell_at := _, F__law_cell_at := F0, g__law_cell_at := PySem.W.mg_of X G a0, b__law_cell_at := b0,
    f__law_shape := _, fd__law_shape := _, F__law_shape := F1, g__law_shape := PySem.W.mg_of X G a1, b__law_shape := b1,
    f_is_shape := _, fd_is_shape := _, F_is_shape := F2, g_is_shape := PySem.W.mg_of X G a2, b_is_shape := b2,
    f_ask_shape := _, fd_ask_shape := _, F_ask_shape := F3, g_ask_shape := PySem.W.mg_of X G a3, b_ask_shape := b3,
    f_parted := _, fd_parted := _, F_parted := F4, g_parted := PySem.W.mg_of X G a4, b_parted := b4,
    f_exchanged := _, fd_exchanged := _, F_exchanged := F5, g_exchanged := PySem.W.mg_of X G a5, b_exchanged := b5,
    f_exchanged_back := _, fd_exchanged_back := _, F_exchanged_back := F6, g_exchanged_back := PySem.W.mg_of X G a6, b_exchanged_back := b6,
    f__law_whole := _, fd__law_whole := _, F__law_whole := F7, g__law_whole := PySem.W.mg_of X G a7, b__law_whole := b7,
    f__law_numbers := _, fd__law_numbers := _, F__law_numbers := F8, g__law_numbers := PySem.W.mg_of X G a8, b__law_numbers := b8,
    f__law_pairs := _, fd__law_pairs := _, F__law_pairs := F9, g__law_pairs := PySem.W.mg_of X G a9, b__law_pairs := b9,
    f__law_sum := _, fd__law_sum := _, F__law_sum := F10, g__law_sum := PySem.W.mg_of X G a10, b__law_sum := b10,
    f_law := _, fd_law := _, F_law := F11, g_law := PySem.W.mg_of X G a11, b_law := b11,
    m_len := PySem.W.mg_none_of X G z0,
    m_range := PySem.W.mg_none_of X G z1,
    m_sorted := PySem.W.mg_none_of X G z2,
    m_list := PySem.W.mg_none_of X G z3,
    m_reversed := PySem.W.mg_none_of X G z4,
    m_isinstance := PySem.W.mg_none_of X G z5,
    m_int := PySem.W.mg_none_of X G z6,
    m_bool := PySem.W.mg_none_of X G z7,
    m_sum := PySem.W.mg_none_of X G z8,
    t_MOST := _, g_MOST := PySem.W.mg_of X G n0,
    C_NoShape := _, gC_NoShape := PySem.W.mg_of X G x0, x_NoShape := xe0, kC_NoShape := xk0, bC_NoShape := xb0, tC_NoShape := xt0 }
  exact ⟨_, fun s v => .of_eq rfl, fun base _ _ => ok_law T⟩
end Sh
open PySem PySem.W PyProof.Rows
set_option maxRecDepth 100000 in
set_option maxHeartbeats 0 in
theorem PySem.Challenge.cw_shapeorders_k12_whole_exchanged_holds : PySem.Challenge.rw_shapeorders_k12_whole_exchanged.Holds := by
  w_on; o_law; k_head; (case hw => w_witness2)
  k_fill
  refine L2.walk_of (l := PySem.Challenge.rw_shapeorders_k12_whole_exchanged) (n := 63) (k := 4) (x := "script") (CX := fun _ => L2.CX0) (sp := fun w => Sh.spL _) rfl (by decide) rfl ⟨rfl, by decide, by decide⟩ (fun w h Y => PySem.W.kIn_of Y) ?F (fun _ _ a ns hl _ hS => ⟨a, ns, rfl, hS, hl, fun _ => rfl⟩) (fun _ _ _ _ _ h => h)
  case F =>
    intro w mg fa h KX G hmg
    refine' Sh.all_mk KX G hmg ?a0 ?l0 ?c0 ?k0 ?a1 ?l1 ?c1 ?k1 ?a2 ?l2 ?c2 ?k2 ?a3 ?l3 ?c3 ?k3 ?a4 ?l4 ?c4 ?k4 ?a5 ?l5 ?c5 ?k5 ?a6 ?l6 ?c6 ?k6 ?a7 ?l7 ?c7 ?k7 ?a8 ?l8 ?c8 ?k8 ?a9 ?l9 ?c9 ?k9 ?a10 ?l10 ?c10 ?k10 ?a11 ?l11 ?c11 ?k11 ?z0 ?z1 ?z2 ?z3 ?z4 ?z5 ?z6 ?z7 ?z8 ?n0 ?x0 ?xe0 ?xk0 ?xb0 ?xt0
    (case a0 => k_is)
    (case l0 => k_is)
    (case c0 => k_is)
    (case k0 => k_is)
    (case a1 => k_is)
    (case l1 => k_is)
    (case c1 => k_is)
    (case k1 => k_is)
    (case a2 => k_is)
    (case l2 => k_is)
    (case c2 => k_is)
    (case k2 => k_is)
    (case a3 => k_is)
    (case l3 => k_is)
    (case c3 => k_is)
    (case k3 => k_is)
    (case a4 => k_is)
    (case l4 => k_is)
    (case c4 => k_is)
    (case k4 => k_is)
    (case a5 => k_is)
    (case l5 => k_is)
    (case c5 => k_is)
    (case k5 => k_is)
    (case a6 => k_is)
    (case l6 => k_is)
    (case c6 => k_is)
    (case k6 => k_is)
    (case a7 => k_is)
    (case l7 => k_is)
    (case c7 => k_is)
    (case k7 => k_is)
    (case a8 => k_is)
    (case l8 => k_is)
    (case c8 => k_is)
    (case k8 => k_is)
    (case a9 => k_is)
    (case l9 => k_is)
    (case c9 => k_is)
    (case k9 => k_is)
    (case a10 => k_is)
    (case l10 => k_is)
    (case c10 => k_is)
    (case k10 => k_is)
    (case a11 => k_is)
    (case l11 => k_is)
    (case c11 => k_is)
    (case k11 => k_is)
    (case z0 => k_is)
    (case z1 => k_is)
    (case z2 => k_is)
    (case z3 => k_is)
    (case z4 => k_is)
    (case z5 => k_is)
    (case z6 => k_is)
    (case z7 => k_is)
    (case z8 => k_is)
    (case n0 => k_is)
    (case x0 => k_is)
    (case xe0 => k_exc)
    (case xk0 => k_is)
    (case xb0 => k_is)
    (case xt0 => k_is)
