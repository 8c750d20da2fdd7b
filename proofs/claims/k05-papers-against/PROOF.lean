import PyProof.Rows.All
import Wide.All
import OpenK.AllK
import Wide.FinOn
import HandS.ForMost
import HandS.Deep
import HandS.IsInst
import HandS.Wide
import HandS.Style
import HandS.Flow
import HandS.Zip
import HandS.TupAny
import HandS.TupMul
import HandS.SortInts
import HandS.SortRule
import HandS.Conv
import HandS.NoneIn
import HandS.EndBits
import HandS.More
import PySem.Challenge.RW_primessure_k05_whole_papers_against
set_option Elab.async false
set_option maxRecDepth 100000
set_option linter.all false
set_option maxHeartbeats 4000000
/-! DL: the data layer. Slots hold data by value (PyData) or a location of a mutable container; a construct's meaning is a predicate transformer over (slots, store). -/
namespace DL
open PySem PySem.Spec PyProof.Rows L2

/-- what a slot holds -/
inductive SV where
  | d (x : PyData)
  | loc (k : Nat)
  /-- the script (a list that is only read) -/
  | scr (ns : List Int)
/-- a mutable container in the store -/
inductive Cel where
  | lst (xs : List PyData)
  | dk (kvs : List (Key × PyData))
  | dt (kvs : List (List Key × PyData))
  /-- a list that nobody changes any more -/
  | frz (xs : List PyData)
abbrev Sl := List (Option SV)
abbrev Mu := List Cel

theorem Same.seqT {K : PySem.W.Frag} {H H' : Hp} {a : Addr} {xs : List V} (e : Same H H') (h : SqT K H a xs) : SqT K H' a xs := by
  rcases h with (h | ⟨o, h⟩) | h
  · exact .inl (.inl (e _ _ h))
  · exact .inl (.inr ⟨o, e _ _ h⟩)
  · exact .inr h
mutual
/-- data by value: every list below is a tracked one that nobody changes any more -/
inductive Dq (K : PySem.W.Frag) (F : Hp) : V → PyData → Prop
  | non : Dq K F .non .none
  | bl (b : Bool) : Dq K F (.bl b) (.bool b)
  | int (i : Int) : Dq K F (.int i) (.int i)
  | str (x : Str) : Dq K F (.str x) (.str x)
  | lst {a : Addr} {xs : List V} {ds : List PyData} : F a = some (.lst xs) → DqAll K F xs ds → Dq K F (.ref a) (.list ds)
  | tup {a : Addr} {xs : List V} {ds : List PyData} : SqT K F a xs → DqAll K F xs ds → Dq K F (.ref a) (.tuple ds)
inductive DqAll (K : PySem.W.Frag) (F : Hp) : List V → List PyData → Prop
  | nil : DqAll K F [] []
  | cons {v : V} {vs : List V} {d : PyData} {ds : List PyData} : Dq K F v d → DqAll K F vs ds → DqAll K F (v :: vs) (d :: ds)
end
mutual
theorem dqMono {K : PySem.W.Frag} {F F' : Hp} (e : Same F F') : ∀ {v : V} {d : PyData}, Dq K F v d → Dq K F' v d
  | _, _, .non => .non
  | _, _, .bl b => .bl b
  | _, _, .int i => .int i
  | _, _, .str x => .str x
  | _, _, .lst h r => .lst (e _ _ h) (dqMonoAll e r)
  | _, _, .tup h r => .tup (Same.seqT e h) (dqMonoAll e r)
theorem dqMonoAll {K : PySem.W.Frag} {F F' : Hp} (e : Same F F') : ∀ {vs : List V} {ds : List PyData}, DqAll K F vs ds → DqAll K F' vs ds
  | _, _, .nil => .nil
  | _, _, .cons h r => .cons (dqMono e h) (dqMonoAll e r)
end
mutual
theorem Dq.dp {K : PySem.W.Frag} {F : Hp} : ∀ {v : V} {d : PyData}, Dq K F v d → Dp K F v d
  | _, _, .non => .non
  | _, _, .bl b => .bl b
  | _, _, .int i => .int i
  | _, _, .str x => .str x
  | _, _, .lst h r => .lst (SqL.of h) (DqAll.dp r)
  | _, _, .tup h r => .tup h (DqAll.dp r)
theorem DqAll.dp {K : PySem.W.Frag} {F : Hp} : ∀ {vs : List V} {ds : List PyData}, DqAll K F vs ds → DpAll K F vs ds
  | _, _, .nil => .nil
  | _, _, .cons h r => .cons (Dq.dp h) (DqAll.dp r)
end

section
variable {K : PySem.W.Frag} {F F' : Hp}
theorem dqAll_len : ∀ {vs : List V} {ds : List PyData}, DqAll K F vs ds → vs.length = ds.length
  | _, _, .nil => rfl
  | _, _, .cons _ r => by rw [List.length_cons, List.length_cons, dqAll_len r]
theorem dqAll_at : ∀ {vs : List V} {ds : List PyData}, DqAll K F vs ds → ∀ {i : Nat} {v : V} {d : PyData}, vs[i]? = some v → ds[i]? = some d → Dq K F v d
  | _, _, .nil, i, v, d, h1, h2 => by simp at h1
  | _, _, .cons h r, 0, v, d, h1, h2 => by
    simp at h1 h2
    subst h1 h2
    exact h
  | _, _, .cons h r, i + 1, v, d, h1, h2 => dqAll_at r (i := i) (by simpa using h1) (by simpa using h2)
theorem dqAll_of : ∀ {vs : List V} {ds : List PyData}, vs.length = ds.length → (∀ (i : Nat) (v : V) (d : PyData), vs[i]? = some v → ds[i]? = some d → Dq K F v d) → DqAll K F vs ds
  | [], [], _, _ => .nil
  | [], _ :: _, h, _ => by simp at h
  | _ :: _, [], h, _ => by simp at h
  | v :: vs, d :: ds, h, p => .cons (p 0 v d rfl rfl) (dqAll_of (by simpa using h) fun i a b h1 h2 => p (i + 1) a b (by simpa using h1) (by simpa using h2))
theorem dqAll_get {vs : List V} {ds : List PyData} (h : DqAll K F vs ds) {i : Nat} {d : PyData} (e : ds[i]? = some d) : ∃ v, vs[i]? = some v ∧ Dq K F v d := by
  have hl := dqAll_len h
  obtain ⟨hi, _⟩ := List.getElem?_eq_some_iff.mp e
  have q : vs[i]? = some vs[i] := List.getElem?_eq_getElem (by omega)
  exact ⟨_, q, dqAll_at h q e⟩
theorem dqAll_app {vs ws : List V} {ds es : List PyData} (h : DqAll K F vs ds) (h' : DqAll K F ws es) : DqAll K F (vs ++ ws) (ds ++ es) := by
  have h1 := dqAll_len h
  have h2 := dqAll_len h'
  refine dqAll_of (by simp [h1, h2]) fun i v d e1 e2 => ?_
  by_cases hi : i < vs.length
  · rw [List.getElem?_append_left hi] at e1
    rw [List.getElem?_append_left (by omega)] at e2
    exact dqAll_at h e1 e2
  · rw [List.getElem?_append_right (by omega)] at e1
    rw [List.getElem?_append_right (by omega), ← h1] at e2
    exact dqAll_at h' e1 e2
theorem dqAll_drop {vs : List V} {ds : List PyData} (n : Nat) (h : DqAll K F vs ds) : DqAll K F (vs.drop n) (ds.drop n) := by
  have h1 := dqAll_len h
  refine dqAll_of (by simp [h1]) fun i v d e1 e2 => ?_
  rw [List.getElem?_drop] at e1 e2
  exact dqAll_at h e1 e2
theorem dqAll_take {vs : List V} {ds : List PyData} (n : Nat) (h : DqAll K F vs ds) : DqAll K F (vs.take n) (ds.take n) := by
  have h1 := dqAll_len h
  refine dqAll_of (by simp [h1]) fun i v d e1 e2 => ?_
  rw [List.getElem?_take] at e1 e2
  split at e1
  · rename_i hi
    rw [if_pos hi] at e2
    exact dqAll_at h e1 e2
  · cases e1
theorem dqAll_rev {vs : List V} {ds : List PyData} (h : DqAll K F vs ds) : DqAll K F vs.reverse ds.reverse := by
  have h1 := dqAll_len h
  refine dqAll_of (by simp [h1]) fun i v d e1 e2 => ?_
  have hi : i < vs.length := by
    have q := (List.getElem?_eq_some_iff.mp e1).1
    simpa using q
  rw [List.getElem?_reverse hi] at e1
  rw [List.getElem?_reverse (by omega), ← h1] at e2
  exact dqAll_at h e1 e2
theorem dqAll_set {vs : List V} {ds : List PyData} {v : V} {d : PyData} (j : Nat) (h : DqAll K F vs ds) (x : Dq K F v d) : DqAll K F (vs.set j v) (ds.set j d) := by
  have h1 := dqAll_len h
  refine dqAll_of (by simp [h1]) fun i a b e1 e2 => ?_
  rw [List.getElem?_set] at e1 e2
  by_cases hj : j = i
  · rw [if_pos hj] at e1 e2
    subst hj
    by_cases hl : j < vs.length
    · rw [if_pos hl] at e1
      rw [if_pos (by omega)] at e2
      cases e1
      cases e2
      exact x
    · rw [if_neg hl] at e1
      cases e1
  · rw [if_neg hj] at e1 e2
    exact dqAll_at h e1 e2
theorem dqAll_rep {vs : List V} {ds : List PyData} (h : DqAll K F vs ds) : ∀ k : Nat, DqAll K F (List.replicate k vs).flatten (List.replicate k ds).flatten
  | 0 => .nil
  | k + 1 => by
    rw [List.replicate_succ, List.replicate_succ, List.flatten_cons, List.flatten_cons]
    exact dqAll_app h (dqAll_rep h k)
theorem dqAll_erase {vs : List V} {ds : List PyData} (j : Nat) (h : DqAll K F vs ds) : DqAll K F (vs.eraseIdx j) (ds.eraseIdx j) := by
  rw [List.eraseIdx_eq_take_drop_succ, List.eraseIdx_eq_take_drop_succ]
  exact dqAll_app (dqAll_take j h) (dqAll_drop _ h)
theorem dqAll_one {v : V} {d : PyData} (h : Dq K F v d) : DqAll K F [v] [d] := .cons h .nil
theorem dqAll_ints : ∀ (ns : List Int), DqAll K F (ns.map V.int) (ns.map PyData.int)
  | [] => .nil
  | n :: r => .cons (.int n) (dqAll_ints r)
theorem dqAll_ints_inv : ∀ {vs : List V} {ns : List Int}, DqAll K F vs (ns.map PyData.int) → vs = ns.map V.int
  | _, [], .nil => rfl
  | _, n :: r, .cons h t => by
    cases h
    rw [dqAll_ints_inv t]
    rfl
theorem dqAll_bools_inv : ∀ {vs : List V} {bs : List Bool}, DqAll K F vs (bs.map PyData.bool) → vs = bs.map V.bl
  | _, [], .nil => rfl
  | _, n :: r, .cons h t => by
    cases h
    rw [dqAll_bools_inv t]
    rfl
end

/-! ### the relation between the two worlds -/
/-- dict entries: the same keys, the values represented -/
def KvRep {κ : Type} (K : PySem.W.Frag) (F : Hp) (vs : List (κ × V)) (ds : List (κ × PyData)) : Prop := vs.map (·.1) = ds.map (·.1) ∧ DqAll K F (vs.map (·.2)) (ds.map (·.2))
def CelOk (K : PySem.W.Frag) (F H : Hp) (a : Addr) : Cel → Prop
  | .lst xs => F a = none ∧ ∃ vs, H a = some (.lst vs) ∧ DqAll K F vs xs
  | .dk kvs => F a = none ∧ ∃ vs, H a = some (.dK vs) ∧ KvRep K F vs kvs
  | .dt kvs => F a = none ∧ ∃ vs, H a = some (.dT vs) ∧ KvRep K F vs kvs
  | .frz xs => ∃ vs, F a = some (.lst vs) ∧ H a = some (.lst vs) ∧ DqAll K F vs xs
theorem CelOk.there {K : PySem.W.Frag} {F H : Hp} {a : Addr} {c : Cel} (h : CelOk K F H a c) : ∃ o, H a = some o := by
  cases c with
  | lst xs => exact let ⟨_, vs, e, _⟩ := h; ⟨_, e⟩
  | dk xs => exact let ⟨_, vs, e, _⟩ := h; ⟨_, e⟩
  | dt xs => exact let ⟨_, vs, e, _⟩ := h; ⟨_, e⟩
  | frz xs => exact let ⟨vs, _, e, _⟩ := h; ⟨_, e⟩
/-- F: what never changes any more; α: where the store's cells stand -/
structure Rel (K : PySem.W.Frag) (F : Hp) (α : List Addr) (μ : Mu) (H : Hp) : Prop where
  sub : Same F H
  len : α.length = μ.length
  nd : α.Nodup
  cell : ∀ (k : Nat) (a : Addr) (c : Cel), α[k]? = some a → μ[k]? = some c → CelOk K F H a c
def RW (K : PySem.W.Frag) (F : Hp) (α : List Addr) (v : V) : SV → Prop
  | .d x => Dq K F v x
  | .loc k => ∃ a, v = .ref a ∧ α[k]? = some a
  | .scr ns => ∃ a, v = .ref a ∧ SqL K F a (ns.map V.int)
structure RS (K : PySem.W.Frag) (F : Hp) (α : List Addr) (σ : Sl) (τ : L2.St) : Prop where
  len : σ.length = τ.length
  get : ∀ (i : Nat) (w : SV), σ[i]? = some (some w) → ∃ v, τ[i]? = some (some v) ∧ RW K F α v w
/-- data stay data, cells stay where they are, and what neither is stays as it is -/
structure Ext (F : Hp) (α : List Addr) (H : Hp) (F' : Hp) (α' : List Addr) (H' : Hp) : Prop where
  same : Same F F'
  pre : ∃ β, α' = α ++ β
  frm : ∀ p, H p ≠ none → F p = none → p ∉ α → H' p = H p ∧ F' p = none ∧ p ∉ α'
  there : ∀ p, H p ≠ none → H' p ≠ none
theorem Ext.refl (F : Hp) (α : List Addr) (H : Hp) : Ext F α H F α H := ⟨Same.refl F, ⟨[], (List.append_nil α).symm⟩, fun _ _ h1 h2 => ⟨rfl, h1, h2⟩, fun _ h => h⟩
theorem Ext.trans {F F1 F2 H H1 H2 : Hp} {α α1 α2 : List Addr} (a : Ext F α H F1 α1 H1) (b : Ext F1 α1 H1 F2 α2 H2) : Ext F α H F2 α2 H2 := by
  obtain ⟨s1, ⟨β1, rfl⟩, f1, t1⟩ := a
  obtain ⟨s2, ⟨β2, rfl⟩, f2, t2⟩ := b
  refine ⟨s1.trans s2, ⟨β1 ++ β2, List.append_assoc _ _ _⟩, fun p h0 h1 h2 => ?_, fun p h => t2 p (t1 p h)⟩
  obtain ⟨a1, a2, a3⟩ := f1 p h0 h1 h2
  obtain ⟨b1, b2, b3⟩ := f2 p (by rw [a1]; exact h0) a2 a3
  exact ⟨b1.trans a1, b2, b3⟩
section
variable {F F1 H H1 : Hp} {α α1 : List Addr} {p : Addr} {o : HO}
theorem Ext.new (e : Ext F α H F1 α1 H1) (h : H1 p = none) : H p = none := by
  cases q : H p with
  | none => rfl
  | some x => exact absurd h (e.there p (by rw [q]; exact fun z => nomatch z))
theorem Ext.freeze (e : Ext F α H F1 α1 H1) (hN : H p = none) (hF : F1 p = none) : Ext F α H (upd F1 p o) α1 H1 :=
  ⟨e.same.trans fun b x q => by rw [upd_ne (ne_of_none q hF)]; exact q, e.pre, fun b h0 h1 h2 => by
    obtain ⟨a1, a2, a3⟩ := e.frm b h0 h1 h2
    exact ⟨a1, by rw [upd_ne fun z => h0 (by rw [z]; exact hN)]; exact a2, a3⟩, e.there⟩
theorem Ext.own (e : Ext F α H F1 α1 H1) (hN : H p = none) : Ext F α H F1 (α1 ++ [p]) H1 := by
  obtain ⟨s1, ⟨β1, rfl⟩, f1, t1⟩ := e
  refine ⟨s1, ⟨β1 ++ [p], List.append_assoc _ _ _⟩, fun b h0 h1 h2 => ?_, t1⟩
  obtain ⟨a1, a2, a3⟩ := f1 b h0 h1 h2
  refine ⟨a1, a2, fun z => ?_⟩
  rcases List.mem_append.mp z with z | z
  · exact a3 z
  · have : b = p := by simpa using z
    exact h0 (by rw [this]; exact hN)
theorem Ext.poke (e : Ext F α H F1 α1 H1) (hN : H p = none) : Ext F α H F1 α1 (upd H1 p o) :=
  ⟨e.same, e.pre, fun b h0 h1 h2 => by
    obtain ⟨a1, a2, a3⟩ := e.frm b h0 h1 h2
    exact ⟨by rw [upd_ne fun z => h0 (by rw [z]; exact hN)]; exact a1, a2, a3⟩, fun b h => by
    by_cases hb : b = p
    · rw [hb, upd_same]
      exact fun z => nomatch z
    · rw [upd_ne hb]
      exact e.there b h⟩
end
theorem Ext.at {F F' H H' : Hp} {α α' : List Addr} (e : Ext F α H F' α' H') {k : Nat} {a : Addr} (h : α[k]? = some a) : α'[k]? = some a := by
  obtain ⟨_, ⟨β, rfl⟩, _, _⟩ := e
  rw [List.getElem?_append_left (List.getElem?_eq_some_iff.mp h).1]
  exact h
theorem Ext.len {F F' H H' : Hp} {α α' : List Addr} (e : Ext F α H F' α' H') : α.length ≤ α'.length := by
  obtain ⟨_, ⟨β, rfl⟩, _, _⟩ := e
  rw [List.length_append]
  omega
theorem RW.ofD {K : PySem.W.Frag} {F : Hp} {α : List Addr} {v : V} {d : PyData} (h : Dq K F v d) : RW K F α v (.d d) := h
theorem RW.mono {K : PySem.W.Frag} {F F' H H' : Hp} {α α' : List Addr} {v : V} {w : SV} (h : RW K F α v w) (e : Ext F α H F' α' H') : RW K F' α' v w := by
  cases w with
  | d x => exact dqMono e.same h
  | loc k => exact let ⟨a, e1, e2⟩ := h; ⟨a, e1, e.at e2⟩
  | scr ns => exact let ⟨a, e1, e2⟩ := h; ⟨a, e1, e.same.seq e2⟩
theorem RS.mono {K : PySem.W.Frag} {F F' H H' : Hp} {α α' : List Addr} {σ : Sl} {τ : L2.St} (h : RS K F α σ τ) (e : Ext F α H F' α' H') : RS K F' α' σ τ :=
  ⟨h.len, fun i w q => let ⟨v, a, b⟩ := h.get i w q; ⟨v, a, b.mono e⟩⟩
theorem RS.set {K : PySem.W.Frag} {F : Hp} {α : List Addr} {σ : Sl} {τ : L2.St} (h : RS K F α σ τ) (i : Nat) {v : V} {w : SV} (r : RW K F α v w) : RS K F α (σ.set i (some w)) (τ.set i (some v)) := by
  refine ⟨by simp [h.len], fun j x q => ?_⟩
  rw [List.getElem?_set] at q
  by_cases hj : i = j
  · rw [if_pos hj] at q
    subst hj
    by_cases hl : i < σ.length
    · rw [if_pos hl] at q
      cases q
      exact ⟨v, by rw [List.getElem?_set_self (by rw [← h.len]; exact hl)], r⟩
    · rw [if_neg hl] at q
      cases q
  · rw [if_neg hj] at q
    obtain ⟨u, a, b⟩ := h.get j x q
    exact ⟨u, by rw [List.getElem?_set_ne hj]; exact a, b⟩
theorem RS.unset {K : PySem.W.Frag} {F : Hp} {α : List Addr} {σ : Sl} {τ : L2.St} (h : RS K F α σ τ) (i : Nat) {o : Option V} : RS K F α (σ.set i none) (τ.set i o) := by
  refine ⟨by simp [h.len], fun j x q => ?_⟩
  rw [List.getElem?_set] at q
  by_cases hj : i = j
  · rw [if_pos hj] at q
    split at q <;> cases q
  · rw [if_neg hj] at q
    obtain ⟨u, a, b⟩ := h.get j x q
    exact ⟨u, by rw [List.getElem?_set_ne hj]; exact a, b⟩

section
variable {K : PySem.W.Frag} {F F' H H' : Hp} {α : List Addr} {μ : Mu} {p : Addr} {o : HO}
theorem same_upd {H : Hp} {p : Addr} {o : HO} (h : H p = none) : Same H (upd H p o) := fun b x e => by
  rw [upd_ne (ne_of_none e h)]
  exact e
theorem Rel.ne (R : Rel K F α μ H) (h : H p = none) : p ∉ α := fun hm => by
  obtain ⟨k, hk, e⟩ := List.mem_iff_getElem.mp hm
  have e1 : α[k]? = some p := by rw [List.getElem?_eq_getElem hk, e]
  have hk2 : k < μ.length := by rw [← R.len]; exact hk
  have e2 : μ[k]? = some μ[k] := List.getElem?_eq_getElem hk2
  obtain ⟨o, q⟩ := (R.cell k p _ e1 e2).there
  rw [h] at q
  cases q
theorem CelOk.keep {a : Addr} {c : Cel} (h : CelOk K F H a c) (e : Same F F') (hf : F a = none → F' a = none) (hh : H' a = H a) : CelOk K F' H' a c := by
  cases c with
  | lst xs => exact let ⟨f, vs, e1, d⟩ := h; ⟨hf f, vs, hh.trans e1, dqMonoAll e d⟩
  | dk xs => exact let ⟨f, vs, e1, k, d⟩ := h; ⟨hf f, vs, hh.trans e1, k, dqMonoAll e d⟩
  | dt xs => exact let ⟨f, vs, e1, k, d⟩ := h; ⟨hf f, vs, hh.trans e1, k, dqMonoAll e d⟩
  | frz xs => exact let ⟨vs, f, e1, d⟩ := h; ⟨vs, e _ _ f, hh.trans e1, dqMonoAll e d⟩
/-- a new object that nobody knows of yet -/
theorem Rel.aside (R : Rel K F α μ H) (h : H p = none) : Rel K F α μ (upd H p o) :=
  ⟨R.sub.trans (same_upd h), R.len, R.nd, fun k a c e1 e2 => (R.cell k a c e1 e2).keep (Same.refl F) (fun z => z) (upd_ne fun z => R.ne h (by rw [← z]; exact List.mem_of_getElem? e1))⟩
theorem ext_aside (h : H p = none) : Ext F α H F α (upd H p o) := (Ext.refl F α H).poke h
theorem Rel.poke (R : Rel K F α μ H) (h : F p = none) (hA : p ∉ α) : Rel K F α μ (upd H p o) :=
  ⟨fun b x e => by rw [upd_ne (ne_of_none e h)]; exact R.sub b x e, R.len, R.nd, fun k a c e1 e2 => (R.cell k a c e1 e2).keep (Same.refl F) (fun z => z) (upd_ne fun z => hA (by rw [← z]; exact List.mem_of_getElem? e1))⟩
/-- what stands aside becomes data -/
theorem Rel.freeze (R : Rel K F α μ H) (hp : H p = some o) (hF : F p = none) (hA : p ∉ α) : Rel K (upd F p o) α μ H := by
  have s : Same F (upd F p o) := same_upd hF
  refine ⟨fun b x e => ?_, R.len, R.nd, fun k a c e1 e2 => (R.cell k a c e1 e2).keep s (fun z => ?_) rfl⟩
  · by_cases hb : b = p
    · subst hb
      rw [upd_same] at e
      cases e
      exact hp
    · rw [upd_ne hb] at e
      exact R.sub b x e
  · rw [upd_ne fun z => hA (by rw [← z]; exact List.mem_of_getElem? e1)]
    exact z
theorem free_of (R : Rel K F α μ H) (h : H p = none) : F p = none := Same.free R.sub h
/-- a new object becomes data at once -/
theorem Rel.fresh (R : Rel K F α μ H) (h : H p = none) : Rel K (upd F p o) α μ (upd H p o) ∧ Ext F α H (upd F p o) α (upd H p o) :=
  ⟨(R.aside (o := o) h).freeze upd_same (free_of R h) (R.ne h), (ext_aside h).freeze h (free_of R h)⟩
/-- what stands aside becomes a cell -/
theorem Rel.own {c : Cel} (R : Rel K F α μ H) (hc : CelOk K F H p c) (hA : p ∉ α) : Rel K F (α ++ [p]) (μ ++ [c]) H := by
  refine ⟨R.sub, by simp [R.len], ?_, fun k a x e1 e2 => ?_⟩
  · rw [List.nodup_append]
    refine ⟨R.nd, by simp, fun a ha b hb => ?_⟩
    have : b = p := by simpa using hb
    subst this
    exact fun z => hA (by rw [← z]; exact ha)
  · by_cases hk : k < α.length
    · rw [List.getElem?_append_left hk] at e1
      rw [List.getElem?_append_left (by rw [← R.len]; exact hk)] at e2
      exact R.cell k a x e1 e2
    · have hk2 : k = α.length := by
        have := (List.getElem?_eq_some_iff.mp e1).1
        simp at this
        omega
      subst hk2
      rw [List.getElem?_append_right (Nat.le_refl _)] at e1
      rw [List.getElem?_append_right (by rw [← R.len]; exact Nat.le_refl _), R.len] at e2
      simp at e1 e2
      subst e1 e2
      exact hc
/-- a cell's content is replaced -/
theorem Rel.put {k : Nat} {a : Addr} {c : Cel} {o : HO} (R : Rel K F α μ H) (hk : α[k]? = some a) (hF : F a = none) (hc : CelOk K F (upd H a o) a c) : Rel K F α (μ.set k c) (upd H a o) := by
  refine ⟨fun b x e => ?_, by simp [R.len], R.nd, fun j b x e1 e2 => ?_⟩
  · rw [upd_ne fun z => by rw [z, hF] at e; cases e]
    exact R.sub b x e
  · rw [List.getElem?_set] at e2
    by_cases hj : k = j
    · rw [if_pos hj] at e2
      subst hj
      rw [hk] at e1
      cases e1
      split at e2
      · cases e2
        exact hc
      · cases e2
    · rw [if_neg hj] at e2
      refine (R.cell j b x e1 e2).keep (Same.refl F) (fun z => z) (upd_ne fun z => hj ?_)
      subst z
      obtain ⟨h1, h2⟩ := List.getElem?_eq_some_iff.mp hk
      obtain ⟨h3, h4⟩ := List.getElem?_eq_some_iff.mp e1
      exact (List.nodup_iff_pairwise_ne.mp R.nd |> fun P => by
        by_cases hlt : k < j
        · exact absurd (h2.trans h4.symm) (List.pairwise_iff_getElem.mp P k j h1 h3 hlt)
        · exact absurd (h4.trans h2.symm) (List.pairwise_iff_getElem.mp P j k h3 h1 (by omega)))
/-- a cell becomes data -/
theorem Rel.seal {k : Nat} {a : Addr} {xs : List PyData} (R : Rel K F α μ H) (hk : α[k]? = some a) (hm : μ[k]? = some (.lst xs)) :
    ∃ F', Rel K F' α (μ.set k (.frz xs)) H ∧ Ext F α H F' α H ∧ Dq K F' (.ref a) (.list xs) := by
  obtain ⟨hF, vs, hH, hd⟩ := R.cell k a _ hk hm
  have s : Same F (upd F a (.lst vs)) := same_upd hF
  refine ⟨upd F a (.lst vs), ⟨fun b x e => ?_, by simp [R.len], R.nd, fun j b x e1 e2 => ?_⟩, ⟨s, ⟨[], (List.append_nil α).symm⟩, fun b h0 h1 h2 => ⟨rfl, by rw [upd_ne fun z => h2 (by rw [z]; exact List.mem_of_getElem? hk)]; exact h1, h2⟩, fun _ h => h⟩, .lst upd_same (dqMonoAll s hd)⟩
  · by_cases hb : b = a
    · subst hb
      rw [upd_same] at e
      cases e
      exact hH
    · rw [upd_ne hb] at e
      exact R.sub b x e
  · rw [List.getElem?_set] at e2
    by_cases hj : k = j
    · rw [if_pos hj] at e2
      subst hj
      rw [hk] at e1
      cases e1
      split at e2
      · cases e2
        exact ⟨vs, upd_same, hH, dqMonoAll s hd⟩
      · cases e2
    · rw [if_neg hj] at e2
      refine (R.cell j b x e1 e2).keep s (fun z => ?_) rfl
      rw [upd_ne]
      · exact z
      · intro z
        subst z
        obtain ⟨h1, h2⟩ := List.getElem?_eq_some_iff.mp hk
        obtain ⟨h3, h4⟩ := List.getElem?_eq_some_iff.mp e1
        have P := List.nodup_iff_pairwise_ne.mp R.nd
        by_cases hlt : k < j
        · exact absurd (h2.trans h4.symm) (List.pairwise_iff_getElem.mp P k j h1 h3 hlt)
        · exact absurd (h4.trans h2.symm) (List.pairwise_iff_getElem.mp P j k h3 h1 (by omega))
theorem ext_put {k : Nat} {a : Addr} (hk : α[k]? = some a) : Ext F α H F α (upd H a o) :=
  ⟨Same.refl F, ⟨[], (List.append_nil α).symm⟩, fun b h0 h1 h2 => ⟨upd_ne fun z => h2 (by rw [z]; exact List.mem_of_getElem? hk), h1, h2⟩, fun b h => by
    by_cases hb : b = a
    · rw [hb, upd_same]
      exact fun z => nomatch z
    · rw [upd_ne hb]
      exact h⟩
/-- the newest cells are forgotten -/
theorem Rel.cut (R : Rel K F α μ H) (n : Nat) : Rel K F (α.take n) (μ.take n) H := by
  refine ⟨R.sub, by simp [R.len], R.nd.sublist (List.take_sublist _ _), fun k a c e1 e2 => ?_⟩
  rw [List.getElem?_take] at e1 e2
  split at e1
  · rename_i hk
    rw [if_pos hk] at e2
    exact R.cell k a c e1 e2
  · cases e1
end

/-- a sequence as it is seen: tuple or list, its items -/
def view (μ : Mu) : SV → Option (Bool × List PyData)
  | .d (.tuple xs) => some (true, xs)
  | .d (.list xs) => some (false, xs)
  | .d _ => none
  | .loc k => match μ[k]? with
    | some (.lst xs) => some (false, xs)
    | some (.frz xs) => some (false, xs)
    | _ => none
  | .scr _ => none
section
variable {K : PySem.W.Frag} {F H : Hp} {α : List Addr} {μ : Mu} {v : V} {w : SV} {xs : List PyData}
theorem view_list (R : Rel K F α μ H) (r : RW K F α v w) (h : view μ w = some (false, xs)) : ∃ a vs, v = .ref a ∧ H a = some (.lst vs) ∧ DqAll K F vs xs := by
  cases w with
  | d x =>
    cases x <;> simp [view] at h
    subst h
    cases r with
    | lst hs ha => exact ⟨_, _, rfl, R.sub _ _ hs, ha⟩
  | loc k =>
    obtain ⟨a, rfl, ha⟩ := r
    simp only [view] at h
    split at h
    · rename_i ys e
      cases h
      obtain ⟨_, vs, e1, d⟩ := R.cell k a _ ha e
      exact ⟨a, vs, rfl, e1, d⟩
    · rename_i ys e
      cases h
      obtain ⟨vs, _, e1, d⟩ := R.cell k a _ ha e
      exact ⟨a, vs, rfl, e1, d⟩
    · cases h
  | scr ns => cases h
theorem view_tup (R : Rel K F α μ H) (r : RW K F α v w) (h : view μ w = some (true, xs)) : ∃ a vs, v = .ref a ∧ SqT K H a vs ∧ DqAll K F vs xs := by
  cases w with
  | d x =>
    cases x <;> simp [view] at h
    subst h
    cases r with
    | tup hs ha => exact ⟨_, _, rfl, Same.seqT R.sub hs, ha⟩
  | loc k =>
    simp only [view] at h
    split at h <;> cases h
  | scr ns => cases h
end
end DL
namespace DL
open PySem PySem.Spec PyProof.Rows L2

/-! ### judgements -/
abbrev KD := SV → Mu → Prop
abbrev DE := Sl → Mu → KD → Prop
abbrev DT := Sl → Mu → (Bool → Mu → Prop) → Prop
abbrev DA := Sl → Mu → (List SV → Mu → Prop) → Prop
/-- a new list (not yet data, not yet a cell) -/
abbrev DN := Sl → Mu → (List PyData → Mu → Prop) → Prop
structure DEnds where
  nx : Sl → Mu → Prop
  rt : KD
  bk : Sl → Mu → Prop
  ct : Sl → Mu → Prop
abbrev DS := DEnds → Sl → Mu → Prop
structure S0 (K : PySem.W.Frag) (F : Hp) (α : List Addr) (σ : Sl) (μ : Mu) (τ : L2.St) (H : Hp) : Prop where
  rel : Rel K F α μ H
  sl : RS K F α σ τ
def CtE (K : PySem.W.Frag) (F : Hp) (α : List Addr) (H : Hp) (Q : KD) (Q' : VK) : Prop := ∀ F' α' μ' H' v x, Ext F α H F' α' H' → Rel K F' α' μ' H' → RW K F' α' v x → Q x μ' → Q' v H'
def CtT (K : PySem.W.Frag) (F : Hp) (α : List Addr) (H : Hp) (Q : Bool → Mu → Prop) (Q' : Bool → Hp → Prop) : Prop := ∀ F' α' μ' H' b, Ext F α H F' α' H' → Rel K F' α' μ' H' → Q b μ' → Q' b H'
inductive RWs (K : PySem.W.Frag) (F : Hp) (α : List Addr) : List V → List SV → Prop
  | nil : RWs K F α [] []
  | cons {v : V} {vs : List V} {x : SV} {xs : List SV} : RW K F α v x → RWs K F α vs xs → RWs K F α (v :: vs) (x :: xs)
def CtA (K : PySem.W.Frag) (F : Hp) (α : List Addr) (H : Hp) (Q : List SV → Mu → Prop) (Q' : List V → Hp → Prop) : Prop := ∀ F' α' μ' H' vs xs, Ext F α H F' α' H' → Rel K F' α' μ' H' → RWs K F' α' vs xs → Q xs μ' → Q' vs H'
def CtN (K : PySem.W.Frag) (F : Hp) (α : List Addr) (H : Hp) (Q : List PyData → Mu → Prop) (Q' : VK) : Prop :=
  ∀ F' α' μ' H' p vs xs, Ext F α H F' α' H' → Rel K F' α' μ' H' → H' p = some (.lst vs) → H p = none → F' p = none → p ∉ α' → DqAll K F' vs xs → Q xs μ' → Q' (.ref p) H'
structure CtS (K : PySem.W.Frag) (F : Hp) (α : List Addr) (H : Hp) (D : DEnds) (D' : Ends) : Prop where
  nx : ∀ F' α' σ' μ' τ' H', Ext F α H F' α' H' → S0 K F' α' σ' μ' τ' H' → D.nx σ' μ' → D'.nx τ' H'
  rt : CtE K F α H D.rt D'.rt
  bk : ∀ F' α' σ' μ' τ' H', Ext F α H F' α' H' → S0 K F' α' σ' μ' τ' H' → D.bk σ' μ' → D'.bk τ' H'
  ct : ∀ F' α' σ' μ' τ' H', Ext F α H F' α' H' → S0 K F' α' σ' μ' τ' H' → D.ct σ' μ' → D'.ct τ' H'
def SimE (K : PySem.W.Frag) (t : TE) (w : DE) : Prop := ∀ F α σ μ τ H Q Q', S0 K F α σ μ τ H → w σ μ Q → CtE K F α H Q Q' → t τ H Q'
def SimT (K : PySem.W.Frag) (t : TT) (w : DT) : Prop := ∀ F α σ μ τ H Q Q', S0 K F α σ μ τ H → w σ μ Q → CtT K F α H Q Q' → t τ H Q'
def SimA (K : PySem.W.Frag) (t : TA) (w : DA) : Prop := ∀ F α σ μ τ H Q Q', S0 K F α σ μ τ H → w σ μ Q → CtA K F α H Q Q' → t τ H Q'
def SimN (K : PySem.W.Frag) (t : TE) (w : DN) : Prop := ∀ F α σ μ τ H Q Q', S0 K F α σ μ τ H → w σ μ Q → CtN K F α H Q Q' → t τ H Q'
def SimS (K : PySem.W.Frag) (t : TS) (w : DS) : Prop := ∀ F α σ μ τ H D D', S0 K F α σ μ τ H → w D σ μ → CtS K F α H D D' → t D' τ H
structure DX (K : PySem.W.Frag) (X : Cx) (e : Expr) (t : TE) (w : DE) : Prop where
  pe : PE X e t
  sim : SimE K t w
structure DTt (K : PySem.W.Frag) (X : Cx) (e : Expr) (t : TT) (w : DT) : Prop where
  pt : PT X e t
  sim : SimT K t w
/-- a chain of and, or -/
structure DW (K : PySem.W.Frag) (X : Cx) (e : Expr) (t : TT) (w : DT) : Prop where
  pw : PW X e t
  sim : SimT K t w
structure DAa (K : PySem.W.Frag) (X : Cx) (es : List Expr) (t : TA) (w : DA) : Prop where
  pa : PA X es t
  sim : SimA K t w
structure DNn (K : PySem.W.Frag) (X : Cx) (e : Expr) (t : TE) (w : DN) : Prop where
  pe : PE X e t
  sim : SimN K t w
structure DSt (K : PySem.W.Frag) (X : Cx) (s : Stmt) (t : TS) (w : DS) : Prop where
  ps : PS X s t
  sim : SimS K t w
structure DSs (K : PySem.W.Frag) (X : Cx) (s : List Stmt) (t : TS) (w : DS) : Prop where
  ps : PSs X s t
  sim : SimS K t w

section
variable {K : PySem.W.Frag} {F F' F1 H H' H1 : Hp} {α α' α1 : List Addr} {σ : Sl} {μ μ' : Mu} {τ : L2.St}
theorem CtE.mono {Q : KD} {Q' : VK} (h : CtE K F α H Q Q') (e : Ext F α H F1 α1 H1) : CtE K F1 α1 H1 Q Q' := fun F' α' μ' H' v x e' => h F' α' μ' H' v x (e.trans e')
theorem CtT.mono {Q : Bool → Mu → Prop} {Q' : Bool → Hp → Prop} (h : CtT K F α H Q Q') (e : Ext F α H F1 α1 H1) : CtT K F1 α1 H1 Q Q' := fun F' α' μ' H' b e' => h F' α' μ' H' b (e.trans e')
theorem CtN.mono {Q : List PyData → Mu → Prop} {Q' : VK} (h : CtN K F α H Q Q') (e : Ext F α H F1 α1 H1) : CtN K F1 α1 H1 Q Q' := fun F' α' μ' H' p vs xs e' R hp hN => h F' α' μ' H' p vs xs (e.trans e') R hp (e.new hN)
theorem CtA.mono {Q : List SV → Mu → Prop} {Q' : List V → Hp → Prop} (h : CtA K F α H Q Q') (e : Ext F α H F1 α1 H1) : CtA K F1 α1 H1 Q Q' := fun F' α' μ' H' p vs e' => h F' α' μ' H' p vs (e.trans e')
theorem CtS.mono {D : DEnds} {D' : Ends} (h : CtS K F α H D D') (e : Ext F α H F1 α1 H1) : CtS K F1 α1 H1 D D' :=
  ⟨fun F' α' σ' μ' τ' H' e' => h.nx F' α' σ' μ' τ' H' (e.trans e'), h.rt.mono e, fun F' α' σ' μ' τ' H' e' => h.bk F' α' σ' μ' τ' H' (e.trans e'), fun F' α' σ' μ' τ' H' e' => h.ct F' α' σ' μ' τ' H' (e.trans e')⟩
theorem RWs.mono {vs : List V} {xs : List SV} (h : RWs K F α vs xs) (e : Ext F α H F' α' H') : RWs K F' α' vs xs := by
  induction h with
  | nil => exact .nil
  | cons r _ ih => exact .cons (r.mono e) ih
theorem RWs.len {vs : List V} {xs : List SV} (h : RWs K F α vs xs) : vs.length = xs.length := by
  induction h with
  | nil => rfl
  | cons r _ ih => rw [List.length_cons, List.length_cons, ih]
/-- give a value back where nothing changed -/
theorem CtE.same {Q : KD} {Q' : VK} (h : CtE K F α H Q Q') (R : Rel K F α μ H) {v : V} {x : SV} (r : RW K F α v x) (q : Q x μ) : Q' v H := h F α μ H v x (Ext.refl F α H) R r q
end

/-! ### names, constants -/
def dVar (i : Nat) : DE := fun σ μ Q => match σ[i]? with
  | some (some w) => Q w μ
  | _ => False
def dC (d : PyData) : DE := fun _ μ Q => Q (.d d) μ
section
variable {K : PySem.W.Frag} {X : Cx} {pos : Pos} {e a b c : Expr} {ta tb tc : TE} {wa wb wc : DE}
theorem dx_var (i : Nat) {x : Str} (hN : X.N[i]? = some x := by rfl) (hv : Vis X.env.scope x := by first | exact Or.inl rfl | exact Or.inr (Or.inl rfl) | exact Or.inr (Or.inr rfl)) (hd : (x == ("__debug__" : Str)) = false := by decide)
    (hcd : (x == ("__classdict__" : Str)) = false := by decide) : DX K X (.Name x pos) (tVar i) (dVar i) := by
  refine ⟨pe_var hN hv hd hcd, fun F α σ μ τ H Q Q' S h k => ?_⟩
  unfold dVar at h
  split at h
  · rename_i w q
    obtain ⟨v, e, r⟩ := S.sl.get i w q
    exact ⟨v, e, k.same S.rel r h⟩
  · cases h
/-- a mutable list read as a value: it becomes data, its cell is dead from here on -/
def dVarF (i : Nat) : DE := fun σ μ Q => match σ[i]? with
  | some (some (.loc k)) => (match μ[k]? with
    | some (.lst xs) => Q (.d (.list xs)) (μ.set k (.frz xs))
    | some (.frz xs) => Q (.d (.list xs)) μ
    | _ => False)
  | some (some w) => Q w μ
  | _ => False
theorem dx_varF (i : Nat) {x : Str} (hN : X.N[i]? = some x := by rfl) (hv : Vis X.env.scope x := by first | exact Or.inl rfl | exact Or.inr (Or.inl rfl) | exact Or.inr (Or.inr rfl)) (hd : (x == ("__debug__" : Str)) = false := by decide)
    (hcd : (x == ("__classdict__" : Str)) = false := by decide) : DX K X (.Name x pos) (tVar i) (dVarF i) := by
  refine ⟨pe_var hN hv hd hcd, fun F α σ μ τ H Q Q' S h k => ?_⟩
  unfold dVarF at h
  split at h
  · rename_i l q
    obtain ⟨v, e, a, rfl, ha⟩ := S.sl.get i _ q
    split at h
    · rename_i xs hm
      obtain ⟨F', R', E', r⟩ := S.rel.seal ha hm
      exact ⟨_, e, k F' α _ H _ _ E' R' (.ofD r) h⟩
    · rename_i xs hm
      obtain ⟨vs, f, _, d⟩ := S.rel.cell _ a _ ha hm
      exact ⟨_, e, k.same S.rel (.ofD (.lst f d)) h⟩
    · cases h
  · rename_i w _ q
    obtain ⟨v, e, r⟩ := S.sl.get i w q
    exact ⟨v, e, k.same S.rel r h⟩
  · cases h
theorem dx_int {i : Int} {j : Nat} : DX K X (.Constant (.int i) j pos) (tC (.int i)) (dC (.int i)) := ⟨pe_int, fun _ _ _ _ _ _ _ _ S h k => k.same S.rel (.ofD (.int i)) h⟩
theorem dx_bl {i : Bool} {j : Nat} : DX K X (.Constant (.bool i) j pos) (tC (.bl i)) (dC (.bool i)) := ⟨pe_bl, fun _ _ _ _ _ _ _ _ S h k => k.same S.rel (.ofD (.bl i)) h⟩
theorem dx_non {j : Nat} : DX K X (.Constant .none j pos) (tC .non) (dC .none) := ⟨pe_non, fun _ _ _ _ _ _ _ _ S h k => k.same S.rel (.ofD .non) h⟩
theorem dx_str {i : Str} {j : Nat} : DX K X (.Constant (.str i) j pos) (tC (.str i)) (dC (.str i)) := ⟨pe_str, fun _ _ _ _ _ _ _ _ S h k => k.same S.rel (.ofD (.str i)) h⟩
/-- a module's int -/
def IsGInt (mg : Str → Option Value) (x : Str) (i : Int) : Prop := ∃ t, mg x = some (.int i t)
theorem dx_gint {x : Str} {i : Int} (hm : IsGInt X.mg x i) (hg : Gl X x := by rfl) (hd : (x == ("__debug__" : Str)) = false := by decide) : DX K X (.Name x pos) (tC (.int i)) (dC (.int i)) :=
  ⟨let ⟨t, e⟩ := hm; pe_glob hg e ⟨t, rfl⟩ hd, fun _ _ _ _ _ _ _ _ S h k => k.same S.rel (.ofD (.int i)) h⟩

/-! ### operators -/
abbrev GO := SV → SV → Mu → KD → Prop
def SimO (K : PySem.W.Frag) (r : R2) (g : GO) : Prop := ∀ F α μ H v u x y Q Q', Rel K F α μ H → RW K F α v x → RW K F α u y → g x y μ Q → CtE K F α H Q Q' → r v u H Q'
structure DO (K : PySem.W.Frag) (X : Cx) (f : Value → Value → Sem Value) (r : R2) (g : GO) : Prop where
  op : OpR X f r
  sim : SimO K r g
def dOp (g : GO) (wa wb : DE) : DE := fun σ μ Q => wa σ μ fun x μ1 => wb σ μ1 fun y μ2 => g x y μ2 Q
theorem simOp {r : R2} {g : GO} (ho : SimO K r g) (ha : SimE K ta wa) (hb : SimE K tb wb) : SimE K (tOp r ta tb) (dOp g wa wb) := by
  intro F α σ μ τ H Q Q' S h k
  refine ha F α σ μ τ H _ _ S h fun F1 α1 μ1 H1 v x e1 R1 r1 q1 => ?_
  refine hb F1 α1 σ μ1 τ H1 _ _ ⟨R1, S.sl.mono e1⟩ q1 fun F2 α2 μ2 H2 u y e2 R2 r2 q2 => ?_
  exact ho F2 α2 μ2 H2 v u x y Q Q' R2 (r1.mono e2) r2 q2 (k.mono (e1.trans e2))
theorem dx_bin {op : Operator} {r : R2} {g : GO} (ho : DO K X (binaryOp op) r g) (ha : DX K X a ta wa) (hb : DX K X b tb wb) : DX K X (.BinOp a op b pos) (tOp r ta tb) (dOp g wa wb) :=
  ⟨pe_op ho.op ha.pe hb.pe, simOp ho.sim ha.sim hb.sim⟩
theorem dx_cmp {op : CmpOp} {r : R2} {g : GO} (ho : DO K X (compareOp op) r g) (ha : DX K X a ta wa) (hb : DX K X b tb wb) (hm : behindInMarks op b = false := by first | exact nomark _ | with_unfolding_all rfl) : DX K X (.Compare a [op] [b] pos) (tOp r ta tb) (dOp g wa wb) :=
  ⟨pe_cmpR ho.op ha.pe hb.pe hm, simOp ho.sim ha.sim hb.sim⟩
/-- a value that is a bool, as a test -/
def dB (w : DE) : DT := fun σ μ Q => w σ μ fun x μ1 => match x with
  | .d (.bool b) => Q b μ1
  | _ => False
theorem simB (ha : SimE K ta wa) : SimT K (tB ta) (dB wa) := by
  intro F α σ μ τ H Q Q' S h k
  refine ha F α σ μ τ H _ _ S h fun F1 α1 μ1 H1 v x e1 R1 r1 q1 => ?_
  split at q1
  · rename_i b
    cases r1
    exact ⟨b, rfl, k F1 α1 μ1 H1 b e1 R1 q1⟩
  · cases q1
theorem dt_cmp {op : CmpOp} {r : R2} {g : GO} (ho : DO K X (compareOp op) r g) (ha : DX K X a ta wa) (hb : DX K X b tb wb) (hm : behindInMarks op b = false := by first | exact nomark _ | with_unfolding_all rfl) : DTt K X (.Compare a [op] [b] pos) (tTest (tOp r ta tb)) (dB (dOp g wa wb)) :=
  ⟨pt_cmpR ho.op ha.pe hb.pe hm, simB (simOp ho.sim ha.sim hb.sim)⟩
theorem dt_val {w : DE} (h : DX K X e ta w) (he : ∀ whole, isTrue e X.env whole = (do let v ← whole; standAt e.pos; holding [v] (truthy v)) := by intro _; rfl) : DTt K X e (tB ta) (dB w) := ⟨pt_val h.pe he, simB h.sim⟩

/-- a op1 b op2 c -/
def dChain (g g' : GO) (wa wb wc : DE) : DE := fun σ μ Q => wa σ μ fun x μ1 => wb σ μ1 fun y μ2 => g x y μ2 fun z μ3 => match z with
  | .d (.bool k) => if k = true then wc σ μ3 fun u μ4 => g' y u μ4 Q else Q (.d (.bool false)) μ3
  | _ => False
theorem simChain {r r' : R2} {g g' : GO} (ho : SimO K r g) (ho' : SimO K r' g') (ha : SimE K ta wa) (hb : SimE K tb wb) (hc : SimE K tc wc) : SimE K (tChain r r' ta tb tc) (dChain g g' wa wb wc) := by
  intro F α σ μ τ H Q Q' S h k
  refine ha F α σ μ τ H _ _ S h fun F1 α1 μ1 H1 v x e1 R1 r1 q1 => ?_
  refine hb F1 α1 σ μ1 τ H1 _ _ ⟨R1, S.sl.mono e1⟩ q1 fun F2 α2 μ2 H2 u y e2 R2 r2 q2 => ?_
  refine ho F2 α2 μ2 H2 v u x y _ _ R2 (r1.mono e2) r2 q2 fun F3 α3 μ3 H3 z z' e3 R3 r3 q3 => ?_
  split at q3
  · rename_i b
    cases r3
    refine ⟨b, rfl, ?_⟩
    cases b with
    | false =>
      rw [if_neg Bool.false_ne_true] at q3 ⊢
      exact k.mono (e1.trans (e2.trans e3)) |>.same R3 (.ofD (.bl false)) q3
    | true =>
      rw [if_pos rfl] at q3 ⊢
      refine hc F3 α3 σ μ3 τ H3 _ _ ⟨R3, S.sl.mono (e1.trans (e2.trans e3))⟩ q3 fun F4 α4 μ4 H4 t y' e4 R4 r4 q4 => ?_
      exact ho' F4 α4 μ4 H4 u t y y' Q Q' R4 (r2.mono (e3.trans e4)) r4 q4 (k.mono (e1.trans (e2.trans (e3.trans e4))))
  · cases q3
theorem dx_chain {op op' : CmpOp} {r r' : R2} {g g' : GO} (ho : DO K X (compareOp op) r g) (ho' : DO K X (compareOp op') r' g') (ha : DX K X a ta wa) (hb : DX K X b tb wb) (hc : DX K X c tc wc) (hm : lastMarks [op, op'] [b, c] = false := by with_unfolding_all rfl) :
    DX K X (.Compare a [op, op'] [b, c] pos) (tChain r r' ta tb tc) (dChain g g' wa wb wc) := ⟨pe_chain ho.op ho'.op ha.pe hb.pe hc.pe hm, simChain ho.sim ho'.sim ha.sim hb.sim hc.sim⟩
theorem dt_chain {op op' : CmpOp} {r r' : R2} {g g' : GO} (ho : DO K X (compareOp op) r g) (ho' : DO K X (compareOp op') r' g') (ha : DX K X a ta wa) (hb : DX K X b tb wb) (hc : DX K X c tc wc) (hm : lastMarks [op, op'] [b, c] = false := by with_unfolding_all rfl) :
    DTt K X (.Compare a [op, op'] [b, c] pos) (tTest (tChain r r' ta tb tc)) (dB (dChain g g' wa wb wc)) := ⟨pt_chain ho.op ho'.op ha.pe hb.pe hc.pe hm, simB (simChain ho.sim ho'.sim ha.sim hb.sim hc.sim)⟩

/-! ### and, or, not, if -/
variable {t1 t2 : TT} {w1 w2 : DT} {rest : List Expr}
def dAnd (t u : DT) : DT := fun σ μ Q => t σ μ fun c μ1 => if c = true then u σ μ1 Q else Q false μ1
def dOr (t u : DT) : DT := fun σ μ Q => t σ μ fun c μ1 => if c = true then Q true μ1 else u σ μ1 Q
def dNot (t : DT) : DT := fun σ μ Q => t σ μ fun c μ1 => Q (!c) μ1
theorem DW.dt (h : DW K X e t1 w1) : DTt K X e t1 w1 := ⟨h.pw.pt, h.sim⟩
theorem dw_and1 (ha : DTt K X a t1 w1) : DW K X (.BoolOp .And [a] pos) t1 w1 := ⟨pw_and1 ha.pt, ha.sim⟩
theorem dw_or1 (ha : DTt K X a t1 w1) : DW K X (.BoolOp .Or [a] pos) t1 w1 := ⟨pw_or1 ha.pt, ha.sim⟩
theorem dw_and (ha : DTt K X a t1 w1) (hb : DW K X (.BoolOp .And (b :: rest) pos) t2 w2) : DW K X (.BoolOp .And (a :: b :: rest) pos) (tAnd t1 t2) (dAnd w1 w2) := by
  refine ⟨pw_and ha.pt hb.pw, fun F α σ μ τ H Q Q' S h k => ?_⟩
  refine ha.sim F α σ μ τ H _ _ S h fun F1 α1 μ1 H1 b e1 R1 q1 => ?_
  cases b with
  | true => exact hb.sim F1 α1 σ μ1 τ H1 Q Q' ⟨R1, S.sl.mono e1⟩ q1 (k.mono e1)
  | false => exact k F1 α1 μ1 H1 false e1 R1 q1
theorem dw_or (ha : DTt K X a t1 w1) (hb : DW K X (.BoolOp .Or (b :: rest) pos) t2 w2) : DW K X (.BoolOp .Or (a :: b :: rest) pos) (tOr t1 t2) (dOr w1 w2) := by
  refine ⟨pw_or ha.pt hb.pw, fun F α σ μ τ H Q Q' S h k => ?_⟩
  refine ha.sim F α σ μ τ H _ _ S h fun F1 α1 μ1 H1 b e1 R1 q1 => ?_
  cases b with
  | false => exact hb.sim F1 α1 σ μ1 τ H1 Q Q' ⟨R1, S.sl.mono e1⟩ q1 (k.mono e1)
  | true => exact k F1 α1 μ1 H1 true e1 R1 q1
theorem dt_not (ha : DTt K X a t1 w1) : DTt K X (.UnaryOp .Not a pos) (tNot t1) (dNot w1) :=
  ⟨pt_not ha.pt, fun F α σ μ τ H Q Q' S h k => ha.sim F α σ μ τ H _ _ S h fun F1 α1 μ1 H1 b e1 R1 q1 => k F1 α1 μ1 H1 (!b) e1 R1 q1⟩
/-- .. as values (bools) -/
def dAndV (wa wb : DE) : DE := fun σ μ Q => wa σ μ fun x μ1 => match x with
  | .d (.bool c) => if c = true then wb σ μ1 Q else Q (.d (.bool false)) μ1
  | _ => False
def dOrV (wa wb : DE) : DE := fun σ μ Q => wa σ μ fun x μ1 => match x with
  | .d (.bool c) => if c = true then Q (.d (.bool true)) μ1 else wb σ μ1 Q
  | _ => False
def dNotV (wa : DE) : DE := fun σ μ Q => wa σ μ fun x μ1 => match x with
  | .d (.bool c) => Q (.d (.bool (!c))) μ1
  | _ => False
theorem dx_one {op : BoolOp} (h : DX K X a ta wa) : DX K X (.BoolOp op [a] pos) ta wa := ⟨pe_one h.pe, h.sim⟩
theorem dx_and (ha : DX K X a ta wa) (hb : DX K X (.BoolOp .And (b :: rest) pos) tb wb) : DX K X (.BoolOp .And (a :: b :: rest) pos) (tAndV ta tb) (dAndV wa wb) := by
  refine ⟨pe_and ha.pe hb.pe, fun F α σ μ τ H Q Q' S h k => ?_⟩
  refine ha.sim F α σ μ τ H _ _ S h fun F1 α1 μ1 H1 v x e1 R1 r1 q1 => ?_
  split at q1
  · rename_i c
    cases r1
    refine ⟨c, rfl, ?_⟩
    cases c with
    | true => exact hb.sim F1 α1 σ μ1 τ H1 Q Q' ⟨R1, S.sl.mono e1⟩ q1 (k.mono e1)
    | false => exact k F1 α1 μ1 H1 _ _ e1 R1 (.ofD (.bl false)) q1
  · cases q1
theorem dx_or (ha : DX K X a ta wa) (hb : DX K X (.BoolOp .Or (b :: rest) pos) tb wb) : DX K X (.BoolOp .Or (a :: b :: rest) pos) (tOrV ta tb) (dOrV wa wb) := by
  refine ⟨pe_or ha.pe hb.pe, fun F α σ μ τ H Q Q' S h k => ?_⟩
  refine ha.sim F α σ μ τ H _ _ S h fun F1 α1 μ1 H1 v x e1 R1 r1 q1 => ?_
  split at q1
  · rename_i c
    cases r1
    refine ⟨c, rfl, ?_⟩
    cases c with
    | false => exact hb.sim F1 α1 σ μ1 τ H1 Q Q' ⟨R1, S.sl.mono e1⟩ q1 (k.mono e1)
    | true => exact k F1 α1 μ1 H1 _ _ e1 R1 (.ofD (.bl true)) q1
  · cases q1
theorem dx_not (ha : DX K X a ta wa) : DX K X (.UnaryOp .Not a pos) (tNotV ta) (dNotV wa) := by
  refine ⟨pe_not ha.pe, fun F α σ μ τ H Q Q' S h k => ?_⟩
  refine ha.sim F α σ μ τ H _ _ S h fun F1 α1 μ1 H1 v x e1 R1 r1 q1 => ?_
  split at q1
  · rename_i c
    cases r1
    exact ⟨c, rfl, k F1 α1 μ1 H1 _ _ e1 R1 (.ofD (.bl (!c))) q1⟩
  · cases q1
def dIf (w : DT) (wa wb : DE) : DE := fun σ μ Q => w σ μ fun c μ1 => if c = true then wa σ μ1 Q else wb σ μ1 Q
theorem dx_if (hc : DTt K X c t1 w1) (ha : DX K X a ta wa) (hb : DX K X b tb wb) : DX K X (.IfExp c a b pos) (tIf t1 ta tb) (dIf w1 wa wb) := by
  refine ⟨pe_ifExp hc.pt ha.pe hb.pe, fun F α σ μ τ H Q Q' S h k => ?_⟩
  refine hc.sim F α σ μ τ H _ _ S h fun F1 α1 μ1 H1 b e1 R1 q1 => ?_
  cases b with
  | true => exact ha.sim F1 α1 σ μ1 τ H1 Q Q' ⟨R1, S.sl.mono e1⟩ q1 (k.mono e1)
  | false => exact hb.sim F1 α1 σ μ1 τ H1 Q Q' ⟨R1, S.sl.mono e1⟩ q1 (k.mono e1)

/-! ### argument lists, displays -/
variable {es : List Expr} {tA : TA} {wA : DA}
def dNil : DA := fun _ μ Q => Q [] μ
def dCons (wa : DE) (wr : DA) : DA := fun σ μ Q => wa σ μ fun x μ1 => wr σ μ1 fun xs μ2 => Q (x :: xs) μ2
theorem da_nil : DAa K X [] tNil dNil := ⟨pa_nil, fun F α σ μ τ H Q Q' S h k => k F α μ H [] [] (Ext.refl _ _ _) S.rel .nil h⟩
theorem da_cons (ha : DX K X e ta wa) (hr : DAa K X es tA wA) (hs : starEach (e :: es) X.env = (false, eval e X.env) :: starEach es X.env := by rfl) : DAa K X (e :: es) (tCons ta tA) (dCons wa wA) := by
  refine ⟨pa_cons ha.pe hr.pa hs, fun F α σ μ τ H Q Q' S h k => ?_⟩
  refine ha.sim F α σ μ τ H _ _ S h fun F1 α1 μ1 H1 v x e1 R1 r1 q1 => ?_
  refine hr.sim F1 α1 σ μ1 τ H1 _ _ ⟨R1, S.sl.mono e1⟩ q1 fun F2 α2 μ2 H2 vs xs e2 R2 r2 q2 => ?_
  exact k F2 α2 μ2 H2 _ _ (e1.trans e2) R2 (.cons (r1.mono e2) r2) q2
/-- all are data -/
def allD : List SV → Option (List PyData)
  | [] => some []
  | .d x :: r => (allD r).map (x :: ·)
  | _ :: _ => none
theorem allD_ok {K : PySem.W.Frag} {F : Hp} {α : List Addr} : ∀ {vs : List V} {xs : List SV} {ds : List PyData}, RWs K F α vs xs → allD xs = some ds → DqAll K F vs ds
  | _, _, _, .nil, h => by
    cases h
    exact .nil
  | _, .d x :: r, ds, .cons h1 h2, h => by
    unfold allD at h
    cases e : allD r with
    | none => rw [e] at h; cases h
    | some es =>
      rw [e] at h
      cases h
      exact .cons h1 (allD_ok h2 e)
  | _, .loc _ :: _, _, _, h => by cases h
  | _, .scr _ :: _, _, _, h => by cases h
theorem allD_len : ∀ {xs : List SV} {ds : List PyData}, allD xs = some ds → ds.length = xs.length
  | [], _, h => by cases h; rfl
  | .d x :: r, ds, h => by
    unfold allD at h
    cases e : allD r with
    | none => rw [e] at h; cases h
    | some es =>
      rw [e] at h
      cases h
      show es.length + 1 = r.length + 1
      rw [allD_len e]
  | .loc _ :: _, _, h => by cases h
  | .scr _ :: _, _, h => by cases h
def dTup (w : DA) : DE := fun σ μ Q => w σ μ fun xs μ1 => match allD xs with
  | some ds => ds.length ≤ sizeLine ∧ Q (.d (.tuple ds)) μ1
  | none => False
theorem dx_tup {k : Nat} (h : DAa K X es tA wA) : DX K X (.Tuple es k pos) (tTup tA) (dTup wA) := by
  refine ⟨pe_tup h.pa, fun F α σ μ τ H Q Q' S hw k => ?_⟩
  refine h.sim F α σ μ τ H _ _ S hw fun F1 α1 μ1 H1 vs xs e1 R1 r1 q1 => ?_
  split at q1
  · rename_i ds hds
    obtain ⟨hz, q1⟩ := q1
    have hd := allD_ok r1 hds
    refine ⟨by rw [r1.len, ← allD_len hds]; exact hz, fun p hp => ?_⟩
    obtain ⟨R2, e2⟩ := R1.fresh (o := .tup vs) hp
    exact k _ α1 μ1 _ _ _ (e1.trans e2) R2 (.ofD (.tup (.inl (.inl upd_same)) (dqMonoAll e2.same hd))) q1
  · cases q1
def dLst (w : DA) : DN := fun σ μ Q => w σ μ fun xs μ1 => match allD xs with
  | some ds => ds.length ≤ sizeLine ∧ Q ds μ1
  | none => False
theorem dn_lst (h : DAa K X es tA wA) : DNn K X (.List es pos) (tLst tA) (dLst wA) := by
  refine ⟨pe_lst h.pa, fun F α σ μ τ H Q Q' S hw k => ?_⟩
  refine h.sim F α σ μ τ H _ _ S hw fun F1 α1 μ1 H1 vs xs e1 R1 r1 q1 => ?_
  split at q1
  · rename_i ds hds
    obtain ⟨hz, q1⟩ := q1
    have hd := allD_ok r1 hds
    refine ⟨by rw [r1.len, ← allD_len hds]; exact hz, fun p hp => ?_⟩
    exact k F1 α1 μ1 _ p vs ds (e1.trans (ext_aside hp)) (R1.aside hp) upd_same (e1.new hp) (free_of R1 hp) (R1.ne hp) hd q1
  · cases q1
/-- a new list as data; as a cell -/
def dSnap (w : DN) : DE := fun σ μ Q => w σ μ fun xs μ1 => Q (.d (.list xs)) μ1
def dLoc (w : DN) : DE := fun σ μ Q => w σ μ fun xs μ1 => Q (.loc μ1.length) (μ1 ++ [.lst xs])
theorem simSnap {w : DN} (h : SimN K ta w) : SimE K ta (dSnap w) := fun F α σ μ τ H Q Q' S hw k =>
  h F α σ μ τ H _ _ S hw fun F1 α1 μ1 H1 p vs xs e1 R1 hp hN hF hA hd q1 => by
    exact k _ α1 μ1 H1 _ _ (e1.freeze hN hF) (R1.freeze hp hF hA) (.ofD (.lst upd_same (dqMonoAll (same_upd hF) hd))) q1
theorem simLoc {w : DN} (h : SimN K ta w) : SimE K ta (dLoc w) := fun F α σ μ τ H Q Q' S hw k =>
  h F α σ μ τ H _ _ S hw fun F1 α1 μ1 H1 p vs xs e1 R1 hp hN hF hA hd q1 => by
    refine k F1 _ _ H1 _ _ (e1.own hN) (R1.own (c := .lst xs) ⟨hF, vs, hp, hd⟩ hA) (show RW K F1 (α1 ++ [p]) (.ref p) (.loc μ1.length) from ⟨p, rfl, ?_⟩) q1
    rw [← R1.len, List.getElem?_append_right (Nat.le_refl _), Nat.sub_self]
    rfl
theorem DNn.snap {w : DN} (h : DNn K X e ta w) : DX K X e ta (dSnap w) := ⟨h.pe, simSnap h.sim⟩
theorem DNn.loc {w : DN} (h : DNn K X e ta w) : DX K X e ta (dLoc w) := ⟨h.pe, simLoc h.sim⟩

/-! ### statements -/
variable {st : Stmt} {rs sts sts' : List Stmt} {u1 u2 : TS} {s1 s2 : DS}
def dNext : DS := fun D σ μ => D.nx σ μ
def dSeq (s u : DS) : DS := fun D σ μ => s { D with nx := u D } σ μ
theorem dss_nil : DSs K X [] tNext dNext := ⟨pss_nil, fun F α σ μ τ H D D' S h k => k.nx F α σ μ τ H (Ext.refl _ _ _) S h⟩
theorem dss_cons (h1 : DSt K X st u1 s1) (h2 : DSs K X rs u2 s2) : DSs K X (st :: rs) (tSeq u1 u2) (dSeq s1 s2) :=
  ⟨pss_cons h1.ps h2.ps, fun F α σ μ τ H D D' S h k => h1.sim F α σ μ τ H { D with nx := s2 D } _ S h
    ⟨fun F' α' σ' μ' τ' H' e S' q => h2.sim F' α' σ' μ' τ' H' D D' S' q (k.mono e), k.rt, k.bk, k.ct⟩⟩
theorem dss_one (h1 : DSt K X st u1 s1) : DSs K X [st] u1 s1 := ⟨pss_one h1.ps, h1.sim⟩
theorem ds_pass : DSt K X (.Pass pos) tNext dNext := ⟨ps_pass, fun F α σ μ τ H D D' S h k => k.nx F α σ μ τ H (Ext.refl _ _ _) S h⟩
def dBreak : DS := fun D σ μ => D.bk σ μ
def dCont : DS := fun D σ μ => D.ct σ μ
theorem ds_break : DSt K X (.Break pos) tBreak dBreak := ⟨ps_break, fun F α σ μ τ H D D' S h k => k.bk F α σ μ τ H (Ext.refl _ _ _) S h⟩
theorem ds_continue : DSt K X (.Continue pos) tCont dCont := ⟨ps_continue, fun F α σ μ τ H D D' S h k => k.ct F α σ μ τ H (Ext.refl _ _ _) S h⟩
def dNever : DS := fun _ _ _ => False
theorem ds_never : DSt K X st tNever dNever := ⟨ps_never, fun _ _ _ _ _ _ _ _ _ h _ => h.elim⟩
theorem dss_never : DSs K X sts tNever dNever := ⟨pss_never, fun _ _ _ _ _ _ _ _ _ h _ => h.elim⟩
def dDrop (w : DE) : DS := fun D σ μ => w σ μ fun _ μ1 => D.nx σ μ1
theorem ds_expr (h : DX K X e ta wa) (hs : swapsWith e none pos.line X.env = pure false := by rfl) : DSt K X (.Expr e pos) (tDrop ta) (dDrop wa) :=
  ⟨ps_expr h.pe hs, fun F α σ μ τ H D D' S hw k => h.sim F α σ μ τ H _ _ S hw fun F1 α1 μ1 H1 v x e1 R1 r1 q1 => k.nx F1 α1 σ μ1 τ H1 e1 ⟨R1, S.sl.mono e1⟩ q1⟩
def dRet (w : DE) : DS := fun D σ μ => w σ μ D.rt
theorem ds_ret (h : DX K X e ta wa) : DSt K X (.Return (some e) pos) (tRet ta) (dRet wa) := ⟨ps_ret h.pe, fun F α σ μ τ H D D' S hw k => h.sim F α σ μ τ H _ _ S hw k.rt⟩
def dRetN : DS := fun D _ μ => D.rt (.d .none) μ
theorem ds_retN : DSt K X (.Return none pos) tRetN dRetN := ⟨ps_retN, fun F α σ μ τ H D D' S hw k => k.rt.same S.rel (.ofD .non) hw⟩
def dIfS (w : DT) (s u : DS) : DS := fun D σ μ => w σ μ fun b μ1 => if b = true then s D σ μ1 else u D σ μ1
theorem ds_if (hc : DTt K X c t1 w1) (ha : DSs K X sts u1 s1) (hb : DSs K X sts' u2 s2) : DSt K X (.If c sts sts' pos) (tIfS t1 u1 u2) (dIfS w1 s1 s2) := by
  refine ⟨ps_if hc.pt ha.ps hb.ps, fun F α σ μ τ H D D' S hw k => hc.sim F α σ μ τ H _ _ S hw fun F1 α1 μ1 H1 b e1 R1 q1 => ?_⟩
  cases b with
  | true => exact ha.sim F1 α1 σ μ1 τ H1 D D' ⟨R1, S.sl.mono e1⟩ q1 (k.mono e1)
  | false => exact hb.sim F1 α1 σ μ1 τ H1 D D' ⟨R1, S.sl.mono e1⟩ q1 (k.mono e1)

/-! ### targets -/
abbrev DG := PyData → Sl → (Sl → Prop) → Prop
/-- a target of data: only the slots js change, no object is made -/
structure DGt (K : PySem.W.Frag) (X : Cx) (tg : Expr) (g : TG) (w : DG) (js : List Nat) : Prop where
  pg : PG X tg g
  sim : ∀ F α σ μ τ H v x Q (Q' : L2.St → Hp → Prop), S0 K F α σ μ τ H → Dq K F v x → w x σ Q → (∀ σ' τ', RS K F α σ' τ' → (∀ i, i ∉ js → τ'[i]? = τ[i]?) → τ'.length = τ.length → Q σ' → Q' τ' H) → g v τ H Q'
def dgName (i : Nat) : DG := fun x σ Q => Q (σ.set i (some (.d x)))
theorem dg_name (i : Nat) {x : Str} (hN : X.N.Nodup) (hi : X.N[i]? = some x := by rfl) (hx : Loc X.env.scope x := by first | exact Or.inl rfl | exact Or.inr rfl) (hf : X.fn x = true ∨ X.env.scope.names.lookup x = some .local := by first | exact .inl rfl | exact .inr rfl) :
    DGt K X (.Name x pos) (gName i) (dgName i) [i] :=
  ⟨pg_name hN hi hx hf, fun F α σ μ τ H v d Q Q' S r h k => k _ _ (S.sl.set i (w := .d d) r) (fun j hj => List.getElem?_set_ne (by simpa [eq_comm] using hj)) (by simp) h⟩
/-- several data, one behind the other -/
abbrev DGs := List PyData → Sl → (Sl → Prop) → Prop
structure DGts (K : PySem.W.Frag) (X : Cx) (ts : List Expr) (g : TGs) (w : DGs) (js : List Nat) : Prop where
  pg : PGs X ts g
  sim : ∀ F α σ μ τ H vs xs Q (Q' : L2.St → Hp → Prop), S0 K F α σ μ τ H → DqAll K F vs xs → w xs σ Q → (∀ σ' τ', RS K F α σ' τ' → (∀ i, i ∉ js → τ'[i]? = τ[i]?) → τ'.length = τ.length → Q σ' → Q' τ' H) → g vs τ H Q'
def dgNil : DGs := fun xs σ Q => match xs with
  | [] => Q σ
  | _ => False
def dgCons (g : DG) (gs : DGs) : DGs := fun xs σ Q => match xs with
  | x :: r => g x σ fun σ1 => gs r σ1 Q
  | _ => False
theorem dgs_nil : DGts K X [] gNil dgNil [] := by
  refine ⟨pgs_nil, fun F α σ μ τ H vs xs Q Q' S r h k => ?_⟩
  cases r with
  | nil => exact ⟨rfl, k _ _ S.sl (fun _ _ => rfl) rfl h⟩
  | cons _ _ => cases h
theorem dgs_cons {g : TG} {w : DG} {gs : TGs} {ws : DGs} {js ks : List Nat} (h1 : DGt K X e g w js) (h2 : DGts K X es gs ws ks) (hs : (assignEach (e :: es) X.env).map (·.2) = assign e X.env :: (assignEach es X.env).map (·.2) := by rfl) :
    DGts K X (e :: es) (gCons g gs) (dgCons w ws) (js ++ ks) := by
  refine ⟨pgs_cons h1.pg h2.pg hs, fun F α σ μ τ H vs xs Q Q' S r h k => ?_⟩
  cases r with
  | nil => cases h
  | @cons v vs d ds r1 r2 =>
    refine ⟨v, vs, rfl, h1.sim F α σ μ τ H v d _ _ S r1 h fun σ1 τ1 S1 a1 l1 q1 => ?_⟩
    refine h2.sim F α σ1 μ τ1 H vs ds Q Q' ⟨S.rel, S1⟩ r2 q1 fun σ2 τ2 S2 a2 l2 q2 => ?_
    exact k σ2 τ2 S2 (fun i hi => (a2 i fun z => hi (List.mem_append_right _ z)).trans (a1 i fun z => hi (List.mem_append_left _ z))) (l2.trans l1) q2
def dgTup (n : Nat) (g : DGs) : DG := fun x σ Q => match x with
  | .tuple xs => xs.length = n ∧ g xs σ Q
  | _ => False
theorem dg_tup {k : Nat} {n : Nat} {g : TGs} {w : DGs} {js : List Nat} (h : DGts K X es g w js) (hK : X.K = K := by rfl) (hc : X.calm = true := by rfl) (hn : (assignEach es X.env).length = n := by rfl) (hst : (assignEach es X.env).findIdx? (·.1) = none := by rfl) :
    DGt K X (.Tuple es k pos) (gTup K n g) (dgTup n w) js := by
  subst hK
  refine ⟨pg_tup hc h.pg hn hst, fun F α σ μ τ H v x Q Q' S r hw k => ?_⟩
  unfold dgTup at hw
  split at hw
  · rename_i xs
    cases r with
    | @tup a vs _ hs ha =>
      exact ⟨a, vs, rfl, Same.seqT S.rel.sub hs, (dqAll_len ha).trans hw.1, h.sim F α σ μ τ H vs xs Q Q' S ha hw.2 k⟩
  · cases hw

/-- x = e: any value -/
def dSet (w : DE) (i : Nat) : DS := fun D σ μ => w σ μ fun x μ1 => D.nx (σ.set i (some x)) μ1
theorem ds_set (i : Nat) {x : Str} {pos' : Pos} (hN : X.N.Nodup) (h : DX K X e ta wa) (hi : X.N[i]? = some x := by rfl) (hx : Loc X.env.scope x := by first | exact Or.inl rfl | exact Or.inr rfl) (hs : swapsWith e (some (.Name x pos')) pos.line X.env = pure false := by rfl)
    (hf : X.fn x = true ∨ X.env.scope.names.lookup x = some .local := by first | exact .inl rfl | exact .inr rfl) : DSt K X (.Assign [.Name x pos'] e pos) (tAsg ta (gName i)) (dSet wa i) :=
  ⟨ps_set hN hi hx h.pe hs hf, fun F α σ μ τ H D D' S hw k => h.sim F α σ μ τ H _ _ S hw fun F1 α1 μ1 H1 v w e1 R1 r1 q1 => k.nx F1 α1 _ μ1 _ H1 e1 ⟨R1, (S.sl.mono e1).set i r1⟩ q1⟩
/-- target = e, e data -/
def dAsg (w : DE) (g : DG) : DS := fun D σ μ => w σ μ fun x μ1 => match x with
  | .d d => g d σ fun σ1 => D.nx σ1 μ1
  | _ => False
theorem ds_asg {tg : Expr} {g : TG} {w : DG} {js : List Nat} (h : DX K X e ta wa) (hg : DGt K X tg g w js) (hs : swapsWithSole [tg] e pos.line X.env = pure false := by rfl) (hw : swappedStores [tg] e X.env = pure none := by rfl)
    (h1 : (assignEach [tg] X.env).map (·.2) = [assign tg X.env] := by rfl) : DSt K X (.Assign [tg] e pos) (tAsg ta g) (dAsg wa w) := by
  refine ⟨ps_asg h.pe hg.pg hs hw h1, fun F α σ μ τ H D D' S hw k => h.sim F α σ μ τ H _ _ S hw fun F1 α1 μ1 H1 v x e1 R1 r1 q1 => ?_⟩
  split at q1
  · rename_i d
    exact hg.sim F1 α1 σ μ1 τ H1 v d _ _ ⟨R1, S.sl.mono e1⟩ r1 q1 fun σ' τ' S' _ _ q => k.nx F1 α1 σ' μ1 τ' H1 e1 ⟨R1, S'⟩ q
  · cases q1
def dPar (i j : Nat) (w : DA) : DS := fun D σ μ => w σ μ fun xs μ1 => match xs with
  | [x, y] => D.nx ((σ.set i (some x)).set j (some y)) μ1
  | _ => False
theorem ds_par (i j : Nat) {x y : Str} {px py pt pt2 : Pos} {kt k2 : Nat} (hN : X.N.Nodup) (ha : DAa K X [a, b] tA wA) (hij : i ≠ j := by decide) (hc : X.calm = true := by rfl) (hi : X.N[i]? = some x := by rfl) (hj : X.N[j]? = some y := by rfl)
    (hx : X.env.scope.names.lookup x = some .local := by rfl) (hy : X.env.scope.names.lookup y = some .local := by rfl) (hw : swappedStores [.Tuple [.Name x px, .Name y py] kt pt] (.Tuple [a, b] k2 pt2) X.env = pure (some [x, y]) := by rfl)
    (hs : swapsWithSole [.Tuple [.Name x px, .Name y py] kt pt] (.Tuple [a, b] k2 pt2) pos.line X.env = pure false := by rfl) : DSt K X (.Assign [.Tuple [.Name x px, .Name y py] kt pt] (.Tuple [a, b] k2 pt2) pos) (tPar i j tA) (dPar i j wA) := by
  refine ⟨ps_par hc hN hi hj hij hx hy ha.pa hw hs, fun F α σ μ τ H D D' S hw k => ha.sim F α σ μ τ H _ _ S hw fun F1 α1 μ1 H1 vs xs e1 R1 r1 q1 => ?_⟩
  split at q1
  · cases r1 with
    | @cons v _ _ _ r r1 =>
      cases r1 with
      | @cons u _ _ _ r' r1 =>
        cases r1
        exact ⟨v, u, rfl, k.nx F1 α1 _ μ1 _ H1 e1 ⟨R1, ((S.sl.mono e1).set i r).set j r'⟩ q1⟩
  · cases q1
def dPar3 (i j l : Nat) (w : DA) : DS := fun D σ μ => w σ μ fun xs μ1 => match xs with
  | [x, y, z] => D.nx (((σ.set i (some x)).set j (some y)).set l (some z)) μ1
  | _ => False
theorem ds_par3 (i j l : Nat) {x y z : Str} {px py pz pt pt2 : Pos} {kt k2 : Nat} (hN : X.N.Nodup) (ha : DAa K X [a, b, c] tA wA) (hij : i ≠ j := by decide) (hil : i ≠ l := by decide) (hjl : j ≠ l := by decide) (hc : X.calm = true := by rfl) (hi : X.N[i]? = some x := by rfl) (hj : X.N[j]? = some y := by rfl) (hl : X.N[l]? = some z := by rfl)
    (hx : X.env.scope.names.lookup x = some .local := by rfl) (hy : X.env.scope.names.lookup y = some .local := by rfl) (hz : X.env.scope.names.lookup z = some .local := by rfl) (hw : swappedStores [.Tuple [.Name x px, .Name y py, .Name z pz] kt pt] (.Tuple [a, b, c] k2 pt2) X.env = pure (some [x, y, z]) := by rfl)
    (hs : swapsWithSole [.Tuple [.Name x px, .Name y py, .Name z pz] kt pt] (.Tuple [a, b, c] k2 pt2) pos.line X.env = pure false := by rfl) : DSt K X (.Assign [.Tuple [.Name x px, .Name y py, .Name z pz] kt pt] (.Tuple [a, b, c] k2 pt2) pos) (tPar3 i j l tA) (dPar3 i j l wA) := by
  refine ⟨ps_par3 hc hN hi hj hl hij hil hjl hx hy hz ha.pa hw hs, fun F α σ μ τ H D D' S hw k => ha.sim F α σ μ τ H _ _ S hw fun F1 α1 μ1 H1 vs xs e1 R1 r1 q1 => ?_⟩
  split at q1
  · cases r1 with
    | @cons v _ _ _ r r1 =>
      cases r1 with
      | @cons u _ _ _ r' r1 =>
        cases r1 with
        | @cons t _ _ _ r'' r1 =>
          cases r1
          exact ⟨v, u, t, rfl, k.nx F1 α1 _ μ1 _ H1 e1 ⟨R1, (((S.sl.mono e1).set i r).set j r').set l r''⟩ q1⟩
  · cases q1

/-! ### while -/
def dWhileN (c : DT) (b : DS) (D : DEnds) : Nat → Sl → Mu → Prop
  | 0, _, _ => False
  | n + 1, σ, μ => c σ μ fun k μ1 => if k = true then b { D with nx := dWhileN c b D n, ct := dWhileN c b D n, bk := D.nx } σ μ1 else D.nx σ μ1
def dWhile (c : DT) (b : DS) : DS := fun D σ μ => ∃ n, dWhileN c b D n σ μ
theorem ds_while (hp : PassesOwn (model X.prog X.w) X.A X.env X.xe) (hc : DTt K X c t1 w1) (hb : DSs K X sts u1 s1) : DSt K X (.While c sts [] pos) (tWhile t1 u1) (dWhile w1 s1) := by
  refine ⟨ps_while hp hc.pt hb.ps, fun F α σ μ τ H D D' S hw k => ?_⟩
  obtain ⟨n0, h0⟩ := hw
  refine ⟨fun n τ H' => ∃ F1 α1 σ1 μ1, Ext F α H F1 α1 H' ∧ S0 K F1 α1 σ1 μ1 τ H' ∧ dWhileN w1 s1 D n σ1 μ1, ⟨n0, F, α, σ, μ, Ext.refl _ _ _, S, h0⟩, ?_⟩
  rintro n τ1 H1 ⟨F1, α1, σ1, μ1, e1, S1, h1⟩
  cases n with
  | zero => cases h1
  | succ n =>
    refine hc.sim F1 α1 σ1 μ1 τ1 H1 _ _ S1 h1 fun F2 α2 μ2 H2 b e2 R2 q2 => ?_
    cases b with
    | false =>
      rw [if_neg Bool.false_ne_true] at q2 ⊢
      exact k.nx F2 α2 σ1 μ2 τ1 H2 (e1.trans e2) ⟨R2, S1.sl.mono e2⟩ q2
    | true =>
      rw [if_pos rfl] at q2 ⊢
      refine ⟨fun τ H' => ∃ F1 α1 σ1 μ1, Ext F α H F1 α1 H' ∧ S0 K F1 α1 σ1 μ1 τ H' ∧ dWhileN w1 s1 D n σ1 μ1, fun τ' H' h' => ⟨n, Nat.lt_succ_self n, h'⟩, ?_⟩
      refine hb.sim F2 α2 σ1 μ2 τ1 H2 _ _ ⟨R2, S1.sl.mono e2⟩ q2 ⟨?_, (k.rt.mono (e1.trans e2)), ?_, ?_⟩
      · intro F3 α3 σ3 μ3 τ3 H3 e3 S3 q3
        exact ⟨F3, α3, σ3, μ3, e1.trans (e2.trans e3), S3, q3⟩
      · intro F3 α3 σ3 μ3 τ3 H3 e3 S3 q3
        exact k.nx F3 α3 σ3 μ3 τ3 H3 (e1.trans (e2.trans e3)) S3 q3
      · intro F3 α3 σ3 μ3 τ3 H3 e3 S3 q3
        exact ⟨F3, α3, σ3, μ3, e1.trans (e2.trans e3), S3, q3⟩

/-! ### iteration -/
abbrev DIt := Sl → Mu → (List PyData → Mu → Prop) → Prop
/-- the iterator J brings the data xs, at any later time -/
def ItOk (K : PySem.W.Frag) (F : Hp) (α : List Addr) (H : Hp) (J : It) (xs : List PyData) : Prop := ∀ F1 α1 μ1 H1 i, Ext F α H F1 α1 H1 → Rel K F1 α1 μ1 H1 →
  (∀ x, xs[i]? = some x → J.go i H1 ∧ ∀ v H2, J.yld i H1 v H2 → ∃ F2, Ext F1 α1 H1 F2 α1 H2 ∧ Rel K F2 α1 μ1 H2 ∧ Dq K F2 v x) ∧ (xs.length ≤ i → J.stop i H1)
structure DIi (K : PySem.W.Frag) (X : Cx) (tg iter : Expr) (t : TI) (w : DIt) : Prop where
  pi : PI X tg iter t
  sim : ∀ F α σ μ τ H Q R, S0 K F α σ μ τ H → w σ μ Q → (∀ F1 α1 μ1 H1 J xs, Ext F α H F1 α1 H1 → Rel K F1 α1 μ1 H1 → ItOk K F1 α1 H1 J xs → Q xs μ1 → R J H1) → t τ H R
def dLoop (g : DG) (b : DS) (D : DEnds) : List PyData → Sl → Mu → Prop
  | [], σ, μ => D.nx σ μ
  | x :: r, σ, μ => g x σ fun σ1 => b { D with nx := dLoop g b D r, ct := dLoop g b D r, bk := D.nx } σ1 μ
def dFor (w : DIt) (g : DG) (b : DS) : DS := fun D σ μ => w σ μ fun xs μ1 => dLoop g b D xs σ μ1
theorem ds_for {tg iter : Expr} {t : TI} {w : DIt} {g : TG} {gw : DG} {js : List Nat} (hp : PassesOwn (model X.prog X.w) X.A X.env X.xe) (hi : DIi K X tg iter t w) (hg : DGt K X tg g gw js) (hb : DSs K X sts u1 s1) (hc : X.calm = true := by rfl)
    (hs : ∀ x, foldedSetIterable iter X.env x = pure x := by intro _; rfl) : DSt K X (.For tg iter sts [] pos) (tFor t g u1) (dFor w gw s1) := by
  refine ⟨ps_for hp hc hi.pi hg.pg hb.ps hs, fun F α σ μ τ H D D' S hw k => ?_⟩
  refine hi.sim F α σ μ τ H _ _ S hw fun F1 α1 μ1 H1 J xs e1 R1 io q1 => ?_
  refine ⟨fun i m τ H => ∃ F2 α2 σ2 μ2, Ext F1 α1 H1 F2 α2 H ∧ S0 K F2 α2 σ2 μ2 τ H ∧ i + m = xs.length ∧ dLoop gw s1 D (xs.drop i) σ2 μ2, ⟨xs.length, F1, α1, σ, μ1, Ext.refl _ _ _, ⟨R1, S.sl.mono e1⟩, by omega, q1⟩, ?_⟩
  rintro i m τ2 H2 ⟨F2, α2, σ2, μ2, e2, S2, hm, h2⟩
  obtain ⟨hgo, hstop⟩ := io F2 α2 μ2 H2 i e2 S2.rel
  by_cases hi : i < xs.length
  · have hx : xs[i]? = some xs[i] := List.getElem?_eq_getElem hi
    obtain ⟨go, yl⟩ := hgo _ hx
    rw [List.drop_eq_getElem_cons hi] at h2
    refine .inr ⟨go, fun τ H => ∃ F2 α2 σ2 μ2, Ext F1 α1 H1 F2 α2 H ∧ S0 K F2 α2 σ2 μ2 τ H ∧ dLoop gw s1 D (xs.drop (i + 1)) σ2 μ2, fun τ' H' ⟨F3, α3, σ3, μ3, e3, S3, h3⟩ => ⟨m - 1, by omega, F3, α3, σ3, μ3, e3, S3, by omega, h3⟩, fun v H3 hy => ?_⟩
    obtain ⟨F3, e3, R3, r3⟩ := yl v H3 hy
    refine hg.sim F3 α2 σ2 μ2 τ2 H3 v _ _ _ ⟨R3, S2.sl.mono e3⟩ r3 h2 fun σ4 τ4 S4 _ _ q4 => ?_
    refine hb.sim F3 α2 σ4 μ2 τ4 H3 _ _ ⟨R3, S4⟩ q4 ⟨?_, (k.rt.mono (e1.trans (e2.trans e3))), ?_, ?_⟩
    · intro F5 α5 σ5 μ5 τ5 H5 e5 S5 q5
      exact ⟨F5, α5, σ5, μ5, e2.trans (e3.trans e5), S5, q5⟩
    · intro F5 α5 σ5 μ5 τ5 H5 e5 S5 q5
      exact k.nx F5 α5 σ5 μ5 τ5 H5 (e1.trans (e2.trans (e3.trans e5))) S5 q5
    · intro F5 α5 σ5 μ5 τ5 H5 e5 S5 q5
      exact ⟨F5, α5, σ5, μ5, e2.trans (e3.trans e5), S5, q5⟩
  · refine .inl ⟨hstop (by omega), ?_⟩
    rw [List.drop_eq_nil_of_le (by omega)] at h2
    exact k.nx F2 α2 σ2 μ2 τ2 H2 (e1.trans e2) S2 h2

/-! ### comprehensions -/
def wipeD (σ : Sl) : List Nat → Sl
  | [] => σ
  | v :: vs => (wipeD σ vs).set v none
theorem wipe_rs {K : PySem.W.Frag} {F : Hp} {α : List Addr} {σ : Sl} {τ : L2.St} (h : RS K F α σ τ) : ∀ vs, RS K F α (wipeD σ vs) (wipe τ vs)
  | [] => h
  | v :: vs => (wipe_rs h vs).unset v
theorem wipe_len (τ : L2.St) : ∀ vs : List Nat, (wipe τ vs).length = τ.length
  | [] => rfl
  | v :: vs => by
    show ((wipe τ vs).set v none).length = _
    rw [List.length_set, wipe_len τ vs]
theorem wipe_get (τ : L2.St) (i : Nat) : ∀ vs : List Nat, (wipe τ vs)[i]? = if i ∈ vs then (if i < τ.length then some none else none) else τ[i]?
  | [] => by simp [wipe]
  | v :: vs => by
    show ((wipe τ vs).set v none)[i]? = _
    rw [List.getElem?_set]
    by_cases h : v = i
    · subst h
      simp [wipe_len]
    · rw [if_neg h, wipe_get τ i vs]
      have : i ≠ v := fun z => h z.symm
      simp [this]
theorem wipe_eq {τ τ' : L2.St} {vs : List Nat} (hl : τ'.length = τ.length) (h : ∀ i, i ∉ vs → τ'[i]? = τ[i]?) : wipe τ' vs = wipe τ vs := by
  refine List.ext_getElem? fun i => ?_
  rw [wipe_get, wipe_get, hl]
  by_cases hi : i ∈ vs
  · rw [if_pos hi, if_pos hi]
  · rw [if_neg hi, if_neg hi, h i hi]
structure DTs (K : PySem.W.Frag) (X : Cx) (ifs : List Expr) (t : TT) (w : DT) : Prop where
  pt : PTs X ifs t
  sim : SimT K t w
def dYes : DT := fun _ μ Q => Q true μ
theorem dts_nil : DTs K X [] tYes dYes := ⟨pts_nil, fun F α σ μ τ H Q Q' S h k => k F α μ H true (Ext.refl _ _ _) S.rel h⟩
theorem dts_one (h : DTt K X c t1 w1) : DTs K X [c] t1 w1 := ⟨pts_one h.pt, h.sim⟩
def dComp (g : DG) (tt : DT) (te : DE) (σ : Sl) (Q : List PyData → Mu → Prop) : List PyData → List PyData → Mu → Prop
  | [], acc, μ => Q acc μ
  | x :: r, acc, μ => g x σ fun σ1 => tt σ1 μ fun b μ1 => if b = true then te σ1 μ1 fun y μ2 => match y with
      | .d d => acc.length < sizeLine ∧ dComp g tt te σ Q r (acc ++ [d]) μ2
      | _ => False
    else dComp g tt te σ Q r acc μ1
def dLc (w : DIt) (g : DG) (tt : DT) (te : DE) (vs : List Nat) : DN := fun σ μ Q => w σ μ fun xs μ1 => dComp g tt te (wipeD σ vs) Q xs [] μ1
theorem simLc {t : TI} {w : DIt} {g : TG} {gw : DG} {js vs : List Nat} {tt : TT} {wt : DT} {te : TE} {we : DE}
    (hi : ∀ F α σ μ τ H Q R, S0 K F α σ μ τ H → w σ μ Q → (∀ F1 α1 μ1 H1 J xs, Ext F α H F1 α1 H1 → Rel K F1 α1 μ1 H1 → ItOk K F1 α1 H1 J xs → Q xs μ1 → R J H1) → t τ H R)
    (hg : ∀ F α σ μ τ H v x Q (Q' : L2.St → Hp → Prop), S0 K F α σ μ τ H → Dq K F v x → gw x σ Q → (∀ σ' τ', RS K F α σ' τ' → (∀ i, i ∉ js → τ'[i]? = τ[i]?) → τ'.length = τ.length → Q σ' → Q' τ' H) → g v τ H Q')
    (ht : SimT K tt wt) (he : SimE K te we) (hj : ∀ j ∈ js, j ∈ vs) : SimN K (tLc t g tt te vs) (dLc w gw wt we vs) := by
  intro F α σ μ τ H Q Q' S hw k
  refine hi F α σ μ τ H _ _ S hw fun F1 α1 μ1 H1 J xs e1 R1 io q1 => ?_
  intro L hL
  have hFL := free_of R1 hL
  have hAL := R1.ne hL
  have go' : ∀ {F4 F5 : Hp} {α4 α5 : List Addr} {μ4 : Mu} {H4 H5 : Hp} {vs' : List V} {acc : List PyData}, Ext F4 α4 H4 F5 α5 H5 → H4 L = some (.lst vs') → F4 L = none → L ∉ α4 → H5 L = some (.lst vs') ∧ F5 L = none ∧ L ∉ α5 := fun {F4 F5 α4 α5 μ4 H4 H5 vs' acc} e a1 a2 a3 => by
    obtain ⟨b1, b2, b3⟩ := e.frm L (by rw [a1]; exact fun z => nomatch z) a2 a3
    exact ⟨b1.trans a1, b2, b3⟩
  refine ⟨fun i m H => ∃ F2 α2 μ2 vs' acc, Ext F1 α1 H1 F2 α2 H ∧ Rel K F2 α2 μ2 H ∧ i + m = xs.length ∧ H L = some (.lst vs') ∧ F2 L = none ∧ L ∉ α2 ∧ DqAll K F2 vs' acc ∧ dComp gw wt we (wipeD σ vs) Q (xs.drop i) acc μ2,
    ⟨xs.length, F1, α1, μ1, [], [], ext_aside hL, R1.aside hL, by omega, upd_same, hFL, hAL, .nil, q1⟩, ?_⟩
  rintro i m H2 ⟨F2, α2, μ2, vs', acc, e2, R2, hm, hH, hF, hA, hd, h2⟩
  obtain ⟨hgo, hstop⟩ := io F2 α2 μ2 H2 i e2 R2
  by_cases hi : i < xs.length
  · have hx : xs[i]? = some xs[i] := List.getElem?_eq_getElem hi
    obtain ⟨go, yl⟩ := hgo _ hx
    rw [List.drop_eq_getElem_cons hi] at h2
    refine .inr ⟨go, fun H => ∃ F2 α2 μ2 vs' acc, Ext F1 α1 H1 F2 α2 H ∧ Rel K F2 α2 μ2 H ∧ H L = some (.lst vs') ∧ F2 L = none ∧ L ∉ α2 ∧ DqAll K F2 vs' acc ∧ dComp gw wt we (wipeD σ vs) Q (xs.drop (i + 1)) acc μ2,
      fun H' ⟨F3, α3, μ3, vs3, acc3, e3, R3, a1, a2, a3, a4, a5⟩ => ⟨m - 1, by omega, F3, α3, μ3, vs3, acc3, e3, R3, by omega, a1, a2, a3, a4, a5⟩, fun v H3 hy => ?_⟩
    obtain ⟨F3, e3, R3, r3⟩ := yl v H3 hy
    obtain ⟨hH3, hF3, hA3⟩ := go' (μ4 := μ2) (acc := acc) e3 hH hF hA
    have S2 : RS K F3 α2 (wipeD σ vs) (wipe τ vs) := (wipe_rs S.sl vs).mono (e1.trans (e2.trans e3))
    refine hg F3 α2 _ μ2 _ H3 v _ _ _ ⟨R3, S2⟩ r3 h2 fun σ4 τ4 S4 a4 l4 q4 => ⟨?_, ?_⟩
    · rw [wipe_eq (vs := vs) l4 (fun i hi => a4 i fun z => hi (hj i z))]
      refine wipe_eq (wipe_len τ vs) fun i hi => ?_
      rw [wipe_get, if_neg hi]
    · refine ht F3 α2 σ4 μ2 τ4 H3 _ _ ⟨R3, S4⟩ q4 fun F5 α5 μ5 H5 b e5 R5 q5 => ?_
      obtain ⟨hH5, hF5, hA5⟩ := go' (μ4 := μ2) (acc := acc) e5 hH3 hF3 hA3
      cases b with
      | false =>
        rw [if_neg Bool.false_ne_true] at q5 ⊢
        exact ⟨F5, α5, μ5, vs', acc, e2.trans (e3.trans e5), R5, hH5, hF5, hA5, dqMonoAll (e3.trans e5).same hd, q5⟩
      | true =>
        rw [if_pos rfl] at q5 ⊢
        refine he F5 α5 σ4 μ5 τ4 H5 _ _ ⟨R5, S4.mono e5⟩ q5 fun F6 α6 μ6 H6 y y' e6 R6 r6 q6 => ?_
        obtain ⟨hH6, hF6, hA6⟩ := go' (μ4 := μ2) (acc := acc) e6 hH5 hF5 hA5
        have hd6 : DqAll K F6 vs' acc := dqMonoAll (e3.trans (e5.trans e6)).same hd
        split at q6
        · rename_i d
          refine ⟨vs', hH6, by rw [dqAll_len hd]; exact q6.1, F6, α6, μ6, vs' ++ [y], acc ++ [d], (e2.trans (e3.trans (e5.trans e6))).poke hL, R6.poke hF6 hA6, upd_same, hF6, hA6, dqAll_app hd6 (dqAll_one r6), q6.2⟩
        · cases q6
  · refine .inl ⟨hstop (by omega), ?_⟩
    rw [List.drop_eq_nil_of_le (by omega)] at h2
    exact k F2 α2 μ2 H2 L vs' acc (e1.trans e2) R2 hH (e1.new hL) hF hA hd h2
end
end DL
namespace DL
open PySem PySem.Spec PyProof.Rows L2

/-! ### data as such -/
def asD (μ : Mu) : SV → Option PyData
  | .d x => some x
  | .loc k => match μ[k]? with
    | some (.lst xs) => some (.list xs)
    | some (.frz xs) => some (.list xs)
    | _ => none
  | .scr _ => none
theorem asD_ok {K : PySem.W.Frag} {F H : Hp} {α : List Addr} {μ : Mu} {v : V} {w : SV} {d : PyData} (R : Rel K F α μ H) (r : RW K F α v w) (h : asD μ w = some d) : Dp K H v d := by
  cases w with
  | d x =>
    cases h
    exact Dq.dp (dqMono R.sub r)
  | loc k =>
    obtain ⟨a, rfl, ha⟩ := r
    simp only [asD] at h
    split at h
    · rename_i ys e
      cases h
      obtain ⟨_, vs, e1, d⟩ := R.cell k a _ ha e
      exact .lst (SqL.of e1) (DqAll.dp (dqMonoAll R.sub d))
    · rename_i ys e
      cases h
      obtain ⟨vs, _, e1, d⟩ := R.cell k a _ ha e
      exact .lst (SqL.of e1) (DqAll.dp (dqMonoAll R.sub d))
    · cases h
  | scr ns => cases h

section
variable {K : PySem.W.Frag} {X : Cx} {pos : Pos} {e a b c : Expr} {ta tb tc : TE} {wa wb wc : DE}
/-! ### operators on ints, texts, lists, tuples -/
theorem SimO.or {r r' : R2} {g : GO} (h : ∀ F α μ H v u x y Q Q', Rel K F α μ H → RW K F α v x → RW K F α u y → g x y μ Q → CtE K F α H Q Q' → r v u H Q' ∨ r' v u H Q') : SimO K (fun x y H Q => r x y H Q ∨ r' x y H Q) g := h
/-- a new tuple, list as data -/
theorem CtE.tup {K : PySem.W.Frag} {F H : Hp} {α : List Addr} {μ : Mu} {Q : KD} {Q' : VK} (k : CtE K F α H Q Q') (R : Rel K F α μ H) {vs : List V} {ds : List PyData} (h : DqAll K F vs ds) (q : Q (.d (.tuple ds)) μ) : ∀ p, H p = none → Q' (.ref p) (upd H p (.tup vs)) := fun p hp => by
  obtain ⟨R2, e2⟩ := R.fresh (o := .tup vs) hp
  exact k _ α μ _ _ _ e2 R2 (.ofD (.tup (.inl (.inl upd_same)) (dqMonoAll e2.same h))) q
theorem CtE.lst {K : PySem.W.Frag} {F H : Hp} {α : List Addr} {μ : Mu} {Q : KD} {Q' : VK} (k : CtE K F α H Q Q') (R : Rel K F α μ H) {vs : List V} {ds : List PyData} (h : DqAll K F vs ds) (q : Q (.d (.list ds)) μ) : ∀ p, H p = none → Q' (.ref p) (upd H p (.lst vs)) := fun p hp => by
  obtain ⟨R2, e2⟩ := R.fresh (o := .lst vs) hp
  exact k _ α μ _ _ _ e2 R2 (.ofD (.lst upd_same (dqMonoAll e2.same h))) q
theorem CtN.lst {K : PySem.W.Frag} {F H : Hp} {α : List Addr} {μ : Mu} {Q : List PyData → Mu → Prop} {Q' : VK} (k : CtN K F α H Q Q') (R : Rel K F α μ H) {vs : List V} {ds : List PyData} (h : DqAll K F vs ds) (q : Q ds μ) : ∀ p, H p = none → Q' (.ref p) (upd H p (.lst vs)) := fun p hp =>
  k F α μ _ p vs ds (ext_aside hp) (R.aside hp) upd_same hp (free_of R hp) (R.ne hp) h q

def gAdd : GO := fun x y μ Q => match x, y with
  | .d (.int i), .d (.int j) => Q (.d (.int (i + j))) μ
  | .d (.str s), .d (.str t) => s.length + t.length ≤ sizeLine ∧ Q (.d (.str (s ++ t))) μ
  | x, y => match view μ x, view μ y with
    | some (true, xs), some (true, ys) => xs.length + ys.length ≤ sizeLine ∧ Q (.d (.tuple (xs ++ ys))) μ
    | some (false, xs), some (false, ys) => xs.length + ys.length ≤ sizeLine ∧ Q (.d (.list (xs ++ ys))) μ
    | _, _ => False
theorem do_add (hK : X.K = K := by rfl) : DO K X (binaryOp .Add) (fun x y H Q => (∃ i j, x = .int i ∧ y = .int j ∧ Q (.int (i + j)) H) ∨ (∃ i j, x = .str i ∧ y = .str j ∧ i.length + j.length ≤ sizeLine ∧ Q (.str (i ++ j)) H) ∨ rCatA K x y H Q ∨ rCat x y H Q) gAdd := by
  subst hK
  refine ⟨op_add.or (op_add_str.or (op_catA.or op_cat)), fun F α μ H v u x y Q Q' R r1 r2 h k => ?_⟩
  unfold gAdd at h
  split at h
  · cases r1
    cases r2
    exact .inl ⟨_, _, rfl, rfl, k.same R (.ofD (.int _)) h⟩
  · cases r1
    cases r2
    exact .inr (.inl ⟨_, _, rfl, rfl, h.1, k.same R (.ofD (.str _)) h.2⟩)
  · split at h
    · rename_i xs ys e1 e2
      obtain ⟨a, vs, rfl, h1, d1⟩ := view_tup R r1 e1
      obtain ⟨b, us, rfl, h2, d2⟩ := view_tup R r2 e2
      have l1 := dqAll_len d1
      have l2 := dqAll_len d2
      have hx : x = .d (.tuple xs) := by
        revert e1
        cases x with
        | d z => cases z <;> simp [view]
        | loc k => intro e1; simp only [view] at e1; split at e1 <;> cases e1
        | scr ns => intro e1; cases e1
      have hy : y = .d (.tuple ys) := by
        revert e2
        cases y with
        | d z => cases z <;> simp [view]
        | loc k => intro e1; simp only [view] at e1; split at e1 <;> cases e1
        | scr ns => intro e1; cases e1
      refine .inr (.inr (.inl ⟨a, b, vs, us, rfl, rfl, h1, h2, by omega, fun z => ?_, fun _ z => ?_, fun _ _ => ?_⟩))
      · subst z
        cases d1
        subst hy
        exact k.same R r2 h.2
      · subst z
        cases d2
        subst hx
        rw [List.append_nil] at h
        exact k.same R r1 h.2
      · exact k.tup R (dqAll_app d1 d2) h.2
    · rename_i xs ys e1 e2
      obtain ⟨a, vs, rfl, h1, d1⟩ := view_list R r1 e1
      obtain ⟨b, us, rfl, h2, d2⟩ := view_list R r2 e2
      have l1 := dqAll_len d1
      have l2 := dqAll_len d2
      exact .inr (.inr (.inr ⟨a, b, vs, us, rfl, rfl, h1, h2, by omega, k.lst R (dqAll_app d1 d2) h.2⟩))
    · cases h
def gInt2 (C : Int → Int → Prop) (f : Int → Int → Int) : GO := fun x y μ Q => match x, y with
  | .d (.int i), .d (.int j) => C i j ∧ Q (.d (.int (f i j))) μ
  | _, _ => False
theorem do_int2 {op : Operator} {C : Int → Int → Prop} {f : Int → Int → Int} (h : OpR X (binaryOp op) (rI C fun i j => .int (f i j))) : DO K X (binaryOp op) (rI C fun i j => .int (f i j)) (gInt2 C f) := by
  refine ⟨h, fun F α μ H v u x y Q Q' R r1 r2 h k => ?_⟩
  unfold gInt2 at h
  split at h
  · cases r1
    cases r2
    exact ⟨_, _, rfl, rfl, h.1, k.same R (.ofD (.int _)) h.2⟩
  · cases h
def gMinus : GO := fun x y μ Q => match x, y with
  | .d (.int i), .d (.int j) => Q (.d (.int (i - j))) μ
  | _, _ => False
theorem do_sub : DO K X (binaryOp .Sub) (rI0 fun i j => .int (i - j)) gMinus := by
  refine ⟨op_sub, fun F α μ H v u x y Q Q' R r1 r2 h k => ?_⟩
  unfold gMinus at h
  split at h
  · cases r1
    cases r2
    exact ⟨_, _, rfl, rfl, k.same R (.ofD (.int _)) h⟩
  · cases h
/-- what // and % want of the divisor -/
def DivOk (j : Int) : Prop := 0 < j ∧ j.natAbs.log2 < 9000
def gDiv : GO := gInt2 (fun _ j => DivOk j) fun i j => i / j
def gMod : GO := gInt2 (fun _ j => 0 < j) fun i j => i % j
def gPow : GO := gInt2 CPow fun i j => i ^ j.toNat
def gShl : GO := gInt2 CPow fun i j => i * 2 ^ j.toNat
def gShr : GO := gInt2 (fun _ j => 0 ≤ j) fun i j => i / 2 ^ j.toNat
theorem do_div : DO K X (binaryOp .FloorDiv) (rI CDivW fun i j => .int (i / j)) gDiv := do_int2 op_fdivW
theorem do_mod : DO K X (binaryOp .Mod) (rI (fun _ j => 0 < j) fun i j => .int (i % j)) gMod := do_int2 op_mod
theorem do_pow : DO K X (binaryOp .Pow) (rI CPow fun i j => .int (i ^ j.toNat)) gPow := do_int2 op_pow
theorem do_shl : DO K X (binaryOp .LShift) (rI CPow fun i j => .int (i * 2 ^ j.toNat)) gShl := do_int2 op_shl
theorem do_shr : DO K X (binaryOp .RShift) (rI (fun _ j => 0 ≤ j) fun i j => .int (i / 2 ^ j.toNat)) gShr := do_int2 op_shr
end
theorem tuple_mul_self (l : Addr) (items : Array Value) (n : Nat) (dd : Option Addr) (sl : Array (Option Value)) (x : Int) (u : Tok) (c0 : (decide (x < -(2 ^ 63)) || decide (x ≥ 2 ^ 63)) = false) (c1 : (items.isEmpty || x == 1) = true) :
    Meets (Builtin.«tuple.__mul__» ⟨[.ref l, .int x u], []⟩) (fun _ R s => s.heap.get? l = some { cls := .type "tuple", dict := dd, data := .seq items n, slots := sl } ∧
      R (.ok (.ret (Value.ref l))) s) :=
  .of_wp fun prog w A R s h => by
    obtain ⟨hp, g, d, tk, os⟩ := s
    obtain ⟨hl, h⟩ := h
    have f1 := AutoSeq1.idx_int
    wp_walk using wpAny_loadPart' hl
    repeat (first
      | (refine wpAny_ite_false (decide_eq_false (by rw [c0]; exact Bool.false_ne_true)) ?_; wp_walk using wpAny_loadPart' hl)
      | (refine wpAny_ite_true (decide_eq_true c1) ?_; wp_walk using wpAny_loadPart' hl))
    exact ⟨_, rfl, h⟩
theorem tuple_mul_none (l : Addr) (items : Array Value) (n : Nat) (dd : Option Addr) (sl : Array (Option Value)) (x : Int) (u : Tok) (c0 : (decide (x < -(2 ^ 63)) || decide (x ≥ 2 ^ 63)) = false) (c1 : (items.isEmpty || x == 1) = false) (c2 : (decide (x ≤ 0) || items.isEmpty) = true) :
    Meets (Builtin.«tuple.__mul__» ⟨[.ref l, .int x u], []⟩) (fun _ R s => s.heap.get? l = some { cls := .type "tuple", dict := dd, data := .seq items n, slots := sl } ∧
      R (.ok (.ret (Value.ref s.heap.objs.size))) { s with heap := s.heap.push { cls := Value.type "tuple", data := Data.seq #[] }, toks := s.toks }) :=
  .of_wp fun prog w A R s h => by
    obtain ⟨hp, g, d, tk, os⟩ := s
    obtain ⟨hl, h⟩ := h
    have f1 := AutoSeq1.idx_int
    wp_walk using wpAny_loadPart' hl
    repeat (first
      | (refine wpAny_ite_false (decide_eq_false (by rw [c0]; exact Bool.false_ne_true)) ?_; wp_walk using wpAny_loadPart' hl)
      | (refine wpAny_ite_false (decide_eq_false (by rw [c1]; exact Bool.false_ne_true)) ?_; wp_walk using wpAny_loadPart' hl)
      | (refine wpAny_ite_true (decide_eq_true c2) ?_; wp_walk using wpAny_loadPart' hl))
    exact ⟨_, rfl, h⟩
/-- tuple * n for every small n: none, itself, more -/
def rRepA (K : PySem.W.Frag) : R2 := fun x y H Q => ∃ l k xs, x = .ref l ∧ y = .int k ∧ SqT K H l xs ∧ -(2 ^ 62) ≤ k ∧ k ≤ 1000 ∧ xs.length ≤ 1000 ∧ (xs = [] ∨ k = 1 → Q (.ref l) H) ∧ (xs ≠ [] → k ≠ 1 → ∀ p, H p = none → Q (.ref p) (upd H p (.tup (List.replicate k.toNat xs).flatten)))
section
variable {X : Cx}
theorem op_repA : OpR X (binaryOp .Mult) (rRepA X.K) := by
  intro pins s σ H x y v u Q I rx ry h
  obtain ⟨l, k, xs, rfl, rfl, hT, h0, h1, hz, q1, q2⟩ := h
  by_cases hself : xs = [] ∨ k = 1
  · cases rx
    obtain ⟨t, rfl⟩ := ry
    obtain ⟨its, r, ⟨⟨cls, dd, data, sl⟩, ho, hc, n, hd⟩, hs⟩ := I.tuple hT
    simp only at hc hd
    subst hc hd
    have c0 : (decide (k < -(2 ^ 63)) || decide (k ≥ 2 ^ 63)) = false := by
      rw [decide_eq_false (by omega), decide_eq_false (by omega)] <;> rfl
    have c1 : (its.toArray.isEmpty || k == 1) = true := by
      rcases hself with e | e
      · subst e
        cases r
        rfl
      · subst e
        simp
    exact wpAny_binaryOp_repeat_ref (T := "tuple") (U := "int") (by decide) ⟨_, ho, rfl⟩ (fun s' => typeIs_int s' k t) noFill_tuple_mul F.fills_int_mul F.slot_int_rmul repeat_tuple F.slot_int_index.lookup
      (call_meets F.slot_int_rmul (typeIs_int s k t) F.entry_int_rmul (F.args_int_rmul_2 _ _) (int_rmul_tuple k t l its.toArray n dd sl)
        ⟨ho, rfl, ⟨_, ho, rfl⟩, call_meets F.slot_tuple_mul ⟨_, ho, rfl⟩ F.entry_tuple_mul (F.args_tuple_mul_2 _ _) (tuple_mul_self l its.toArray n dd sl k t c0 c1) ⟨ho, ⟨.ref l, H, I, rfl, q1 hself⟩⟩⟩)
  · rcases Int.lt_or_le k 1 with hk | hk
    · cases rx
      obtain ⟨t, rfl⟩ := ry
      obtain ⟨its, r, ⟨⟨cls, dd, data, sl⟩, ho, hc, n, hd⟩, hs⟩ := I.tuple hT
      simp only at hc hd
      subst hc hd
      have hne : xs ≠ [] := fun e => hself (.inl e)
      have hle : its.length = xs.length := r.length.symm
      have hn : its ≠ [] := fun e => hne (by
        rw [e] at hle
        exact List.eq_nil_of_length_eq_zero hle.symm)
      have hi : its.toArray.isEmpty = false := by
        cases its with
        | nil => exact absurd rfl hn
        | cons a b => rfl
      have c0 : (decide (k < -(2 ^ 63)) || decide (k ≥ 2 ^ 63)) = false := by
        rw [decide_eq_false (by omega), decide_eq_false (by omega)] <;> rfl
      have c1 : (its.toArray.isEmpty || k == 1) = false := by
        rw [hi, Bool.false_or]
        exact beq_eq_false_iff_ne.mpr (by omega)
      have c2 : (decide (k ≤ 0) || its.toArray.isEmpty) = true := by
        rw [decide_eq_true (by omega), Bool.true_or]
      refine wpAny_binaryOp_repeat_ref (T := "tuple") (U := "int") (by decide) ⟨_, ho, rfl⟩ (fun s' => typeIs_int s' k t) noFill_tuple_mul F.fills_int_mul F.slot_int_rmul repeat_tuple F.slot_int_index.lookup
        (call_meets F.slot_int_rmul (typeIs_int s k t) F.entry_int_rmul (F.args_int_rmul_2 _ _) (int_rmul_tuple k t l its.toArray n dd sl)
          ⟨ho, rfl, ⟨_, ho, rfl⟩, call_meets F.slot_tuple_mul ⟨_, ho, rfl⟩ F.entry_tuple_mul (F.args_tuple_mul_2 _ _) (tuple_mul_none l its.toArray n dd sl k t c0 c1 c2) ⟨ho, ?_⟩⟩)
      have q3 := q2 hne (by omega)
      rw [show k.toNat = 0 by omega] at q3
      refine ⟨.ref s.heap.objs.size, _, I.laid (t' := s.toks) (o := .tup []) (fun b ob q => Heap.get?_push_of_some _ q) (Nat.le_refl _) ?_, rfl, q3 _ (I.hok.fresh (Nat.le_refl _))⟩
      exact ⟨Nat.zero_le _, [], .nil, IsTup.new _ _⟩
    · exact op_repT pins s σ H _ _ v u Q I rx ry ⟨l, k, xs, rfl, rfl, hT, fun e => hself (.inl e), by omega, h1, hz, q2 (fun e => hself (.inl e)) (by omega)⟩
end
section
variable {K : PySem.W.Frag} {X : Cx} {pos : Pos} {e a b c : Expr} {ta tb tc : TE} {wa wb wc : DE}
def MulOk (i j : Int) : Prop := CMul i j ∨ CMulW i j
def gMul : GO := fun x y μ Q => match x, y with
  | .d (.int i), .d (.int j) => MulOk i j ∧ Q (.d (.int (i * j))) μ
  | x, .d (.int j) => (match view μ x with
    | some (true, xs) => (-4611686018427387904 ≤ j ∧ j ≤ 1000 ∧ xs.length ≤ 1000) ∧ Q (.d (.tuple (List.replicate j.toNat xs).flatten)) μ
    | some (false, xs) => (-(2 ^ 63) ≤ j ∧ j < 2 ^ 63 ∧ xs.length * j.toNat ≤ sizeLine) ∧ Q (.d (.list (List.replicate j.toNat xs).flatten)) μ
    | none => False)
  | _, _ => False
theorem do_mul (hK : X.K = K := by rfl) : DO K X (binaryOp .Mult) (fun x y H Q => rI CMul (fun i j => .int (i * j)) x y H Q ∨ rI CMulW (fun i j => .int (i * j)) x y H Q ∨ rRepA K x y H Q ∨ rRep x y H Q) gMul := by
  subst hK
  refine ⟨op_mul.or (op_mulW.or (op_repA.or op_rep)), fun F α μ H v u x y Q Q' R r1 r2 h k => ?_⟩
  unfold gMul at h
  split at h
  · cases r1
    cases r2
    rcases h.1 with c | c
    · exact .inl ⟨_, _, rfl, rfl, c, k.same R (.ofD (.int _)) h.2⟩
    · exact .inr (.inl ⟨_, _, rfl, rfl, c, k.same R (.ofD (.int _)) h.2⟩)
  · cases r2
    split at h
    · rename_i xs e1
      obtain ⟨a, vs, rfl, h1, d1⟩ := view_tup R r1 e1
      have l1 := dqAll_len d1
      obtain ⟨⟨c1, c2, c3⟩, h⟩ := h
      refine .inr (.inr (.inl ⟨a, _, vs, rfl, rfl, h1, by omega, c2, by omega, fun z => ?_, fun _ _ => k.tup R (dqAll_rep d1 _) h⟩))
      have ex : x = .d (.tuple xs) := by
        cases x with
        | d z => cases z <;> simp [view] at e1; subst e1; rfl
        | loc l =>
          simp only [view] at e1
          split at e1 <;> cases e1
        | scr l => cases e1
      have ef : ∀ j : Int, (xs = [] ∨ j = 1) → (List.replicate j.toNat xs).flatten = xs := by
        rintro j (e | e)
        · subst e
          simp
        · subst e
          simp
      subst ex
      rw [ef _ (z.imp (fun e => by
        subst e
        cases d1
        rfl) id)] at h
      exact k.same R r1 h
    · rename_i xs e1
      obtain ⟨a, vs, rfl, h1, d1⟩ := view_list R r1 e1
      obtain ⟨⟨c1, c2, c3⟩, h⟩ := h
      exact .inr (.inr (.inr ⟨a, _, vs, rfl, rfl, h1, c1, c2, by rw [dqAll_len d1]; exact c3, k.lst R (dqAll_rep d1 _) h⟩))
    · cases h
  · cases h
/-- new lists, to be owned: xs + ys, xs * n -/
def dnCat (wa wb : DE) : DN := fun σ μ Q => wa σ μ fun x μ1 => wb σ μ1 fun y μ2 => match view μ2 x, view μ2 y with
  | some (false, xs), some (false, ys) => xs.length + ys.length ≤ sizeLine ∧ Q (xs ++ ys) μ2
  | _, _ => False
theorem dn_cat (ha : DX K X a ta wa) (hb : DX K X b tb wb) : DNn K X (.BinOp a .Add b pos) (tOp rCat ta tb) (dnCat wa wb) := by
  refine ⟨pe_op op_cat ha.pe hb.pe, fun F α σ μ τ H Q Q' S h k => ?_⟩
  refine ha.sim F α σ μ τ H _ _ S h fun F1 α1 μ1 H1 v x e1 R1 r1 q1 => ?_
  refine hb.sim F1 α1 σ μ1 τ H1 _ _ ⟨R1, S.sl.mono e1⟩ q1 fun F2 α2 μ2 H2 u y e2 R2 r2 q2 => ?_
  split at q2
  · rename_i xs ys g1 g2
    obtain ⟨a, vs, rfl, h1, d1⟩ := view_list R2 (r1.mono e2) g1
    obtain ⟨b, us, rfl, h2, d2⟩ := view_list R2 r2 g2
    exact ⟨a, b, vs, us, rfl, rfl, h1, h2, by rw [dqAll_len d1, dqAll_len d2]; exact q2.1, (k.mono (e1.trans e2)).lst R2 (dqAll_app d1 d2) q2.2⟩
  · cases q2
def dnRep (wa wb : DE) : DN := fun σ μ Q => wa σ μ fun x μ1 => wb σ μ1 fun y μ2 => match view μ2 x, y with
  | some (false, xs), .d (.int j) => (-(2 ^ 63) ≤ j ∧ j < 2 ^ 63 ∧ xs.length * j.toNat ≤ sizeLine) ∧ Q (List.replicate j.toNat xs).flatten μ2
  | _, _ => False
theorem dn_rep (ha : DX K X a ta wa) (hb : DX K X b tb wb) : DNn K X (.BinOp a .Mult b pos) (tOp rRep ta tb) (dnRep wa wb) := by
  refine ⟨pe_op op_rep ha.pe hb.pe, fun F α σ μ τ H Q Q' S h k => ?_⟩
  refine ha.sim F α σ μ τ H _ _ S h fun F1 α1 μ1 H1 v x e1 R1 r1 q1 => ?_
  refine hb.sim F1 α1 σ μ1 τ H1 _ _ ⟨R1, S.sl.mono e1⟩ q1 fun F2 α2 μ2 H2 u y e2 R2 r2 q2 => ?_
  split at q2
  · rename_i xs j g1
    obtain ⟨a, vs, rfl, h1, d1⟩ := view_list R2 (r1.mono e2) g1
    cases r2
    obtain ⟨⟨c1, c2, c3⟩, h⟩ := q2
    exact ⟨a, _, vs, rfl, rfl, h1, c1, c2, by rw [dqAll_len d1]; exact c3, (k.mono (e1.trans e2)).lst R2 (dqAll_rep d1 _) h⟩
  · cases q2
def dUn (f : Int → Int) (wa : DE) : DE := fun σ μ Q => wa σ μ fun x μ1 => match x with
  | .d (.int i) => Q (.d (.int (f i))) μ1
  | _ => False
theorem dx_neg (ha : DX K X a ta wa) : DX K X (.UnaryOp .USub a pos) (tUn (rU fun i => .int (-i)) ta) (dUn (fun i => -i) wa) := by
  refine ⟨pe_un un_neg ha.pe, fun F α σ μ τ H Q Q' S h k => ?_⟩
  refine ha.sim F α σ μ τ H _ _ S h fun F1 α1 μ1 H1 v x e1 R1 r1 q1 => ?_
  split at q1
  · rename_i i
    cases r1
    exact ⟨i, rfl, (k.mono e1).same R1 (.ofD (.int _)) q1⟩
  · cases q1

/-! ### comparisons -/
def gCmpI (p : Int → Int → Bool) : GO := fun x y μ Q => match x, y with
  | .d (.int i), .d (.int j) => Q (.d (.bool (p i j))) μ
  | _, _ => False
theorem do_cmpI {op : CmpOp} {p : Int → Int → Bool} (h : OpR X (compareOp op) (rI0 fun i j => .bl (p i j))) : DO K X (compareOp op) (rI0 fun i j => .bl (p i j)) (gCmpI p) := by
  refine ⟨h, fun F α μ H v u x y Q Q' R r1 r2 h k => ?_⟩
  unfold gCmpI at h
  split at h
  · cases r1
    cases r2
    exact ⟨_, _, rfl, rfl, k.same R (.ofD (.bl _)) h⟩
  · cases h
def gLt : GO := gCmpI fun i j => decide (i < j)
def gLe : GO := gCmpI fun i j => decide (i ≤ j)
def gGt : GO := gCmpI fun i j => decide (j < i)
def gGe : GO := gCmpI fun i j => decide (j ≤ i)
theorem do_lt : DO K X (compareOp .Lt) (rI0 fun i j => .bl (decide (i < j))) gLt := do_cmpI op_lt
theorem do_le : DO K X (compareOp .LtE) (rI0 fun i j => .bl (decide (i ≤ j))) gLe := do_cmpI op_le
theorem do_gt : DO K X (compareOp .Gt) (rI0 fun i j => .bl (decide (j < i))) gGt := do_cmpI op_gt
theorem do_ge : DO K X (compareOp .GtE) (rI0 fun i j => .bl (decide (j ≤ i))) gGe := do_cmpI op_ge
/-- == of two ints, of two texts, of any data -/
def gEq : GO := fun x y μ Q => match x, y with
  | .d (.int i), .d (.int j) => Q (.d (.bool (decide (i = j)))) μ
  | .d (.str i), .d (.str j) => Q (.d (.bool (decide (i = j)))) μ
  | .d (.bool i), .d (.bool j) => Q (.d (.bool (decide (i = j)))) μ
  | x, y => match asD μ x, asD μ y with
    | some a, some b => (SeqAt.shaped a = true ∧ SeqAt.shaped b = true) ∧ Q (.d (.bool (PyData.eqv a b))) μ
    | _, _ => False
def gNe : GO := fun x y μ Q => match x, y with
  | .d (.int i), .d (.int j) => Q (.d (.bool (!decide (i = j)))) μ
  | .d (.str i), .d (.str j) => Q (.d (.bool (!decide (i = j)))) μ
  | .d (.bool i), .d (.bool j) => Q (.d (.bool (!decide (i = j)))) μ
  | x, y => match asD μ x, asD μ y with
    | some a, some b => (SeqAt.shaped a = true ∧ SeqAt.shaped b = true) ∧ Q (.d (.bool (!PyData.eqv a b))) μ
    | _, _ => False
theorem decI {i j : Int} : decide (V.int i = V.int j) = decide (i = j) := by simp
theorem decS {i j : Str} : decide (V.str i = V.str j) = decide (i = j) := by simp
theorem decB {i j : Bool} : decide (V.bl i = V.bl j) = decide (i = j) := by simp
theorem do_eq (hu : X.A.units + 64 < cLine) (hK : X.K = K := by rfl) : DO K X (compareOp .Eq) (fun x y H Q => rEq x y H Q ∨ rEqD K x y H Q) gEq := by
  subst hK
  refine ⟨op_eq.or (op_eqD hu), fun F α μ H v u x y Q Q' R r1 r2 h k => ?_⟩
  unfold gEq at h
  split at h
  · cases r1
    cases r2
    exact .inl ⟨rfl, by rw [decI]; exact k.same R (.ofD (.bl _)) h⟩
  · cases r1
    cases r2
    exact .inl ⟨rfl, by rw [decS]; exact k.same R (.ofD (.bl _)) h⟩
  · cases r1
    cases r2
    exact .inl ⟨rfl, by rw [decB]; exact k.same R (.ofD (.bl _)) h⟩
  · split at h
    · rename_i a b e1 e2
      exact .inr ⟨a, b, asD_ok R r1 e1, asD_ok R r2 e2, h.1.1, h.1.2, k.same R (.ofD (.bl _)) h.2⟩
    · cases h
theorem do_ne (hu : X.A.units + 64 < cLine) (hK : X.K = K := by rfl) : DO K X (compareOp .NotEq) (fun x y H Q => rNe x y H Q ∨ rNeD K x y H Q) gNe := by
  subst hK
  refine ⟨op_ne.or (op_neD hu), fun F α μ H v u x y Q Q' R r1 r2 h k => ?_⟩
  unfold gNe at h
  split at h
  · cases r1
    cases r2
    exact .inl ⟨rfl, by rw [decI]; exact k.same R (.ofD (.bl _)) h⟩
  · cases r1
    cases r2
    exact .inl ⟨rfl, by rw [decS]; exact k.same R (.ofD (.bl _)) h⟩
  · cases r1
    cases r2
    exact .inl ⟨rfl, by rw [decB]; exact k.same R (.ofD (.bl _)) h⟩
  · split at h
    · rename_i a b e1 e2
      exact .inr ⟨a, b, asD_ok R r1 e1, asD_ok R r2 e2, h.1.1, h.1.2, k.same R (.ofD (.bl _)) h.2⟩
    · cases h
/-- is None; is True, is False -/
def isNon : SV → Bool
  | .d .none => true
  | _ => false
def gIs : GO := fun x y μ Q => match x, y with
  | x, .d .none => Q (.d (.bool (isNon x))) μ
  | .d (.bool i), .d (.bool j) => Q (.d (.bool (decide (i = j)))) μ
  | .d .none, .d (.bool j) => Q (.d (.bool false)) μ
  | .d (.int _), .d (.bool j) => Q (.d (.bool false)) μ
  | _, _ => False
def gIsNot : GO := fun x y μ Q => match x, y with
  | x, .d .none => Q (.d (.bool (!isNon x))) μ
  | .d (.bool i), .d (.bool j) => Q (.d (.bool (!decide (i = j)))) μ
  | .d .none, .d (.bool j) => Q (.d (.bool true)) μ
  | _, _ => False
theorem isNon_ok {K : PySem.W.Frag} {F : Hp} {α : List Addr} {v : V} {x : SV} (r : RW K F α v x) : decide (v = .non) = isNon x := by
  cases x with
  | d z => cases z <;> cases r <;> rfl
  | loc k => obtain ⟨a, rfl, _⟩ := r; rfl
  | scr k => obtain ⟨a, rfl, _⟩ := r; rfl
def rIsNB : R2 := fun x y H Q => ∃ b : Bool, (x = .non ∨ ∃ i, x = .int i) ∧ y = .bl b ∧ Q (.bl false) H
theorem op_isNB : OpR X (compareOp .Is) rIsNB := by
  intro pins s σ H x y v u Q I rx ry h
  obtain ⟨b, rfl | ⟨i, rfl⟩, rfl, q⟩ := h
  · cases (show v = Value.none from rx)
    cases (show u = Value.bool b from ry)
    exact wpAny_is_other rfl (fun z => nomatch z) ⟨.bl false, H, I, rfl, q⟩
  · obtain ⟨t, rfl⟩ := (show ∃ t, v = Value.int i t from rx)
    cases (show u = Value.bool b from ry)
    exact wpAny_is_other rfl (fun z => nomatch z) ⟨.bl false, H, I, rfl, q⟩
def rIsNotNB : R2 := fun x y H Q => ∃ b : Bool, x = .non ∧ y = .bl b ∧ Q (.bl true) H
theorem op_isNotNB : OpR X (compareOp .IsNot) rIsNotNB := by
  intro pins s σ H x y v u Q I rx ry h
  obtain ⟨b, rfl, rfl, q⟩ := h
  cases (show v = Value.none from rx)
  cases (show u = Value.bool b from ry)
  exact wpAny_isNot_other rfl (fun z => nomatch z) ⟨.bl true, H, I, rfl, q⟩
theorem do_is : DO K X (compareOp .Is) (fun x y H Q => (y = .non ∧ Q (.bl (decide (x = .non))) H) ∨ rIsB x y H Q ∨ rIsNB x y H Q) gIs := by
  refine ⟨op_isN.or (op_isBl.or op_isNB), fun F α μ H v u x y Q Q' R r1 r2 h k => ?_⟩
  unfold gIs at h
  split at h
  · cases r2
    exact .inl ⟨rfl, by rw [isNon_ok r1]; exact k.same R (.ofD (.bl _)) h⟩
  · cases r1
    cases r2
    exact .inr (.inl ⟨_, _, rfl, rfl, k.same R (.ofD (.bl _)) h⟩)
  · cases r1
    cases r2
    exact .inr (.inr ⟨_, .inl rfl, rfl, k.same R (.ofD (.bl _)) h⟩)
  · cases r1
    cases r2
    exact .inr (.inr ⟨_, .inr ⟨_, rfl⟩, rfl, k.same R (.ofD (.bl _)) h⟩)
  · cases h
theorem do_isnot : DO K X (compareOp .IsNot) (fun x y H Q => (y = .non ∧ Q (.bl (!decide (x = .non))) H) ∨ rNotB x y H Q ∨ rIsNotNB x y H Q) gIsNot := by
  refine ⟨op_notN.or (op_notBl.or op_isNotNB), fun F α μ H v u x y Q Q' R r1 r2 h k => ?_⟩
  unfold gIsNot at h
  split at h
  · cases r2
    exact .inl ⟨rfl, by rw [isNon_ok r1]; exact k.same R (.ofD (.bl _)) h⟩
  · cases r1
    cases r2
    exact .inr (.inl ⟨_, _, rfl, rfl, k.same R (.ofD (.bl _)) h⟩)
  · cases r1
    cases r2
    exact .inr (.inr ⟨_, rfl, rfl, k.same R (.ofD (.bl _)) h⟩)
  · cases h
/-- in, not in: lists of any data, tuples of flat ones, a sign in a text -/
def flatD : PyData → Bool
  | .none => true
  | .bool _ => true
  | .int _ => true
  | .str _ => true
  | _ => false
theorem flat_ok {K : PySem.W.Frag} {F : Hp} {v : V} {d : PyData} (h : Dq K F v d) (f : flatD d = true) : flatV v = true := by cases h <;> first | rfl | cases f
theorem eqV_ok {K : PySem.W.Frag} {F : Hp} {v u : V} {d e : PyData} (h : Dq K F v d) (h' : Dq K F u e) (f : flatD d = true) (f' : flatD e = true) : eqV v u = PyData.eqv d e := by
  cases h <;> cases h' <;> first | rfl | (simp [eqV, PyData.eqv]; done) | (cases f; done) | (cases f'; done)
theorem flat_all {K : PySem.W.Frag} {F : Hp} : ∀ {vs : List V} {ds : List PyData}, DqAll K F vs ds → ds.all flatD = true → vs.all flatV = true
  | _, _, .nil, _ => rfl
  | _, _, .cons h r, f => by
    rw [List.all_cons, Bool.and_eq_true] at f ⊢
    exact ⟨flat_ok h f.1, flat_all r f.2⟩
theorem inV_ok {K : PySem.W.Frag} {F : Hp} {v : V} {d : PyData} (h : Dq K F v d) (f : flatD d = true) : ∀ {vs : List V} {ds : List PyData}, DqAll K F vs ds → ds.all flatD = true → inV v vs = ds.any fun z => PyData.eqv z d
  | _, _, .nil, _ => rfl
  | _, _, .cons h1 r, f1 => by
    rw [List.all_cons, Bool.and_eq_true] at f1
    have ih := inV_ok h f r f1.2
    unfold inV at ih ⊢
    rw [List.any_cons, List.any_cons, eqV_ok h1 h f1.1 f, ih]
def gInB (neg : Bool) : GO := fun x y μ Q => match x, y with
  | .d (.str i), .d (.str j) => Q (.d (.bool (if neg then !(!(Builtin.Str.occurrences j i 0 j.length 1).isEmpty) else !(Builtin.Str.occurrences j i 0 j.length 1).isEmpty))) μ
  | x, y => match asD μ x, view μ y with
    | some d, some (false, xs) => (SeqAt.shaped d = true ∧ SeqAt.shaped (.list xs) = true) ∧ Q (.d (.bool (if neg then !(xs.any fun z => PyData.eqv z d) else xs.any fun z => PyData.eqv z d))) μ
    | some d, some (true, xs) => (flatD d = true ∧ xs.all flatD = true) ∧ Q (.d (.bool (if neg then !(xs.any fun z => PyData.eqv z d) else xs.any fun z => PyData.eqv z d))) μ
    | _, _ => False
def gIn : GO := gInB false
def gNotIn : GO := gInB true
theorem view_asD {μ : Mu} {y : SV} {xs : List PyData} (h : view μ y = some (false, xs)) : asD μ y = some (.list xs) := by
  cases y with
  | d z => cases z <;> simp [view] at h; subst h; rfl
  | loc k =>
    simp only [view] at h
    split at h
    · rename_i e
      cases h
      simp only [asD]
      rw [e]
    · rename_i e
      cases h
      simp only [asD]
      rw [e]
    · cases h
  | scr k => cases h
theorem flat_asD {K : PySem.W.Frag} {F H : Hp} {α : List Addr} {μ : Mu} {v : V} {w : SV} {d : PyData} (R : Rel K F α μ H) (r : RW K F α v w) (h : asD μ w = some d) (f : flatD d = true) : Dq K F v d := by
  cases w with
  | d x => cases h; exact r
  | loc k =>
    simp only [asD] at h
    split at h
    · cases h; cases f
    · cases h; cases f
    · cases h
  | scr ns => cases h
theorem do_in (hu : X.A.units + 65 < cLine) (hK : X.K = K := by rfl) : DO K X (compareOp .In) (fun x y H Q => (∃ i j, x = .str i ∧ y = .str j ∧ Q (.bl (!(Builtin.Str.occurrences j i 0 j.length 1).isEmpty)) H) ∨ rInD K x y H Q ∨ rIn K false x y H Q) gIn := by
  subst hK
  refine ⟨op_in_str.or ((op_inD hu).or op_in_seq), fun F α μ H v u x y Q Q' R r1 r2 h k => ?_⟩
  unfold gIn gInB at h
  split at h
  · cases r1
    cases r2
    exact .inl ⟨_, _, rfl, rfl, k.same R (.ofD (.bl _)) h⟩
  · split at h
    · rename_i d xs e1 e2
      exact .inr (.inl ⟨d, xs, asD_ok R r1 e1, asD_ok R r2 (view_asD e2), h.1.1, h.1.2, k.same R (.ofD (.bl _)) h.2⟩)
    · rename_i d xs e1 e2
      obtain ⟨b, us, rfl, h2, d2⟩ := view_tup R r2 e2
      have d1 := flat_asD R r1 e1 h.1.1
      refine .inr (.inr ⟨b, us, rfl, .inr h2, flat_ok d1 h.1.1, flat_all d2 h.1.2, ?_⟩)
      rw [inV_ok d1 h.1.1 d2 h.1.2]
      exact k.same R (.ofD (.bl _)) h.2
    · cases h
theorem do_notin (hu : X.A.units + 65 < cLine) (hK : X.K = K := by rfl) : DO K X (compareOp .NotIn) (fun x y H Q => (∃ i j, x = .str i ∧ y = .str j ∧ Q (.bl (!(!(Builtin.Str.occurrences j i 0 j.length 1).isEmpty))) H) ∨ rNotInD K x y H Q ∨ rIn K true x y H Q) gNotIn := by
  subst hK
  refine ⟨op_notin_str.or ((op_notInD hu).or op_notIn_seq), fun F α μ H v u x y Q Q' R r1 r2 h k => ?_⟩
  unfold gNotIn gInB at h
  split at h
  · cases r1
    cases r2
    exact .inl ⟨_, _, rfl, rfl, k.same R (.ofD (.bl _)) h⟩
  · split at h
    · rename_i d xs e1 e2
      exact .inr (.inl ⟨d, xs, asD_ok R r1 e1, asD_ok R r2 (view_asD e2), h.1.1, h.1.2, k.same R (.ofD (.bl _)) h.2⟩)
    · rename_i d xs e1 e2
      obtain ⟨b, us, rfl, h2, d2⟩ := view_tup R r2 e2
      have d1 := flat_asD R r1 e1 h.1.1
      refine .inr (.inr ⟨b, us, rfl, .inr h2, flat_ok d1 h.1.1, flat_all d2 h.1.2, ?_⟩)
      rw [inV_ok d1 h.1.1 d2 h.1.2]
      exact k.same R (.ofD (.bl _)) h.2
    · cases h

/-! ### items, slices -/
def gIx : GO := fun x y μ Q => match x, y with
  | .d (.str z), .d (.int i) => z.length ≤ sizeLine ∧ (match atI z.cps.toList i with
    | some c => Q (.d (.str ⟨#[c]⟩)) μ
    | none => False)
  | x, .d (.int i) => (match view μ x with
    | some (_, xs) => (match atI xs i with
      | some d => Q (.d d) μ
      | none => False)
    | none => False)
  | _, _ => False
theorem atI_dq {K : PySem.W.Frag} {F : Hp} {vs : List V} {xs : List PyData} {i : Int} {d : PyData} (h : DqAll K F vs xs) (e : atI xs i = some d) : ∃ v, atI vs i = some v ∧ Dq K F v d := by
  unfold atI at e ⊢
  rw [dqAll_len h]
  cases q : ixN xs.length i with
  | none => rw [q] at e; cases e
  | some j =>
    rw [q] at e
    exact dqAll_get h e
theorem dx_ix (ha : DX K X a ta wa) (hb : DX K X b tb wb) (hs : PlainIx b := by exact fun _ _ => rfl) (hK : X.K = K := by rfl) : DX K X (.Subscript a b pos) (tOp (rIx K) ta tb) (dOp gIx wa wb) := by
  subst hK
  refine ⟨pe_ix ix_seq ha.pe hb.pe hs, simOp (fun F α μ H v u x y Q Q' R r1 r2 h k => ?_) ha.sim hb.sim⟩
  unfold gIx at h
  split at h
  · obtain ⟨hz, h⟩ := h
    cases r1
    cases r2
    split at h
    · rename_i c e
      exact .inr (.inr ⟨_, _, c, rfl, rfl, hz, e, k.same R (.ofD (.str _)) h⟩)
    · cases h
  · rename_i i _
    cases r2
    split at h
    · rename_i bb xs e1
      split at h
      · rename_i d e2
        cases bb with
        | true =>
          obtain ⟨p, vs, rfl, h1, d1⟩ := view_tup R r1 e1
          obtain ⟨v, e3, r3⟩ := atI_dq d1 e2
          exact .inr (.inl ⟨p, vs, _, v, rfl, rfl, h1, e3, k.same R (.ofD r3) h⟩)
        | false =>
          -- an item of a cell is data, too
          have : ∃ p vs, v = .ref p ∧ H p = some (.lst vs) ∧ DqAll X.K F vs xs := view_list R r1 e1
          obtain ⟨p, vs, rfl, h1, d1⟩ := this
          obtain ⟨v, e3, r3⟩ := atI_dq d1 e2
          exact .inl ⟨p, vs, _, v, rfl, rfl, SqL.of h1, e3, k.same R (.ofD r3) h⟩
      · cases h
    · cases h
  · cases h
def cutD (xs : List PyData) (lo hi : Option Int) : List PyData := (xs.drop (HT.sIx xs.length 0 lo)).take (HT.sIx xs.length xs.length hi - HT.sIx xs.length 0 lo)
theorem cut_dq {K : PySem.W.Frag} {F : Hp} {vs : List V} {xs : List PyData} (h : DqAll K F vs xs) (lo hi : Option Int) : DqAll K F (cutV vs lo hi) (cutD xs lo hi) := by
  unfold cutV cutD
  rw [dqAll_len h]
  exact dqAll_take _ (dqAll_drop _ h)
abbrev DO' := Sl → Mu → (Option Int → Mu → Prop) → Prop
structure DPo (K : PySem.W.Frag) (X : Cx) (e : Option Expr) (t : TO) (w : DO') : Prop where
  po : PO X e t
  sim : ∀ F α σ μ τ H Q (Q' : Option Int → Hp → Prop), S0 K F α σ μ τ H → w σ μ Q → (∀ F' α' μ' H' o, Ext F α H F' α' H' → Rel K F' α' μ' H' → Q o μ' → Q' o H') → t τ H Q'
def dNoPart : DO' := fun _ μ Q => Q none μ
def dPart (w : DE) : DO' := fun σ μ Q => w σ μ fun x μ1 => match x with
  | .d (.int i) => Q (some i) μ1
  | _ => False
theorem dpo_none : DPo K X none tNoPart dNoPart := ⟨po_none, fun F α σ μ τ H Q Q' S h k => k F α μ H none (Ext.refl _ _ _) S.rel h⟩
theorem dpo_some (ha : DX K X a ta wa) : DPo K X (some a) (tPart ta) (dPart wa) := by
  refine ⟨po_some ha.pe, fun F α σ μ τ H Q Q' S h k => ?_⟩
  refine ha.sim F α σ μ τ H _ _ S h fun F1 α1 μ1 H1 v x e1 R1 r1 q1 => ?_
  split at q1
  · rename_i i
    cases r1
    exact ⟨i, rfl, k F1 α1 μ1 H1 _ e1 R1 q1⟩
  · cases q1
def dSlice (wa : DE) (wl wh : DO') : DE := fun σ μ Q => wa σ μ fun x μ1 => wl σ μ1 fun lo μ2 => wh σ μ2 fun hi μ3 => match view μ3 x with
  | some (true, xs) => Q (.d (.tuple (cutD xs lo hi))) μ3
  | some (false, xs) => Q (.d (.list (cutD xs lo hi))) μ3
  | none => False
theorem cut_whole {α : Type} (xs : List α) {i j : Nat} (h : i = 0 ∧ j = xs.length) : (xs.drop i).take (j - i) = xs := by
  obtain ⟨rfl, rfl⟩ := h
  simp
theorem dx_slice {lo hi : Option Expr} {tl th : TO} {wl wh : DO'} {p2 : Pos} (ha : DX K X a ta wa) (hl : DPo K X lo tl wl) (hh : DPo K X hi th wh) (hK : X.K = K := by rfl) : DX K X (.Subscript a (.Slice lo hi none p2) pos) (tSl (fun x lo hi H Q => rSlL K x lo hi H Q ∨ rSlA K x lo hi H Q) ta tl th) (dSlice wa wl wh) := by
  subst hK
  refine ⟨pe_slice (sl_list.or sl_tupA) ha.pe hl.po hh.po, fun F α σ μ τ H Q Q' S h k => ?_⟩
  refine ha.sim F α σ μ τ H _ _ S h fun F1 α1 μ1 H1 v x e1 R1 r1 q1 => ?_
  refine hl.sim F1 α1 σ μ1 τ H1 _ _ ⟨R1, S.sl.mono e1⟩ q1 fun F2 α2 μ2 H2 o e2 R2 q2 => ?_
  refine hh.sim F2 α2 σ μ2 τ H2 _ _ ⟨R2, S.sl.mono (e1.trans e2)⟩ q2 fun F3 α3 μ3 H3 o' e3 R3 q3 => ?_
  have r3 := r1.mono (e2.trans e3)
  have k3 := k.mono (e1.trans (e2.trans e3))
  split at q3
  · rename_i xs ev
    obtain ⟨p, vs, rfl, h1, d1⟩ := view_tup R3 r3 ev
    refine .inr ⟨p, vs, rfl, h1, fun hw => ?_, fun hw => k3.tup R3 (cut_dq d1 o o') q3⟩
    have hx : x = .d (.tuple xs) := by
      revert ev
      cases x with
      | d z => cases z <;> simp [view]
      | loc k => intro e1; simp only [view] at e1; split at e1 <;> cases e1
      | scr ns => intro e1; cases e1
    subst hx
    have l1 := dqAll_len d1
    have e : cutD xs o o' = xs := cut_whole xs (by rw [← l1]; exact hw)
    rw [e] at q3
    exact k3.same R3 r3 q3
  · rename_i xs ev
    obtain ⟨p, vs, rfl, h1, d1⟩ := view_list R3 r3 ev
    exact .inl ⟨p, vs, rfl, SqL.of h1, k3.lst R3 (cut_dq d1 o o') q3⟩
  · cases q3

/-! ### calls of what is built in -/
abbrev GC := List SV → Mu → KD → Prop
structure DCb (K : PySem.W.Frag) (X : Cx) (f : Value) (r : List V → Hp → VK → Prop) (g : GC) : Prop where
  op : CallR X f r
  sim : ∀ F α μ H vs xs Q Q', Rel K F α μ H → RWs K F α vs xs → g xs μ Q → CtE K F α H Q Q' → r vs H Q'
def dCb (g : GC) (w : DA) : DE := fun σ μ Q => w σ μ fun xs μ1 => g xs μ1 Q
variable {es : List Expr} {tA : TA} {wA : DA} {x : Str} {p : Pos}
theorem dx_cb {id : String} {r : List V → Hp → VK → Prop} {g : GC} (h : DCb K X (.builtin id) r g) (hm : X.mg x = none) (ha : DAa K X (e :: es) tA wA) (hv : bootBuiltins x = some (.builtin id) := by decide +kernel) (hg : Gl X x := by rfl)
    (hn : x ≠ "__name__" := by decide) (hdb : (x == ("__debug__" : Str)) = false := by decide) (he : starEach (e :: es) X.env = (false, eval e X.env) :: starEach es X.env := by rfl) (hpl : (backTo pos (starEach es X.env)).any (·.1) = false := by rfl) : DX K X (.Call (.Name x p) (e :: es) [] pos) (tCB r tA) (dCb g wA) :=
  ⟨pe_callB h.op hg hm hv ha.pa hn hdb he hpl, fun F α σ μ τ H Q Q' S hw k => ha.sim F α σ μ τ H _ _ S hw fun F1 α1 μ1 H1 vs xs e1 R1 r1 q1 => h.sim F1 α1 μ1 H1 vs xs Q Q' R1 r1 q1 (k.mono e1)⟩
theorem dx_cty {id : String} {r : List V → Hp → VK → Prop} {g : GC} (h : DCb K X (.type id) r g) (hm : X.mg x = none) (ha : DAa K X (e :: es) tA wA) (hv : bootBuiltins x = some (.type id) := by decide +kernel) (hg : Gl X x := by rfl)
    (hn : x ≠ "__name__" := by decide) (hdb : (x == ("__debug__" : Str)) = false := by decide) (he : starEach (e :: es) X.env = (false, eval e X.env) :: starEach es X.env := by rfl) (hpl : (backTo pos (starEach es X.env)).any (·.1) = false := by rfl) : DX K X (.Call (.Name x p) (e :: es) [] pos) (tCB r tA) (dCb g wA) :=
  ⟨pe_callTy h.op hg hm hv ha.pa hn hdb he hpl, fun F α σ μ τ H Q Q' S hw k => ha.sim F α σ μ τ H _ _ S hw fun F1 α1 μ1 H1 vs xs e1 R1 r1 q1 => h.sim F1 α1 μ1 H1 vs xs Q Q' R1 r1 q1 (k.mono e1)⟩
def gAbs : GC := fun xs μ Q => match xs with
  | [.d (.int i)] => Q (.d (.int (if i < 0 then -i else i))) μ
  | _ => False
theorem dc_abs : DCb K X (.builtin "abs") (fun xs H Q => ∃ i, xs = [.int i] ∧ Q (.int (if i < 0 then -i else i)) H) gAbs := by
  refine ⟨call_abs, fun F α μ H vs xs Q Q' R r h k => ?_⟩
  unfold gAbs at h
  split at h
  · cases r with
    | cons r1 r2 =>
      cases r2
      cases r1
      exact ⟨_, rfl, k.same R (.ofD (.int _)) h⟩
  · cases h
def gMin2 : GC := fun xs μ Q => match xs with
  | [.d (.int i), .d (.int j)] => Q (.d (.int (if j < i then j else i))) μ
  | _ => False
theorem dc_min2 (hc : X.calm = true := by rfl) : DCb K X (.builtin "min") (fun xs H Q => ∃ i j, xs = [.int i, .int j] ∧ Q (.int (if j < i then j else i)) H) gMin2 := by
  refine ⟨call_min2 hc, fun F α μ H vs xs Q Q' R r h k => ?_⟩
  unfold gMin2 at h
  split at h
  · cases r with
    | cons r1 r2 =>
      cases r2 with
      | cons r2 r3 =>
        cases r3
        cases r1
        cases r2
        exact ⟨_, _, rfl, k.same R (.ofD (.int _)) h⟩
  · cases h
def gMax2 : GC := fun xs μ Q => match xs with
  | [.d (.int i), .d (.int j)] => Q (.d (.int (if j > i then j else i))) μ
  | _ => False
theorem dc_max2 (hc : X.calm = true := by rfl) : DCb K X (.builtin "max") (fun xs H Q => ∃ i j, xs = [.int i, .int j] ∧ Q (.int (if j > i then j else i)) H) gMax2 := by
  refine ⟨call_max2 hc, fun F α μ H vs xs Q Q' R r h k => ?_⟩
  unfold gMax2 at h
  split at h
  · cases r with
    | cons r1 r2 =>
      cases r2 with
      | cons r2 r3 =>
        cases r3
        cases r1
        cases r2
        exact ⟨_, _, rfl, k.same R (.ofD (.int _)) h⟩
  · cases h
def gInt1 : GC := fun xs μ Q => match xs with
  | [.d (.int i)] => Q (.d (.int i)) μ
  | [.d (.bool b)] => Q (.d (.int (if b then 1 else 0))) μ
  | _ => False
theorem dc_int1 : DCb K X (.type "int") (fun xs H Q => (∃ i, xs = [.int i] ∧ Q (.int i) H) ∨ ∃ k, xs = [.bl k] ∧ Q (.int (if k then 1 else 0)) H) gInt1 := by
  refine ⟨call_int1, fun F α μ H vs xs Q Q' R r h k => ?_⟩
  unfold gInt1 at h
  split at h
  · cases r with
    | cons r1 r2 =>
      cases r2
      cases r1
      exact .inl ⟨_, rfl, k.same R (.ofD (.int _)) h⟩
  · cases r with
    | cons r1 r2 =>
      cases r2
      cases r1
      exact .inr ⟨_, rfl, k.same R (.ofD (.int _)) h⟩
  · cases h
/-- len -/
def gLen : GC := fun xs μ Q => match xs with
  | [.d (.str z)] => z.length ≤ sizeLine ∧ Q (.d (.int z.length)) μ
  | [.loc k] => (match μ[k]? with
    | some (.lst ys) => Q (.d (.int ys.length)) μ
    | some (.dk ys) => Q (.d (.int ys.length)) μ
    | some (.frz ys) => Q (.d (.int ys.length)) μ
    | _ => False)
  | [x] => (match view μ x with
    | some (_, ys) => Q (.d (.int ys.length)) μ
    | none => False)
  | _ => False
theorem dc_len (hK : X.K = K := by rfl) : DCb K X (.builtin "len") (fun xs H Q => (∃ z, xs = [.str z] ∧ z.length ≤ sizeLine ∧ Q (.int z.length) H) ∨ (∃ a kvs, xs = [V.ref a] ∧ H a = some (.dK kvs) ∧ Q (.int kvs.length) H) ∨ ∃ p ys, xs = [.ref p] ∧ (SqL K H p ys ∨ SqT K H p ys) ∧ Q (.int ys.length) H) gLen := by
  subst hK
  refine ⟨call_len_str.or (call_lenD.or call_len_seq), fun F α μ H vs xs Q Q' R r h k => ?_⟩
  unfold gLen at h
  split at h
  · cases r with
    | cons r1 r2 =>
      cases r2
      cases r1
      exact .inl ⟨_, rfl, h.1, k.same R (.ofD (.int _)) h.2⟩
  · cases r with
    | cons r1 r2 =>
      cases r2
      obtain ⟨a, rfl, ha⟩ := r1
      split at h
      · rename_i ys e
        obtain ⟨_, vs, e1, d⟩ := R.cell _ a _ ha e
        exact .inr (.inr ⟨a, vs, rfl, .inl (SqL.of e1), by rw [dqAll_len d]; exact k.same R (.ofD (.int _)) h⟩)
      · rename_i ys e
        obtain ⟨_, vs, e1, d, _⟩ := R.cell _ a _ ha e
        have hl : vs.length = ys.length := by simpa using congrArg List.length d
        exact .inr (.inl ⟨a, vs, rfl, e1, by rw [hl]; exact k.same R (.ofD (.int _)) h⟩)
      · rename_i ys e
        obtain ⟨vs, _, e1, d⟩ := R.cell _ a _ ha e
        exact .inr (.inr ⟨a, vs, rfl, .inl (SqL.of e1), by rw [dqAll_len d]; exact k.same R (.ofD (.int _)) h⟩)
      · cases h
  · cases r with
    | cons r1 r2 =>
      cases r2
      split at h
      · rename_i bb ys e
        cases bb with
        | true =>
          obtain ⟨p, us, rfl, h1, d1⟩ := view_tup R r1 e
          exact .inr (.inr ⟨p, us, rfl, .inr h1, by rw [dqAll_len d1]; exact k.same R (.ofD (.int _)) h⟩)
        | false =>
          obtain ⟨p, us, rfl, h1, d1⟩ := view_list R r1 e
          exact .inr (.inr ⟨p, us, rfl, .inl (SqL.of h1), by rw [dqAll_len d1]; exact k.same R (.ofD (.int _)) h⟩)
      · cases h
  · cases h
/-- tuple(x) -/
def gTuple : GC := fun xs μ Q => match xs with
  | [x] => (match view μ x with
    | some (_, ys) => Q (.d (.tuple ys)) μ
    | none => False)
  | _ => False
theorem dc_tuple (hK : X.K = K := by rfl) : DCb K X (.type "tuple") (fun xs H Q => ∃ p ys, xs = [.ref p] ∧ ((SqL K H p ys ∧ ∀ l, H l = none → Q (.ref l) (upd H l (.tup ys))) ∨ (SqT K H p ys ∧ Q (.ref p) H))) gTuple := by
  subst hK
  refine ⟨call_tuple_of, fun F α μ H vs xs Q Q' R r h k => ?_⟩
  unfold gTuple at h
  split at h
  · rename_i x
    cases r with
    | cons r1 r2 =>
      cases r2
      split at h
      · rename_i bb ys e
        cases bb with
        | true =>
          obtain ⟨p, us, rfl, h1, d1⟩ := view_tup R r1 e
          have hx : x = .d (.tuple ys) := by
            revert e
            cases x with
            | d z => cases z <;> simp [view]
            | loc k => intro e1; simp only [view] at e1; split at e1 <;> cases e1
            | scr ns => intro e1; cases e1
          subst hx
          exact ⟨p, us, rfl, .inr ⟨h1, k.same R r1 h⟩⟩
        | false =>
          obtain ⟨p, us, rfl, h1, d1⟩ := view_list R r1 e
          exact ⟨p, us, rfl, .inl ⟨SqL.of h1, k.tup R d1 h⟩⟩
      · cases h
  · cases h
/-- list(x): a new list -/
def dnList (w : DA) : DN := fun σ μ Q => w σ μ fun xs μ1 => match xs with
  | [.scr ns] => Q (ns.map PyData.int) μ1
  | [x] => (match view μ1 x with
    | some (_, ys) => Q ys μ1
    | none => False)
  | _ => False
theorem dn_list (hm : X.mg "list" = none) (ha : DAa K X [e] tA wA) (hg : Gl X "list" := by rfl) (he : starEach [e] X.env = (false, eval e X.env) :: starEach [] X.env := by rfl) (hpl : (backTo pos (starEach [] X.env)).any (·.1) = false := by rfl) (hK : X.K = K := by rfl) :
    DNn K X (.Call (.Name "list" p) [e] [] pos) (tCB (fun xs H Q => ∃ p ys, xs = [.ref p] ∧ (SqL K H p ys ∨ SqT K H p ys) ∧ ∀ l, H l = none → Q (.ref l) (upd H l (.lst ys))) tA) (dnList wA) := by
  subst hK
  refine ⟨pe_callTy call_list_of hg hm (by decide +kernel) ha.pa (by decide) (by decide) he hpl, fun F α σ μ τ H Q Q' S hw k => ha.sim F α σ μ τ H _ _ S hw fun F1 α1 μ1 H1 vs xs e1 R1 r1 q1 => ?_⟩
  split at q1
  · cases r1 with
    | cons r1 r2 =>
      cases r2
      obtain ⟨a, rfl, ha⟩ := r1
      exact ⟨a, _, rfl, .inl (R1.sub.seq ha), (k.mono e1).lst R1 (dqAll_ints _) q1⟩
  · cases r1 with
    | cons r1 r2 =>
      cases r2
      split at q1
      · rename_i bb ys e
        cases bb with
        | true =>
          obtain ⟨p, us, rfl, h1, d1⟩ := view_tup R1 r1 e
          exact ⟨p, us, rfl, .inr h1, (k.mono e1).lst R1 d1 q1⟩
        | false =>
          obtain ⟨p, us, rfl, h1, d1⟩ := view_list R1 r1 e
          exact ⟨p, us, rfl, .inl (SqL.of h1), (k.mono e1).lst R1 d1 q1⟩
      · cases q1
  · cases q1
/-- all(xs), any(xs): of a list of bools -/
def bools : List PyData → Option (List Bool)
  | [] => some []
  | .bool b :: r => (bools r).map (b :: ·)
  | _ :: _ => none
theorem bools_eq : ∀ {xs : List PyData} {bs : List Bool}, bools xs = some bs → xs = bs.map PyData.bool
  | [], _, h => by cases h; rfl
  | .bool b :: r, bs, h => by
    unfold bools at h
    cases e : bools r with
    | none => rw [e] at h; cases h
    | some q => rw [e] at h; cases h; rw [bools_eq e]; rfl
  | .none :: _, _, h => by cases h
  | .int _ :: _, _, h => by cases h
  | .str _ :: _, _, h => by cases h
  | .list _ :: _, _, h => by cases h
  | .tuple _ :: _, _, h => by cases h
  | .dict _ :: _, _, h => by cases h
theorem bools_map : ∀ bs : List Bool, bools (bs.map PyData.bool) = some bs
  | [] => rfl
  | b :: r => by
    show (bools (r.map PyData.bool)).map (b :: ·) = some (b :: r)
    rw [bools_map r]
    rfl
def gAll : GC := fun xs μ Q => match xs with
  | [x] => (match view μ x with
    | some (false, ys) => (match bools ys with
      | some bs => Q (.d (.bool (bs.all id))) μ
      | none => False)
    | _ => False)
  | _ => False
def gAny : GC := fun xs μ Q => match xs with
  | [x] => (match view μ x with
    | some (false, ys) => (match bools ys with
      | some bs => Q (.d (.bool (bs.any id))) μ
      | none => False)
    | _ => False)
  | _ => False
theorem dc_all (hc : X.calm = true := by rfl) (hK : X.K = K := by rfl) : DCb K X (.builtin "all") (rAll K) gAll := by
  subst hK
  refine ⟨cr_all hc, fun F α μ H vs xs Q Q' R r h k => ?_⟩
  unfold gAll at h
  split at h
  · cases r with
    | cons r1 r2 =>
      cases r2
      split at h
      · rename_i ys e
        split at h
        · rename_i bs eb
          obtain ⟨p, us, rfl, h1, d1⟩ := view_list R r1 e
          rw [bools_eq eb] at d1
          rw [dqAll_bools_inv d1] at h1
          exact ⟨p, bs, rfl, SqL.of h1, k.same R (.ofD (.bl _)) h⟩
        · cases h
      · cases h
  · cases h
theorem dc_any (hc : X.calm = true := by rfl) (hK : X.K = K := by rfl) : DCb K X (.builtin "any") (rAny K) gAny := by
  subst hK
  refine ⟨cr_any hc, fun F α μ H vs xs Q Q' R r h k => ?_⟩
  unfold gAny at h
  split at h
  · cases r with
    | cons r1 r2 =>
      cases r2
      split at h
      · rename_i ys e
        split at h
        · rename_i bs eb
          obtain ⟨p, us, rfl, h1, d1⟩ := view_list R r1 e
          rw [bools_eq eb] at d1
          rw [dqAll_bools_inv d1] at h1
          exact ⟨p, bs, rfl, SqL.of h1, k.same R (.ofD (.bl _)) h⟩
        · cases h
      · cases h
  · cases h
/-- ints of a list -/
def intsOf : List PyData → Option (List Int)
  | [] => some []
  | .int b :: r => (intsOf r).map (b :: ·)
  | _ :: _ => none
theorem intsOf_eq : ∀ {xs : List PyData} {bs : List Int}, intsOf xs = some bs → xs = bs.map PyData.int
  | [], _, h => by cases h; rfl
  | .int b :: r, bs, h => by
    unfold intsOf at h
    cases e : intsOf r with
    | none => rw [e] at h; cases h
    | some q => rw [e] at h; cases h; rw [intsOf_eq e]; rfl
  | .none :: _, _, h => by cases h
  | .bool _ :: _, _, h => by cases h
  | .str _ :: _, _, h => by cases h
  | .list _ :: _, _, h => by cases h
  | .tuple _ :: _, _, h => by cases h
  | .dict _ :: _, _, h => by cases h
theorem intsOf_map : ∀ bs : List Int, intsOf (bs.map PyData.int) = some bs
  | [] => rfl
  | b :: r => by
    show (intsOf (r.map PyData.int)).map (b :: ·) = some (b :: r)
    rw [intsOf_map r]
    rfl
def gSum : GC := fun xs μ Q => match xs with
  | [x] => (match view μ x with
    | some (false, ys) => (match intsOf ys with
      | some ns => Q (.d (.int ns.sum)) μ
      | none => False)
    | _ => False)
  | _ => False
theorem dc_sum (hc : X.calm = true := by rfl) (hK : X.K = K := by rfl) : DCb K X (.builtin "sum") (rSum K) gSum := by
  subst hK
  refine ⟨cr_sum hc, fun F α μ H vs xs Q Q' R r h k => ?_⟩
  unfold gSum at h
  split at h
  · cases r with
    | cons r1 r2 =>
      cases r2
      split at h
      · rename_i ys e
        split at h
        · rename_i bs eb
          obtain ⟨p, us, rfl, h1, d1⟩ := view_list R r1 e
          rw [intsOf_eq eb] at d1
          rw [dqAll_ints_inv d1] at h1
          exact ⟨p, bs, rfl, SqL.of h1, k.same R (.ofD (.int _)) h⟩
        · cases h
      · cases h
  · cases h
/-- isinstance(x, T) -/
inductive Ty7 where | int | bool | str | tuple | list | dict
def Ty7.name : Ty7 → String
  | .int => "int" | .bool => "bool" | .str => "str" | .tuple => "tuple" | .list => "list" | .dict => "dict"
def tyNm (μ : Mu) : SV → Option String
  | .d .none => some "NoneType"
  | .d (.bool _) => some "bool"
  | .d (.int _) => some "int"
  | .d (.str _) => some "str"
  | .d (.list _) => some "list"
  | .d (.tuple _) => some "tuple"
  | .d (.dict _) => none
  | .loc k => match μ[k]? with
    | some (.lst _) => some "list"
    | some (.dk _) => some "dict"
    | some (.dt _) => some "dict"
    | _ => none
  | .scr _ => none
def isSub (a : String) (T : Ty7) : Bool := match T, a with
  | .int, "int" => true | .int, "bool" => true | .bool, "bool" => true | .str, "str" => true | .tuple, "tuple" => true | .list, "list" => true | .dict, "dict" => true
  | _, _ => false
def dIsi (T : Ty7) (wa : DE) : DE := fun σ μ Q => wa σ μ fun x μ1 => match tyNm μ1 x with
  | some a => Q (.d (.bool (isSub a T))) μ1
  | none => False
theorem kit7 (a : String) (h : a = "NoneType" ∨ a = "bool" ∨ a = "int" ∨ a = "str" ∨ a = "list" ∨ a = "tuple" ∨ a = "dict") (T : Ty7) : kitB a T.name = some (isSub a T) := by
  rcases h with rfl | rfl | rfl | rfl | rfl | rfl | rfl <;> cases T <;> decide +kernel
theorem ty_ok {K : PySem.W.Frag} {F H : Hp} {α : List Addr} {μ : Mu} {v : V} {x : SV} {a : String} (R : Rel K F α μ H) (r : RW K F α v x) (h : tyNm μ x = some a) : TyX K H v (.type a) ∧ (a = "NoneType" ∨ a = "bool" ∨ a = "int" ∨ a = "str" ∨ a = "list" ∨ a = "tuple" ∨ a = "dict") := by
  cases x with
  | d z =>
    cases z with
    | none => cases h; cases r; exact ⟨.base .non, by simp⟩
    | bool b => cases h; cases r; exact ⟨.base (.bl b), by simp⟩
    | int i => cases h; cases r; exact ⟨.base (.int i), by simp⟩
    | str i => cases h; cases r; exact ⟨.base (.str i), by simp⟩
    | list xs =>
      cases h
      cases r with
      | lst hs _ => exact ⟨.base (.lst (R.sub _ _ hs)), by simp⟩
    | tuple xs =>
      cases h
      cases r with
      | tup hs _ =>
        rcases hs with (q | ⟨o, q⟩) | ⟨o, its, n, q, c, _⟩
        · exact ⟨.base (.tup (R.sub _ _ q)), by simp⟩
        · exact ⟨.fTuple (R.sub _ _ q), by simp⟩
        · exact ⟨.kTuple q c, by simp⟩
    | dict xs => cases h
  | loc k =>
    obtain ⟨p, rfl, hp⟩ := r
    simp only [tyNm] at h
    split at h
    · rename_i e
      cases h
      obtain ⟨_, vs, e1, _⟩ := R.cell k p _ hp e
      exact ⟨.base (.lst e1), by simp⟩
    · rename_i e
      cases h
      obtain ⟨_, vs, e1, _⟩ := R.cell k p _ hp e
      exact ⟨.base (.dK e1), by simp⟩
    · rename_i e
      cases h
      obtain ⟨_, vs, e1, _⟩ := R.cell k p _ hp e
      exact ⟨.base (.dT e1), by simp⟩
    · cases h
  | scr ns => cases h
theorem dx_isi (T : Ty7) {y : Str} {p2 : Pos} (hm : X.mg "isinstance" = none) (hm2 : X.mg y = none) (ha : DX K X a ta wa) (hy : bootBuiltins y = some (.type T.name) := by decide +kernel) (hg : Gl X "isinstance" := by rfl) (hg2 : Gl X y := by rfl)
    (hn : y ≠ "__name__" := by decide) (hdb : (y == ("__debug__" : Str)) = false := by decide)
    (he : starEach [a, .Name y p2] X.env = (false, eval a X.env) :: starEach [.Name y p2] X.env := by rfl) (he2 : starEach [.Name y p2] X.env = (false, eval (.Name y p2) X.env) :: starEach [] X.env := by rfl) (hpl : (backTo pos (starEach [.Name y p2] X.env)).any (·.1) = false := by rfl) (hK : X.K = K := by rfl) :
    DX K X (.Call (.Name "isinstance" p) [a, .Name y p2] [] pos) (tCB (rIsi K) (tCons ta (tCons (tC (.ty T.name)) tNil))) (dIsi T wa) := by
  subst hK
  refine ⟨pe_callB call_isi hg hm (by decide +kernel) (pa_cons ha.pe (pa_cons (pe_bltn hg2 hm2 hy rfl hn hdb) pa_nil he2) he) (by decide) (by decide) he hpl, fun F α σ μ τ H Q Q' S hw k => ha.sim F α σ μ τ H _ _ S hw fun F1 α1 μ1 H1 v x e1 R1 r1 q1 => ?_⟩
  split at q1
  · rename_i t e
    obtain ⟨ty, hc⟩ := ty_ok R1 r1 e
    exact ⟨v, .ty T.name, .type t, .type T.name, isSub t T, rfl, .ty _, ty, kit_ty (kit7 t hc T), (k.mono e1).same R1 (.ofD (.bl _)) q1⟩
  · cases q1

/-! ### what a loop walks -/
theorem itOk_list {K : PySem.W.Frag} {F H : Hp} {α : List Addr} {p : Addr} {vs : List V} {xs : List PyData} (hp : F p = some (.lst vs)) (h : DqAll K F vs xs) : ItOk K F α H (Itl K p) xs := by
  intro F1 α1 μ1 H1 i e1 R1
  have hq : SqL K H1 p vs := SqL.of (R1.sub _ _ (e1.same _ _ hp))
  refine ⟨fun x hx => ?_, fun hi => ⟨vs, hq, by rw [dqAll_len h]; exact hi⟩⟩
  obtain ⟨v, hv, r⟩ := dqAll_get h hx
  refine ⟨⟨vs, v, hq, hv⟩, fun u H2 hy => ?_⟩
  obtain ⟨rfl, hy⟩ := hy
  have := hy vs hq
  rw [hv] at this
  cases this
  exact ⟨F1, Ext.refl _ _ _, R1, dqMono e1.same r⟩
theorem itOk_tup {K : PySem.W.Frag} {F H : Hp} {α : List Addr} {p : Addr} {vs : List V} {xs : List PyData} (hp : SqT K F p vs) (h : DqAll K F vs xs) : ItOk K F α H (Itt K p) xs := by
  intro F1 α1 μ1 H1 i e1 R1
  have hq : SqT K H1 p vs := Same.seqT R1.sub (Same.seqT e1.same hp)
  refine ⟨fun x hx => ?_, fun hi => ⟨vs, hq, by rw [dqAll_len h]; exact hi⟩⟩
  obtain ⟨v, hv, r⟩ := dqAll_get h hx
  refine ⟨⟨vs, v, hq, hv⟩, fun u H2 hy => ?_⟩
  obtain ⟨rfl, hy⟩ := hy
  have := hy vs hq
  rw [hv] at this
  cases this
  exact ⟨F1, Ext.refl _ _ _, R1, dqMono e1.same r⟩
end
end DL
namespace DL
open PySem PySem.Spec PyProof.Rows L2
section
variable {K : PySem.W.Frag} {X : Cx} {pos tpos : Pos} {tg e e2 a b c : Expr} {ta tb tc : TE} {wa wb wc : DE} {es elts : List Expr} {tA : TA} {wA : DA} {p : Pos} {kk : Nat}
/-! ### iterables -/
def iAny (K : PySem.W.Frag) (tl : TE) : TI := fun σ H R => tl σ H fun x H1 => (∃ z, x = .str z ∧ R (Its z) H1) ∨ ∃ p, x = .ref p ∧ (((∃ xs, SqL K H1 p xs) ∧ R (Itl K p) H1) ∨ ((∃ xs, SqT K H1 p xs) ∧ R (Itt K p) H1))
theorem pi_any (hl : PE X e ta) : PI X tg e (iAny X.K ta) := by
  refine ⟨fun pins s σ H R I h => ?_⟩
  refine thn (hl.run pins s σ H _ I h) fun v s1 ⟨x, H1, I1, r1, q1⟩ => ?_
  rcases q1 with ⟨z, ex, q⟩ | ⟨a, ex, q1⟩
  · subst ex
    obtain ⟨t, rfl⟩ := r1
    cases ha : z.cps.all (· < 128)
    · exact wpAny_pyIter_wide ha (pi_one (tk := s1.toks) I1 _ (turn_str _ z t "str_iterator" (.inr rfl)) ⟨_, Heap.get?_push_size _ rfl, rfl, rfl⟩ q)
    · exact wpAny_pyIter_ascii ha (pi_one (tk := s1.toks) I1 _ (turn_str _ z t "str_ascii_iterator" (.inl rfl)) ⟨_, Heap.get?_push_size _ rfl, rfl, rfl⟩ q)
  · subst ex
    cases r1
    rcases q1 with ⟨⟨xs, hq⟩, q⟩ | ⟨⟨xs, hq⟩, q⟩
    · obtain ⟨its, rv, p, hz⟩ := I1.list hq
      refine wpAny_pyIter_list p.isList ?_
      refine ⟨s1.heap.objs.size, [s1.heap.objs.size], _, _, H1, rfl, I1.kept (t' := s1.toks) fun b o e => Heap.get?_push_of_some _ e, turn_list a _, ⟨_, Heap.get?_push_size _ rfl, rfl, rfl⟩, fun b hb => ?_, q⟩
      have e : b = s1.heap.objs.size := by simpa using hb
      subst e
      exact I1.fpOk (Nat.le_refl _) (I1.hok.fresh (Nat.le_refl _))
    · obtain ⟨its, rv, p, hz⟩ := I1.tuple hq
      refine wpAny_pyIter_tuple (show s1.heap.IsTuple a its.toArray from p) ?_
      refine ⟨s1.heap.objs.size, [s1.heap.objs.size], _, _, H1, rfl, I1.kept (t' := s1.toks) fun b o e => Heap.get?_push_of_some _ e, turn_tuple a _, ⟨_, Heap.get?_push_size _ rfl, rfl, rfl⟩, fun b hb => ?_, q⟩
      have e : b = s1.heap.objs.size := by simpa using hb
      subst e
      exact I1.fpOk (Nat.le_refl _) (I1.hok.fresh (Nat.le_refl _))
/-- the items of what is walked: a list, a tuple, a text; a cell that is walked becomes data -/
def dIt (w : DE) : DIt := fun σ μ Q => w σ μ fun x μ1 => match x with
  | .d (.list xs) => Q xs μ1
  | .d (.tuple xs) => Q xs μ1
  | .d (.str z) => Q (z.cps.toList.map fun c => .str ⟨#[c]⟩) μ1
  | .loc k => (match μ1[k]? with
    | some (.lst xs) => Q xs (μ1.set k (.frz xs))
    | some (.frz xs) => Q xs μ1
    | _ => False)
  | _ => False
theorem di_any (h : DX K X e ta wa) (hK : X.K = K := by rfl) : DIi K X tg e (iAny K ta) (dIt wa) := by
  subst hK
  refine ⟨pi_any h.pe, fun F α σ μ τ H Q R S hw k => ?_⟩
  refine h.sim F α σ μ τ H _ _ S hw fun F1 α1 μ1 H1 v x e1 R1 r1 q1 => ?_
  split at q1
  · cases r1 with
    | @lst p vs xs hs ha => exact .inr ⟨p, rfl, .inl ⟨⟨vs, SqL.of (R1.sub _ _ hs)⟩, k F1 α1 μ1 H1 _ _ e1 R1 (itOk_list hs ha) q1⟩⟩
  · cases r1 with
    | @tup p vs xs hs ha => exact .inr ⟨p, rfl, .inr ⟨⟨vs, Same.seqT R1.sub hs⟩, k F1 α1 μ1 H1 _ _ e1 R1 (itOk_tup hs ha) q1⟩⟩
  · rename_i z
    cases r1
    refine .inl ⟨z, rfl, k F1 α1 μ1 H1 _ _ e1 R1 (fun F2 α2 μ2 H2 i e2 R2 => ⟨fun x hx => ?_, fun hi => ?_⟩) q1⟩
    · rw [List.getElem?_map, Array.getElem?_toList] at hx
      cases hz : z.cps[i]? with
      | none => rw [hz] at hx; cases hx
      | some c =>
        rw [hz] at hx
        cases hx
        refine ⟨(Array.getElem?_eq_some_iff.mp hz).1, fun v H3 hy => ?_⟩
        obtain ⟨rfl, c', hc, rfl⟩ := hy
        rw [hz] at hc
        cases hc
        exact ⟨F2, Ext.refl _ _ _, R2, .str _⟩
    · show z.cps.size ≤ i
      simpa using hi
  · rename_i l
    obtain ⟨p, rfl, hp⟩ := r1
    split at q1
    · rename_i xs hm
      obtain ⟨F2, R2, e2, r2⟩ := R1.seal hp hm
      cases r2 with
      | @lst p vs xs hs ha => exact .inr ⟨p, rfl, .inl ⟨⟨vs, SqL.of (R2.sub _ _ hs)⟩, k F2 α1 _ H1 _ _ (e1.trans e2) R2 (itOk_list hs ha) q1⟩⟩
    · rename_i xs hm
      obtain ⟨vs, f, _, d⟩ := R1.cell _ p _ hp hm
      exact .inr ⟨p, rfl, .inl ⟨⟨vs, SqL.of (R1.sub _ _ f)⟩, k F1 α1 _ H1 _ _ e1 R1 (itOk_list f d) q1⟩⟩
    · cases q1
  · cases q1
/-- lo, lo + c, .. : n of them -/
def rngD (lo c : Int) (n : Nat) : List PyData := (List.range n).map fun i => .int (lo + (i : Nat) * c)
theorem rngD_len (lo c : Int) (n : Nat) : (rngD lo c n).length = n := by unfold rngD; rw [List.length_map, List.length_range]
theorem rngD_get {lo c : Int} {n i : Nat} {x : PyData} (h : (rngD lo c n)[i]? = some x) : i < n ∧ x = .int (lo + (i : Nat) * c) := by
  unfold rngD at h
  rw [List.getElem?_map] at h
  cases q : (List.range n)[i]? with
  | none => rw [q] at h; cases h
  | some j =>
    rw [q] at h
    cases h
    obtain ⟨h1, h2⟩ := List.getElem?_eq_some_iff.mp q
    simp at h1 h2
    subst h2
    exact ⟨h1, rfl⟩
theorem itOk_rng {K : PySem.W.Frag} {F H : Hp} {α : List Addr} {lo : Int} {n : Nat} : ItOk K F α H (Itr lo n) (rngD lo 1 n) := by
  intro F1 α1 μ1 H1 i e1 R1
  refine ⟨fun x hx => ?_, fun hi => by rw [rngD_len] at hi; exact hi⟩
  obtain ⟨hi, rfl⟩ := rngD_get hx
  refine ⟨hi, fun v H2 hy => ?_⟩
  obtain ⟨rfl, rfl⟩ := hy
  rw [Int.mul_one]
  exact ⟨F1, Ext.refl _ _ _, R1, .int _⟩
theorem itOk_rngC {K : PySem.W.Frag} {F H : Hp} {α : List Addr} {lo c : Int} {n : Nat} : ItOk K F α H (Itc lo c n) (rngD lo c n) := by
  intro F1 α1 μ1 H1 i e1 R1
  refine ⟨fun x hx => ?_, fun hi => by rw [rngD_len] at hi; exact hi⟩
  obtain ⟨hi, rfl⟩ := rngD_get hx
  refine ⟨hi, fun v H2 hy => ?_⟩
  obtain ⟨rfl, rfl⟩ := hy
  exact ⟨F1, Ext.refl _ _ _, R1, .int _⟩
def RngOk (i : Int) : Prop := -(2 ^ 62) ≤ i ∧ i < 2 ^ 62
def dRng1 (w : DA) : DIt := fun σ μ Q => w σ μ fun xs μ1 => match xs with
  | [.d (.int j)] => RngOk j ∧ Q (rngD 0 1 j.toNat) μ1
  | _ => False
def dRng2 (w : DA) : DIt := fun σ μ Q => w σ μ fun xs μ1 => match xs with
  | [.d (.int i), .d (.int j)] => RngOk i ∧ RngOk j ∧ Q (rngD i 1 (j - i).toNat) μ1
  | _ => False
def dRng3 (w : DA) : DIt := fun σ μ Q => w σ μ fun xs μ1 => match xs with
  | [.d (.int i), .d (.int j), .d (.int c)] => (∃ n, RgC i j c n) ∧ Q (rngD i c (Builtin.Range.rangeSize i j c).toNat) μ1
  | _ => False
theorem di_rng1 (hm : X.mg "range" = none) (ha : DAa K X [a] tA wA) (hg : Gl X "range" := by rfl) (hs : starEach [a] X.env = [(false, eval a X.env)] := by rfl) : DIi K X tg (.Call (.Name "range" p) [a] [] pos) (iRng1 tA) (dRng1 wA) := by
  refine ⟨pi_range1 hg hm ha.pa hs, fun F α σ μ τ H Q R S hw k => ha.sim F α σ μ τ H _ _ S hw fun F1 α1 μ1 H1 vs xs e1 R1 r1 q1 => ?_⟩
  split at q1
  · cases r1 with
    | cons r1 r2 =>
      cases r2
      cases r1
      exact ⟨_, rfl, q1.1.1, q1.1.2, k F1 α1 μ1 H1 _ _ e1 R1 itOk_rng q1.2⟩
  · cases q1
theorem di_rng2 (hm : X.mg "range" = none) (ha : DAa K X [a, b] tA wA) (hg : Gl X "range" := by rfl) (hs : starEach [a, b] X.env = [(false, eval a X.env), (false, eval b X.env)] := by rfl) (hs2 : starEach [b] X.env = [(false, eval b X.env)] := by rfl) :
    DIi K X tg (.Call (.Name "range" p) [a, b] [] pos) (iRng2 tA) (dRng2 wA) := by
  refine ⟨pi_range2 hg hm ha.pa hs hs2, fun F α σ μ τ H Q R S hw k => ha.sim F α σ μ τ H _ _ S hw fun F1 α1 μ1 H1 vs xs e1 R1 r1 q1 => ?_⟩
  split at q1
  · cases r1 with
    | cons r1 r2 =>
      cases r2 with
      | cons r2 r3 =>
        cases r3
        cases r1
        cases r2
        exact ⟨_, _, rfl, ⟨q1.1.1, q1.1.2, q1.2.1.1, q1.2.1.2⟩, k F1 α1 μ1 H1 _ _ e1 R1 itOk_rng q1.2.2⟩
  · cases q1
theorem di_rng3 (hm : X.mg "range" = none) (ha : DAa K X [a, b, c] tA wA) (hg : Gl X "range" := by rfl) (hs : starEach [a, b, c] X.env = (false, eval a X.env) :: starEach [b, c] X.env := by rfl) (hpl : (backTo pos (starEach [b, c] X.env)).any (·.1) = false := by rfl) :
    DIi K X tg (.Call (.Name "range" p) [a, b, c] [] pos) (iRng3 tA) (dRng3 wA) := by
  refine ⟨pi_range3 hg hm ha.pa hs hpl, fun F α σ μ τ H Q R S hw k => ha.sim F α σ μ τ H _ _ S hw fun F1 α1 μ1 H1 vs xs e1 R1 r1 q1 => ?_⟩
  split at q1
  · cases r1 with
    | cons r1 r2 =>
      cases r2 with
      | cons r2 r3 =>
        cases r3 with
        | cons r3 r4 =>
          cases r4
          cases r1
          cases r2
          cases r3
          obtain ⟨⟨n, c0, c1, c2, c3⟩, q⟩ := q1
          rw [c3] at q
          exact ⟨_, _, _, n, rfl, ⟨c0, c1, c2, c3⟩, k F1 α1 μ1 H1 _ _ e1 R1 itOk_rngC q⟩
  · cases q1
/-- zip of two lists, of two tuples -/
def zipD : List PyData → List PyData → List PyData
  | x :: xs, y :: ys => .tuple [x, y] :: zipD xs ys
  | _, _ => []
theorem zipD_get : ∀ {xs ys : List PyData} {i : Nat} {z : PyData}, (zipD xs ys)[i]? = some z → ∃ x y, xs[i]? = some x ∧ ys[i]? = some y ∧ z = .tuple [x, y]
  | [], _, _, _, h => by simp [zipD] at h
  | _ :: _, [], _, _, h => by simp [zipD] at h
  | x :: xs, y :: ys, 0, z, h => ⟨x, y, rfl, rfl, by simpa [zipD] using h.symm⟩
  | x :: xs, y :: ys, i + 1, z, h => by simpa using zipD_get (xs := xs) (ys := ys) (i := i) (by simpa [zipD] using h)
theorem zipD_len : ∀ (xs ys : List PyData), (zipD xs ys).length = min xs.length ys.length
  | [], _ => by simp [zipD]
  | _ :: _, [] => by simp [zipD]
  | _ :: xs, _ :: ys => by
    simp only [zipD, List.length_cons, zipD_len xs ys]
    omega
def dZip (w : DA) : DIt := fun σ μ Q => w σ μ fun xs μ1 => match xs with
  | [x, y] => (match x, y with
    | .d (.list xs), .d (.list ys) => Q (zipD xs ys) μ1
    | .d (.tuple xs), .d (.tuple ys) => Q (zipD xs ys) μ1
    | _, _ => False)
  | _ => False
theorem pair_fresh {K : PySem.W.Frag} {F1 H1 : Hp} {α1 : List Addr} {μ1 : Mu} {T : Addr} {u v : V} {x y : PyData} (R : Rel K F1 α1 μ1 H1) (hT : H1 T = none) (r1 : Dq K F1 u x) (r2 : Dq K F1 v y) :
    ∃ F2, Ext F1 α1 H1 F2 α1 (upd H1 T (.tup [u, v])) ∧ Rel K F2 α1 μ1 (upd H1 T (.tup [u, v])) ∧ Dq K F2 (.ref T) (.tuple [x, y]) := by
  obtain ⟨R2, e2⟩ := R.fresh (o := .tup [u, v]) hT
  exact ⟨_, e2, R2, .tup (.inl (.inl upd_same)) (.cons (dqMono e2.same r1) (.cons (dqMono e2.same r2) .nil))⟩
theorem di_zip (hm : X.mg "zip" = none) (ha : DAa K X [e, e2] tA wA) (hg : Gl X "zip" := by rfl) (hs : starEach [e, e2] X.env = (false, eval e X.env) :: starEach [e2] X.env := by rfl) (hpl : (backTo pos (starEach [e2] X.env)).any (·.1) = false := by rfl) (hK : X.K = K := by rfl) :
    DIi K X (.Tuple elts kk tpos) (.Call (.Name "zip" p) [e, e2] [] pos) (RZ.iZipA K tA) (dZip wA) := by
  subst hK
  refine ⟨RZ.pi_zipA hg hm ha.pa hs hpl, fun F α σ μ τ H Q R S hw k => ha.sim F α σ μ τ H _ _ S hw fun F1 α1 μ1 H1 vs xs e1 R1 r1 q1 => ?_⟩
  split at q1
  · cases r1 with
    | cons r1 r2 =>
      cases r2 with
      | cons r2 r3 =>
        cases r3
        split at q1
        · rename_i xs ys
          cases r1 with
          | @lst p1 vs1 _ h1 d1 =>
            cases r2 with
            | @lst p2 vs2 _ h2 d2 =>
              refine ⟨p1, p2, vs1, vs2, rfl, .inl ⟨SqL.of (R1.sub _ _ h1), SqL.of (R1.sub _ _ h2), k F1 α1 μ1 H1 _ _ e1 R1 (fun F2 α2 μ2 H2 i e2 R2 => ?_) q1⟩⟩
              have g1 : SqL X.K H2 p1 vs1 := SqL.of (R2.sub _ _ (e2.same _ _ h1))
              have g2 : SqL X.K H2 p2 vs2 := SqL.of (R2.sub _ _ (e2.same _ _ h2))
              refine ⟨fun z hz => ?_, fun hi => ?_⟩
              · obtain ⟨x, y, hx, hy, rfl⟩ := zipD_get hz
                obtain ⟨u, hu, ru⟩ := dqAll_get d1 hx
                obtain ⟨v, hv, rv⟩ := dqAll_get d2 hy
                refine ⟨⟨vs1, vs2, u, v, g1, g2, hu, hv⟩, fun w H3 hy => ?_⟩
                obtain ⟨T, u', v', rfl, hT, rfl, f1, f2⟩ := hy
                have := f1 _ g1
                rw [hu] at this
                cases this
                have := f2 _ g2
                rw [hv] at this
                cases this
                exact pair_fresh R2 hT (dqMono e2.same ru) (dqMono e2.same rv)
              · rw [zipD_len] at hi
                exact ⟨vs1, vs2, g1, g2, by rw [dqAll_len d1, dqAll_len d2]; omega⟩
        · rename_i xs ys
          cases r1 with
          | @tup p1 vs1 _ h1 d1 =>
            cases r2 with
            | @tup p2 vs2 _ h2 d2 =>
              refine ⟨p1, p2, vs1, vs2, rfl, .inr ⟨Same.seqT R1.sub h1, Same.seqT R1.sub h2, k F1 α1 μ1 H1 _ _ e1 R1 (fun F2 α2 μ2 H2 i e2 R2 => ?_) q1⟩⟩
              have g1 : SqT X.K H2 p1 vs1 := Same.seqT R2.sub (Same.seqT e2.same h1)
              have g2 : SqT X.K H2 p2 vs2 := Same.seqT R2.sub (Same.seqT e2.same h2)
              refine ⟨fun z hz => ?_, fun hi => ?_⟩
              · obtain ⟨x, y, hx, hy, rfl⟩ := zipD_get hz
                obtain ⟨u, hu, ru⟩ := dqAll_get d1 hx
                obtain ⟨v, hv, rv⟩ := dqAll_get d2 hy
                refine ⟨⟨vs1, vs2, u, v, g1, g2, hu, hv⟩, fun w H3 hy => ?_⟩
                obtain ⟨T, u', v', rfl, hT, rfl, f1, f2⟩ := hy
                have := f1 _ g1
                rw [hu] at this
                cases this
                have := f2 _ g2
                rw [hv] at this
                cases this
                exact pair_fresh R2 hT (dqMono e2.same ru) (dqMono e2.same rv)
              · rw [zipD_len] at hi
                exact ⟨vs1, vs2, g1, g2, by rw [dqAll_len d1, dqAll_len d2]; omega⟩
        · cases q1
  · cases q1
/-- enumerate(list) -/
def enumD (xs : List PyData) : List PyData := zipD (rngD 0 1 xs.length) xs
def dEnum (w : DA) : DIt := fun σ μ Q => w σ μ fun xs μ1 => match xs with
  | [.d (.list xs)] => Q (enumD xs) μ1
  | _ => False
theorem di_enum (hm : X.mg "enumerate" = none) (ha : DAa K X [e] tA wA) (hg : Gl X "enumerate" := by rfl) (hs : starEach [e] X.env = [(false, eval e X.env)] := by rfl) (hK : X.K = K := by rfl) :
    DIi K X (.Tuple elts kk tpos) (.Call (.Name "enumerate" p) [e] [] pos) (iEnum K tA) (dEnum wA) := by
  subst hK
  refine ⟨pi_enum hg hm ha.pa hs, fun F α σ μ τ H Q R S hw k => ha.sim F α σ μ τ H _ _ S hw fun F1 α1 μ1 H1 vs xs e1 R1 r1 q1 => ?_⟩
  split at q1
  · rename_i xs
    cases r1 with
    | cons r1 r2 =>
      cases r2
      cases r1 with
      | @lst p1 vs1 _ h1 d1 =>
        refine ⟨p1, vs1, rfl, SqL.of (R1.sub _ _ h1), k F1 α1 μ1 H1 _ _ e1 R1 (fun F2 α2 μ2 H2 i e2 R2 => ?_) q1⟩
        have g1 : SqL X.K H2 p1 vs1 := SqL.of (R2.sub _ _ (e2.same _ _ h1))
        refine ⟨fun z hz => ?_, fun hi => ?_⟩
        · obtain ⟨j, x, hj, hx, rfl⟩ := zipD_get hz
          obtain ⟨hi, rfl⟩ := rngD_get hj
          obtain ⟨u, hu, ru⟩ := dqAll_get d1 hx
          refine ⟨⟨vs1, u, g1, hu⟩, fun w H3 hy => ?_⟩
          obtain ⟨T, u', rfl, hT, rfl, f1⟩ := hy
          have := f1 _ g1
          rw [hu] at this
          cases this
          rw [Int.mul_one, Int.zero_add]
          exact pair_fresh R2 hT (.int _) (dqMono e2.same ru)
        · unfold enumD at hi
          rw [zipD_len, rngD_len, Nat.min_self] at hi
          exact ⟨vs1, g1, by rw [dqAll_len d1]; exact hi⟩
  · cases q1

/-! ### comprehensions -/
variable {elt iter : Expr} {ifs : List Expr} {scope : Scope} {own : List (Str × Nat)} {vs : List Nat} {t : TI} {w : DIt} {g : TG} {gw : DG} {js : List Nat} {tt : TT} {wt : DT} {te : TE} {we : DE}
theorem dn_lc (own : List (Str × Nat)) (hN : X.N.Nodup) (hi : DIi K X tg iter t w) (ok : BlkOk X.N X.env.scope scope own) (hg : ∀ (s : Shared) (H : Hp) (C : Addr) (cl : List (Str × Addr)) (fp : List Addr), DGt K (X.blk s H scope (compEnvC scope cl C X.env) fp) tg g gw js) (ht : ∀ (s : Shared) (H : Hp) (C : Addr) (cl : List (Str × Addr)) (fp : List Addr), DTs K (X.blk s H scope (compEnvC scope cl C X.env) fp) ifs tt wt) (he : ∀ (s : Shared) (H : Hp) (C : Addr) (cl : List (Str × Addr)) (fp : List Addr), DX K (X.blk s H scope (compEnvC scope cl C X.env) fp) elt te we)
    (hv : vs = own.map (·.2) := by rfl) (hj : ∀ j ∈ js, j ∈ vs := by decide) (hc : X.calm = true := by rfl) (hs : ∀ x, foldedSetIterable iter X.env x = pure x := by intro _; rfl) : DNn K X (.ListComp elt [⟨tg, iter, ifs, 0⟩] scope pos) (tLc t g tt te vs) (dLc w gw wt we vs) := by
  subst hv
  exact ⟨pe_lc hc hN hi.pi ok (fun s H C cl fp => (hg s H C cl fp).pg) (fun s H C cl fp => (ht s H C cl fp).pt) (fun s H C cl fp => (he s H C cl fp).pe) hs,
    simLc hi.sim (hg {} (fun _ => none) 0 [] []).sim (ht {} (fun _ => none) 0 [] []).sim (he {} (fun _ => none) 0 [] []).sim hj⟩
/-- name = [..] on one line, the name a local: as data, as a cell -/
theorem ds_setLc (own : List (Str × Nat)) (i : Nat) {y : Str} {py spos : Pos} (hN : X.N.Nodup) (hi : DIi K X tg iter t w) (ok : BlkOk X.N X.env.scope scope own) (hg : ∀ (s : Shared) (H : Hp) (C : Addr) (cl : List (Str × Addr)) (fp : List Addr), DGt K (X.blk s H scope (compEnvC scope cl C X.env) fp) tg g gw js) (ht : ∀ (s : Shared) (H : Hp) (C : Addr) (cl : List (Str × Addr)) (fp : List Addr), DTs K (X.blk s H scope (compEnvC scope cl C X.env) fp) ifs tt wt) (he : ∀ (s : Shared) (H : Hp) (C : Addr) (cl : List (Str × Addr)) (fp : List Addr), DX K (X.blk s H scope (compEnvC scope cl C X.env) fp) elt te we)
    (hsw : swapsWith (.ListComp elt [⟨tg, iter, ifs, 0⟩] scope pos) (some (.Name y py)) spos.line X.env = pure true)
    (hv : vs = own.map (·.2) := by rfl) (hj : ∀ j ∈ js, j ∈ vs := by decide) (hc : X.calm = true := by rfl) (hy : X.N[i]? = some y := by rfl) (hyl : X.env.scope.names.lookup y = some .local := by rfl) (hs : ∀ x, foldedSetIterable iter X.env x = pure x := by intro _; rfl) :
    DSt K X (.Assign [.Name y py] (.ListComp elt [⟨tg, iter, ifs, 0⟩] scope pos) spos) (tAsg (tLc t g tt te vs) (gName i)) (dSet (dSnap (dLc w gw wt we vs)) i) := by
  subst hv
  exact ⟨ps_setLc hc hN hy hyl hsw hi.pi ok (fun s H C cl fp => (hg s H C cl fp).pg) (fun s H C cl fp => (ht s H C cl fp).pt) (fun s H C cl fp => (he s H C cl fp).pe) hs, fun F α σ μ τ H D D' S hw k =>
    simSnap (simLc hi.sim (hg {} (fun _ => none) 0 [] []).sim (ht {} (fun _ => none) 0 [] []).sim (he {} (fun _ => none) 0 [] []).sim hj) F α σ μ τ H _ _ S hw fun F1 α1 μ1 H1 v x e1 R1 r1 q1 => k.nx F1 α1 _ μ1 _ H1 e1 ⟨R1, (S.sl.mono e1).set i r1⟩ q1⟩
theorem ds_setLcL (own : List (Str × Nat)) (i : Nat) {y : Str} {py spos : Pos} (hN : X.N.Nodup) (hi : DIi K X tg iter t w) (ok : BlkOk X.N X.env.scope scope own) (hg : ∀ (s : Shared) (H : Hp) (C : Addr) (cl : List (Str × Addr)) (fp : List Addr), DGt K (X.blk s H scope (compEnvC scope cl C X.env) fp) tg g gw js) (ht : ∀ (s : Shared) (H : Hp) (C : Addr) (cl : List (Str × Addr)) (fp : List Addr), DTs K (X.blk s H scope (compEnvC scope cl C X.env) fp) ifs tt wt) (he : ∀ (s : Shared) (H : Hp) (C : Addr) (cl : List (Str × Addr)) (fp : List Addr), DX K (X.blk s H scope (compEnvC scope cl C X.env) fp) elt te we)
    (hsw : swapsWith (.ListComp elt [⟨tg, iter, ifs, 0⟩] scope pos) (some (.Name y py)) spos.line X.env = pure true)
    (hv : vs = own.map (·.2) := by rfl) (hj : ∀ j ∈ js, j ∈ vs := by decide) (hc : X.calm = true := by rfl) (hy : X.N[i]? = some y := by rfl) (hyl : X.env.scope.names.lookup y = some .local := by rfl) (hs : ∀ x, foldedSetIterable iter X.env x = pure x := by intro _; rfl) :
    DSt K X (.Assign [.Name y py] (.ListComp elt [⟨tg, iter, ifs, 0⟩] scope pos) spos) (tAsg (tLc t g tt te vs) (gName i)) (dSet (dLoc (dLc w gw wt we vs)) i) := by
  subst hv
  exact ⟨ps_setLc hc hN hy hyl hsw hi.pi ok (fun s H C cl fp => (hg s H C cl fp).pg) (fun s H C cl fp => (ht s H C cl fp).pt) (fun s H C cl fp => (he s H C cl fp).pe) hs, fun F α σ μ τ H D D' S hw k =>
    simLoc (simLc hi.sim (hg {} (fun _ => none) 0 [] []).sim (ht {} (fun _ => none) 0 [] []).sim (he {} (fun _ => none) 0 [] []).sim hj) F α σ μ τ H _ _ S hw fun F1 α1 μ1 H1 v x e1 R1 r1 q1 => k.nx F1 α1 _ μ1 _ H1 e1 ⟨R1, (S.sl.mono e1).set i r1⟩ q1⟩

/-! ### mutable lists: append, pop, stores -/
/-- the content of a cell as a list -/
def lstAt (μ : Mu) (x : SV) : Option (Nat × List PyData) := match x with
  | .loc k => match μ[k]? with
    | some (.lst xs) => some (k, xs)
    | _ => none
  | _ => none
theorem lstAt_ok {K : PySem.W.Frag} {F H : Hp} {α : List Addr} {μ : Mu} {v : V} {x : SV} {k : Nat} {xs : List PyData} (R : Rel K F α μ H) (r : RW K F α v x) (h : lstAt μ x = some (k, xs)) : ∃ a vs, v = .ref a ∧ α[k]? = some a ∧ F a = none ∧ H a = some (.lst vs) ∧ DqAll K F vs xs := by
  cases x with
  | d z => cases h
  | scr z => cases h
  | loc l =>
    obtain ⟨a, rfl, ha⟩ := r
    simp only [lstAt] at h
    split at h
    · rename_i ys e
      cases h
      obtain ⟨f, vs, e1, d⟩ := R.cell _ a _ ha e
      exact ⟨a, vs, rfl, ha, f, e1, d⟩
    · cases h
theorem Rel.putL {K : PySem.W.Frag} {F H : Hp} {α : List Addr} {μ : Mu} {k : Nat} {a : Addr} {us : List V} {ys : List PyData} (R : Rel K F α μ H) (hk : α[k]? = some a) (hF : F a = none) (h : DqAll K F us ys) : Rel K F α (μ.set k (.lst ys)) (upd H a (.lst us)) :=
  R.put hk hF ⟨hF, us, upd_same, h⟩
/-- xs.append(e) -/
def dAppend (wo : DE) (wA : DA) : DE := fun σ μ Q => wo σ μ fun x μ1 => match lstAt μ1 x with
  | some _ => wA σ μ1 fun ys μ2 => (match ys, lstAt μ2 x with
    | [.d y], some (k, xs) => xs.length < sizeLine ∧ Q (.d .none) (μ2.set k (.lst (xs ++ [y])))
    | _, _ => False)
  | none => False
theorem dx_append {apos cpos : Pos} {x : Expr} (ho : DX K X a ta wa) (hA : DAa K X [x] tA wA) (hb : attributeBase a "append" X.env (eval a X.env) = eval a X.env := by rfl)
    (hfew : ((backTo cpos (starEach [x] X.env)).all (fun x => !x.1) && (backToKw cpos (keywordEach [] X.env)).all (fun x => x.1.isSome)
      && decide ([x].length + ([] : List Keyword).length + (if ([] : List Keyword).isEmpty then 0 else 1) < 30)) = true := by rfl)
    (hline : (apos.endLine == cpos.line) = true := by rfl) (hs : starEach [x] X.env = (false, eval x X.env) :: starEach [] X.env := by rfl) (hpl : (backTo cpos (starEach [] X.env)).any (·.1) = false := by rfl) (hK : X.K = K := by rfl) :
    DX K X (.Call (.Attribute a "append" apos) [x] [] cpos) (tBM K "list" rAppend ta tA) (dAppend wa wA) := by
  subst hK
  refine ⟨pe_bm PySem.F.plainAttrs_list PySem.F.slot_list_append PySem.F.type_list_append mt_append ho.pe hA.pa hb hfew hline hs hpl, fun F α σ μ τ H Q Q' S hw k => ?_⟩
  refine ho.sim F α σ μ τ H _ _ S hw fun F1 α1 μ1 H1 v y e1 R1 r1 q1 => ?_
  split at q1
  · rename_i z h1
    obtain ⟨a, vs, rfl, ha, hF, hH, hd⟩ := lstAt_ok R1 r1 h1
    refine ⟨.inl ⟨rfl, vs, SqL.of hH⟩, hA.sim F1 α1 σ μ1 τ H1 _ _ ⟨R1, S.sl.mono e1⟩ q1 fun F2 α2 μ2 H2 us ys e2 R2 r2 q2 => ?_⟩
    split at q2
    · rename_i y l xs h2
      obtain ⟨a', vs2, ea, ha2, hF2, hH2, hd2⟩ := lstAt_ok R2 (r1.mono e2) h2
      cases ea
      cases r2 with
      | cons r2 r3 =>
        cases r3
        exact ⟨a, vs2, _, rfl, rfl, hH2, by rw [dqAll_len hd2]; exact q2.1, (k.mono (e1.trans e2)) F2 α2 _ _ _ _ (ext_put ha2) (R2.putL ha2 hF2 (dqAll_app hd2 (dqAll_one r2))) (.ofD .non) q2.2⟩
    · cases q2
  · cases q1
/-- xs.pop() -/
def dPop (wo : DE) : DE := fun σ μ Q => wo σ μ fun x μ1 => match lstAt μ1 x with
  | some (k, xs) => (match xs[xs.length - 1]? with
    | some y => Q (.d y) (μ1.set k (.lst xs.dropLast))
    | none => False)
  | none => False
theorem dqAll_dropLast {K : PySem.W.Frag} {F : Hp} {vs : List V} {xs : List PyData} (h : DqAll K F vs xs) : DqAll K F vs.dropLast xs.dropLast := by
  rw [List.dropLast_eq_take, List.dropLast_eq_take, dqAll_len h]
  exact dqAll_take _ h
theorem dx_pop {apos cpos : Pos} (ho : DX K X a ta wa) (hb : attributeBase a "pop" X.env (eval a X.env) = eval a X.env := by rfl) (hline : (apos.endLine == cpos.line) = true := by rfl) (hK : X.K = K := by rfl) :
    DX K X (.Call (.Attribute a "pop" apos) [] [] cpos) (tBM0 K "list" rPop ta) (dPop wa) := by
  subst hK
  refine ⟨pe_bm0 PySem.F.plainAttrs_list PySem.F.slot_list_pop PySem.F.type_list_pop mt_pop ho.pe hb hline, fun F α σ μ τ H Q Q' S hw k => ?_⟩
  refine ho.sim F α σ μ τ H _ _ S hw fun F1 α1 μ1 H1 v y e1 R1 r1 q1 => ?_
  split at q1
  · rename_i l xs h1
    obtain ⟨a, vs, rfl, ha, hF, hH, hd⟩ := lstAt_ok R1 r1 h1
    split at q1
    · rename_i y hy
      obtain ⟨u, hu, ru⟩ := dqAll_get hd hy
      exact ⟨.inl ⟨rfl, vs, SqL.of hH⟩, a, vs, u, rfl, rfl, hH, by rw [dqAll_len hd]; exact hu, (k.mono e1) F1 α1 _ _ _ _ (ext_put ha) (R1.putL ha hF (dqAll_dropLast hd)) (.ofD ru) q1⟩
    · cases q1
  · cases q1
/-- xs[i] = e -/
def dStore (wv wo wi : DE) : DS := fun D σ μ => wv σ μ fun v μ1 => wo σ μ1 fun x μ2 => wi σ μ2 fun i μ3 => match v, i, lstAt μ3 x with
  | .d d, .d (.int i), some (k, xs) => (match ixN xs.length i with
    | some j => D.nx σ (μ3.set k (.lst (xs.set j d)))
    | none => False)
  | _, _, _ => False
theorem ds_store {o i v : Expr} {to ti tv : TE} {wo wi wv : DE} {spos : Pos} (hv : DX K X v tv wv) (ho : DX K X o to wo) (hi : DX K X i ti wi)
    (ha : ∀ v, assign (.Subscript o i pos) X.env v = (do
      let ov ← holding [v] (eval o X.env)
      let iv ← holding [v, ov] (eval i X.env)
      standAt pos
      holding [v, ov, iv] (setItem ov iv v)
      release [v, ov, iv] []) := by intro _; rfl)
    (hs : swapsWithSole [.Subscript o i pos] v spos.line X.env = pure false := by rfl) (hw : swappedStores [.Subscript o i pos] v X.env = pure none := by rfl)
    (h1 : (assignEach [.Subscript o i pos] X.env).map (·.2) = [assign (.Subscript o i pos) X.env] := by rfl) : DSt K X (.Assign [.Subscript o i pos] v spos) (tAsg tv (L2.gSub to ti rSetL)) (dStore wv wo wi) := by
  refine ⟨ps_asg hv.pe (pg_sub ho.pe hi.pe set_list ha) hs hw h1, fun F α σ μ τ H D D' S hw k => ?_⟩
  refine hv.sim F α σ μ τ H _ _ S hw fun F1 α1 μ1 H1 v y e1 R1 r1 q1 => ?_
  refine ho.sim F1 α1 σ μ1 τ H1 _ _ ⟨R1, S.sl.mono e1⟩ q1 fun F2 α2 μ2 H2 u x e2 R2 r2 q2 => ?_
  refine hi.sim F2 α2 σ μ2 τ H2 _ _ ⟨R2, S.sl.mono (e1.trans e2)⟩ q2 fun F3 α3 μ3 H3 w z e3 R3 r3 q3 => ?_
  split at q3
  · rename_i d i l xs h3
    obtain ⟨a, vs, rfl, ha, hF, hH, hd⟩ := lstAt_ok R3 (r2.mono e3) h3
    split at q3
    · rename_i j hj
      cases r3
      refine ⟨a, vs, i, j, rfl, rfl, hH, by rw [dqAll_len hd]; exact hj, ?_⟩
      exact k.nx F3 α3 σ _ τ _ ((e1.trans (e2.trans e3)).trans (ext_put ha)) ⟨R3.putL ha hF (dqAll_set j hd (r1.mono (e2.trans e3))), S.sl.mono (e1.trans (e2.trans e3))⟩ q3
    · cases q3
  · cases q3

/-! ### defs -/
abbrev DFn := List SV → Mu → KD → Prop
/-- what a def's end makes of its store: the new cells are gone; a new cell that is handed back lives on (keep), or is data from here on -/
def fnRet (keep : Bool) (n : Nat) (Q : KD) : KD := fun x μ => match x with
  | .loc k => if k < n then Q (.loc k) (μ.take n) else (match μ[k]? with
    | some (.lst xs) => if keep = true then Q (.loc n) (μ.take n ++ [.lst xs]) else Q (.d (.list xs)) (μ.take n)
    | some (.frz xs) => if keep = true then Q (.loc n) (μ.take n ++ [.frz xs]) else Q (.d (.list xs)) (μ.take n)
    | some c => Q (.loc n) (μ.take n ++ [c])
    | none => False)
  | x => Q x (μ.take n)
def fnEnds (keep : Bool) (n : Nat) (Q : KD) : DEnds := ⟨fun _ μ => fnRet keep n Q (.d .none) μ, fnRet keep n Q, fun _ _ => False, fun _ _ => False⟩
def fnW (keep : Bool) (m l : Nat) (wb : DS) : DFn := fun ws μ Q => ws.length = l ∧ wb (fnEnds keep μ.length Q) (ws.map some ++ List.replicate (m - ws.length) none) μ
def spD (K : PySem.W.Frag) (wf : DFn) : Sp := fun vs H Q' _ => ∃ F α μ ws Q, Rel K F α μ H ∧ RWs K F α vs ws ∧ wf ws μ Q ∧ CtE K F α H Q Q'
section
variable {K : PySem.W.Frag} {F F1 H H1 : Hp} {α α1 : List Addr} {μ μ1 : Mu}
theorem ext_cut (e : Ext F α H F1 α1 H1) : α1.take α.length = α ∧ Ext F α H F1 α H1 := by
  obtain ⟨s, ⟨β, rfl⟩, f, t⟩ := e
  exact ⟨by simp, s, ⟨[], (List.append_nil α).symm⟩, fun p h0 h1 h2 => let ⟨a, b, _⟩ := f p h0 h1 h2; ⟨a, b, h2⟩, t⟩
theorem fnRet_ok {keep : Bool} {Q : KD} {Q' : VK} (R : Rel K F α μ H) (k : CtE K F α H Q Q') : CtE K F α H (fnRet keep μ.length Q) Q' := by
  intro F1 α1 μ1 H1 v x e1 R1 r1 q1
  have hl := R.len
  obtain ⟨hc, e2⟩ := ext_cut e1
  have R2 : Rel K F1 α (μ1.take μ.length) H1 := by
    have z := R1.cut μ.length
    rw [← hl, hc] at z
    rw [← hl]
    exact z
  unfold fnRet at q1
  split at q1
  · rename_i l
    obtain ⟨a, rfl, ha⟩ := r1
    split at q1
    · rename_i hlt
      refine k F1 α _ H1 _ _ e2 R2 (show RW K F1 α (.ref a) (.loc l) from ⟨a, rfl, ?_⟩) q1
      rw [← hc, List.getElem?_take_of_lt (by omega)]
      exact ha
    · rename_i hge
      have hnin : a ∉ α := fun hm => by
        obtain ⟨j, hj, ej⟩ := List.mem_iff_getElem.mp hm
        obtain ⟨s, ⟨β, rfl⟩, _, _⟩ := e1
        obtain ⟨h1, h2⟩ := List.getElem?_eq_some_iff.mp ha
        have P := List.nodup_iff_pairwise_ne.mp R1.nd
        have hj' : j < (α ++ β).length := by rw [List.length_append]; omega
        have ej' : (α ++ β)[j] = a := by rw [List.getElem_append_left hj]; exact ej
        exact absurd (ej'.trans h2.symm) (List.pairwise_iff_getElem.mp P j l hj' h1 (by omega))
      have e3 : Ext F α H F1 (α ++ [a]) H1 := by
        obtain ⟨s, ⟨β, rfl⟩, f, t⟩ := e1
        refine ⟨s, ⟨[a], rfl⟩, fun p h0 h1 h2 => ?_, t⟩
        obtain ⟨b1, b2, b3⟩ := f p h0 h1 h2
        refine ⟨b1, b2, fun z => ?_⟩
        rcases List.mem_append.mp z with z | z
        · exact h2 z
        · have : p = a := by simpa using z
          subst this
          exact b3 (List.mem_of_getElem? ha)
      have keepC : ∀ c, μ1[l]? = some c → Rel K F1 (α ++ [a]) (μ1.take μ.length ++ [c]) H1 := fun c hm => R2.own (R1.cell l a c ha hm) hnin
      have hlen : (μ1.take μ.length).length = μ.length := by
        have := R2.len
        omega
      have at_ : (α ++ [a])[μ.length]? = some a := by
        rw [List.getElem?_append_right (by omega), hl, Nat.sub_self]
        rfl
      split at q1
      · rename_i xs hm
        split at q1
        · exact k F1 _ _ H1 _ _ e3 (keepC _ hm) (show RW K F1 (α ++ [a]) (.ref a) (.loc μ.length) from ⟨a, rfl, at_⟩) q1
        · obtain ⟨F2, R3, e4, r3⟩ := R1.seal ha hm
          obtain ⟨_, e5⟩ := ext_cut (e1.trans e4)
          have R4 : Rel K F2 α (μ1.take μ.length) H1 := by
            have z := R3.cut μ.length
            rw [← hl, hc] at z
            have hs : (μ1.set l (.frz xs)).take μ.length = μ1.take μ.length := by
              rw [List.take_set_of_le]
              omega
            rw [← hl] at hs
            rw [hs] at z
            rw [← hl]
            exact z
          exact k F2 α _ H1 _ _ e5 R4 (.ofD r3) q1
      · rename_i xs hm
        split at q1
        · exact k F1 _ _ H1 _ _ e3 (keepC _ hm) (show RW K F1 (α ++ [a]) (.ref a) (.loc μ.length) from ⟨a, rfl, at_⟩) q1
        · obtain ⟨vs, f, _, d⟩ := R1.cell _ a _ ha hm
          exact k F1 α _ H1 _ _ e2 R2 (.ofD (.lst f d)) q1
      · rename_i c _ _ hm
        exact k F1 _ _ H1 _ _ e3 (keepC _ hm) (show RW K F1 (α ++ [a]) (.ref a) (.loc μ.length) from ⟨a, rfl, at_⟩) q1
      · cases q1
  · rename_i x hx
    have g : ∀ y : SV, (∀ l, y = .loc l → False) → RW K F1 α1 v y → RW K F1 α v y := fun y hy r => by
      cases y with
      | d z => exact (show Dq K F1 v z from r)
      | loc l => exact (hy l rfl).elim
      | scr ns => exact (show ∃ a, v = .ref a ∧ SqL K F1 a (ns.map V.int) from r)
    exact k F1 α _ H1 v _ e2 R2 (g _ hx r1) q1
theorem rs_start {N : List Str} {vs : List V} {ws : List SV} (r : RWs K F α vs ws) : RS K F α (ws.map some ++ List.replicate (N.length - ws.length) none) (L2.start N vs) := by
  have hl := r.len
  refine ⟨by unfold L2.start; simp [hl], fun i w h => ?_⟩
  have hi : i < ws.length := by
    by_cases hi : i < ws.length
    · exact hi
    · rw [List.getElem?_append_right (by simpa using hi), List.getElem?_replicate] at h
      split at h <;> cases h
  rw [List.getElem?_append_left (by simpa using hi), List.getElem?_map] at h
  cases q : ws[i]? with
  | none => rw [q] at h; cases h
  | some w' =>
    rw [q] at h
    cases h
    have : ∀ {vs : List V} {ws : List SV}, RWs K F α vs ws → ∀ {i : Nat} {w : SV}, ws[i]? = some w → ∃ v, vs[i]? = some v ∧ RW K F α v w := fun {vs ws} r => by
      induction r with
      | nil => intro i w h; simp at h
      | cons r1 _ ih =>
        intro i w h
        cases i with
        | zero => simp at h; subst h; exact ⟨_, rfl, r1⟩
        | succ i => simpa using ih (by simpa using h)
    obtain ⟨v, hv, rv⟩ := this r q
    refine ⟨v, ?_, rv⟩
    unfold L2.start
    rw [List.getElem?_append_left (by rw [List.length_map, hl]; exact hi), List.getElem?_map, hv]
    rfl
end
/-- A DEF: its body's meaning -/
theorem dfn {P : Program} {w : World} {K : PySem.W.Frag} {mg : Str → Option Value} {base : Heap} {x qual : Str} {st : Stmt} {f : Addr} {fd : FuncData} {N ps : List Str} {k : Nat} {keep : Bool} {wb : DS} {m l : Nat} (F : Fun K x qual st f fd) (S : FnScope N ps (defScope st))
    (hb : ∀ (cdv : Value) (A : Around) (outer : List Env) (s : Shared) (H : Hp) (E : XK), Room k (A.deeper (envOfC qual (defScope st) s.heap.objs.size f cdv)) → ∃ t, DSs K (cxOf CX0 P w K mg base N qual (defScope st) f cdv A outer s H E).nox (defBody st) t wb)
    (hm : m = N.length := by rfl) (hl : l = ps.length := by rfl) : FnOk P w K mg base CX0 (k + 1) f fd ps (spD K (fnW keep m l wb)) := by
  subst hm hl
  refine F.ok S (fun vs H Q E h => ?_) (fun cdv A outer s H vs Q E hr h => ?_)
  · obtain ⟨F, α, μ, ws, Qd, R, r, ⟨h1, _⟩, _⟩ := h
    rw [r.len, h1]
  · obtain ⟨F, α, μ, ws, Qd, R, r, ⟨_, hw⟩, k⟩ := h
    obtain ⟨t, d⟩ := hb cdv A outer s H E hr
    have q := fnRet_ok (keep := keep) R k
    exact ⟨t, d.ps, d.sim F α _ μ _ H _ _ ⟨R, rs_start r⟩ hw ⟨fun F' α' σ' μ' τ' H' e S' h => q F' α' μ' H' _ _ e S'.rel (.ofD .non) h, q, fun _ _ _ _ _ _ _ _ h => h.elim, fun _ _ _ _ _ _ _ _ h => h.elim⟩⟩
/-- a def of the module that keeps its meaning -/
structure DefOk (P : Program) (w : World) (K : PySem.W.Frag) (mg : Str → Option Value) (base : Heap) (x : Str) (k : Nat) (ps : List Str) (wf : DFn) : Prop where
  ex : ∃ f fd, FnOk P w K mg base CX0 k f fd ps (spD K wf) ∧ mg x = some (.ref f) ∧ PySem.W.keepIn K (.ref f) = true ∧ Binds K fd ps []
def dCall (wf : DFn) (w : DA) : DE := fun σ μ Q => w σ μ fun xs μ1 => wf xs μ1 Q
variable {x : Str} {k : Nat} {ps : List Str} {wf : DFn}
theorem simCall {K : PySem.W.Frag} {t : TA} {w : DA} (h : SimA K t w) : SimE K (tCall (spD K wf) [] E0 t) (dCall wf w) := fun F α σ μ τ H Q Q' S hw k =>
  h F α σ μ τ H _ _ S hw fun F1 α1 μ1 H1 vs xs e1 R1 r1 q1 => by
    rw [List.append_nil]
    exact ⟨F1, α1, μ1, xs, Q, R1, r1, q1, k.mono e1⟩
theorem dx_call (D : DefOk X.prog X.w K X.mg X.base x k ps wf) (hr : Room k X.A) (ha : DAa K X (e :: es) tA wA) (hg : Gl X x := by rfl) (hdb : (x == ("__debug__" : Str)) = false := by decide) (he : starEach (e :: es) X.env = (false, eval e X.env) :: starEach es X.env := by rfl) (hpl : (backTo pos (starEach es X.env)).any (·.1) = false := by rfl) (hK : X.K = K := by rfl) :
    DX K X (.Call (.Name x p) (e :: es) [] pos) (tCall (spD K wf) [] E0 tA) (dCall wf wA) := by
  subst hK
  obtain ⟨f, fd, F, hm, kp, b⟩ := D.ex
  exact ⟨pe_call F hr hg hm kp b .nil pass0 ha.pa hdb he hpl, simCall ha.sim⟩
theorem dx_call0 (D : DefOk X.prog X.w K X.mg X.base x k ps wf) (hr : Room k X.A) (hg : Gl X x := by rfl) (hdb : (x == ("__debug__" : Str)) = false := by decide) (hK : X.K = K := by rfl) : DX K X (.Call (.Name x p) [] [] pos) (tCall (spD K wf) [] E0 tNil) (dCall wf dNil) := by
  subst hK
  obtain ⟨f, fd, F, hm, kp, b⟩ := D.ex
  exact ⟨pe_call0 F hr hg hm kp b .nil pass0 hdb, simCall (da_nil (X := X)).sim⟩
theorem DefOk.of {P : Program} {w : World} {K : PySem.W.Frag} {mg : Str → Option Value} {base : Heap} {qual : Str} {st : Stmt} {f : Addr} {fd : FuncData} (F : Fun K x qual st f fd) (h : FnOk P w K mg base CX0 k f fd ps (spD K wf)) (hm : mg x = some (.ref f)) (hb : Binds K fd ps []) : DefOk P w K mg base x k ps wf := ⟨f, fd, h, hm, F.kp, hb⟩
end

/-! ### the law -/
/-- the law's promise over HandS: called with the script, it gives True -/
def spLaw (K : PySem.W.Frag) : Sp := fun vs H Q _ => ∃ (a : Addr) (ns : List Int), vs = [.ref a] ∧ SqL K H a (ns.map V.int) ∧ ns.length ≤ 63 ∧ Only H ∧ ∀ H', Q (.bl true) H'
theorem law_ok {P : Program} {w : World} {K : PySem.W.Frag} {mg : Str → Option Value} {base : Heap} {k : Nat} {f : Addr} {fd : FuncData} {ps : List Str} {wf : DFn} (F : FnOk P w K mg base CX0 k f fd ps (spD K wf))
    (h : ∀ ns : List Int, ns.length ≤ 63 → wf [.scr ns] [] fun x _ => x = .d (.bool true)) : FnOk P w K mg base CX0 k f fd ps (spLaw K) :=
  F.imp fun vs H Q E ⟨a, ns, e, hs, hl, ho, q⟩ => by
    subst e
    refine ⟨H, [], [], [.scr ns], fun x _ => x = .d (.bool true), ⟨Same.refl H, rfl, List.nodup_nil, fun k a c e => by simp at e⟩, .cons ⟨a, rfl, hs⟩ .nil, h ns hl, fun F' α' μ' H' v x _ _ r e => ?_⟩
    subst e
    cases r
    exact q H'
end DL
namespace DL
open PySem PySem.Spec PyProof.Rows L2
theorem units65 {k : Nat} {A : Around} (r : Room k A) : A.units + 65 < cLine := by
  have := r.un
  omega
/-- a def of the module as it stands behind the top -/
def HasFn (K : PySem.W.Frag) (mg : Str → Option Value) (x : Str) (st : Stmt) : Prop := ∃ f fd, Fun K x x st f fd ∧ mg x = some (.ref f)
theorem hasFn {K : PySem.W.Frag} {mg : Str → Option Value} {h : Heap} {x : Str} {st : Stmt} {f : Addr} {oc : Value} {od an : Option Addr} {sl : Array (Option Value)} {kV dc pm cd ct : Value} (X : K.In h) (G : h.Ns mainGlobals mg)
    (a : PySem.W.nsIn K mainGlobals x = some (some (.ref f))) (l : K.lookup f = some ⟨oc, od, .func (PySem.W.fnOf x x (defArgs st) (defBody st) (defScope st) .none kV dc pm an cd ct), sl⟩) (c : PySem.W.codeIn K cd x = true) (k : PySem.W.keepIn K (.ref f) = true) : HasFn K mg x st :=
  ⟨f, _, fun_mk l c k, PySem.W.mg_of X G a⟩
theorem ok_of {P : Program} {w : World} {K : PySem.W.Frag} {mg : Str → Option Value} {base : Heap} {x : Str} {st : Stmt} {N ps : List Str} {k : Nat} {keep : Bool} {wb : DS} {m l : Nat} (h : HasFn K mg x st) (S : FnScope N ps (defScope st))
    (hbind : ∀ (kV doc pm : Value) (an : Option Addr) (cdv ct : Value) (us : List Value), us.length = ps.length → bindArgs (PySem.W.fnOf x x (defArgs st) (defBody st) (defScope st) .none kV doc pm an cdv ct) ⟨us, []⟩ = pure (ps.zip us))
    (hb : ∀ (f : Addr) (cdv : Value) (A : Around) (outer : List Env) (s : Shared) (H : Hp) (E : XK), Room k (A.deeper (envOfC x (defScope st) s.heap.objs.size f cdv)) → ∃ t, DSs K (cxOf CX0 P w K mg base N x (defScope st) f cdv A outer s H E).nox (defBody st) t wb)
    (hm : m = N.length := by rfl) (hl : l = ps.length := by rfl) : DefOk P w K mg base x (k + 1) ps (fnW keep m l wb) := by
  obtain ⟨f, fd, F, g⟩ := h
  exact .of F (dfn F S (hb f) hm hl) g (F.binds hbind)
theorem DefOk.mono {P : Program} {w : World} {K : PySem.W.Frag} {mg : Str → Option Value} {base : Heap} {x : Str} {ps : List Str} {j k : Nat} {wf : DFn} (D : DefOk P w K mg base x j ps wf) (h : j ≤ k) : DefOk P w K mg base x k ps wf :=
  let ⟨f, fd, F, a, b, c⟩ := D.ex
  ⟨f, fd, F.mono h, a, b, c⟩
/-- the meaning that promises nothing -/
def wNone : DFn := fun _ _ _ => False
theorem ok_none {P : Program} {w : World} {K : PySem.W.Frag} {mg : Str → Option Value} {base : Heap} {x : Str} {st : Stmt} {ps : List Str} {k : Nat} (h : HasFn K mg x st)
    (hbind : ∀ (kV doc pm : Value) (an : Option Addr) (cdv ct : Value) (us : List Value), us.length = ps.length → bindArgs (PySem.W.fnOf x x (defArgs st) (defBody st) (defScope st) .none kV doc pm an cdv ct) ⟨us, []⟩ = pure (ps.zip us)) : DefOk P w K mg base x k ps wNone := by
  obtain ⟨f, fd, F, g⟩ := h
  refine .of F ⟨fun vs H Q E h => ?_, fun A outer s H args us vs Q E hr he hb hv hs => ?_⟩ g (F.binds hbind)
  · obtain ⟨_, _, _, _, _, _, _, h, _⟩ := h
    exact h.elim
  · obtain ⟨_, _, _, _, _, _, _, h, _⟩ := hs
    exact h.elim
theorem gint_of {q : Program} {lv : List (Str × PySem.W.WData)} {mg : Str → Option Value} {h : Heap} {x : Str} {i : Int} (L : PySem.W.XL q lv mg h) (hm : (x, PySem.W.WData.int i) ∈ lv) : IsGInt mg x i := by
  obtain ⟨v, e, r⟩ := L.2.val _ hm
  cases r
  exact ⟨_, e⟩
theorem gint_in {K : PySem.W.Frag} {mg : Str → Option Value} {h : Heap} {x : Str} {i : Int} {t : Tok} (X : K.In h) (G : h.Ns mainGlobals mg) (a : PySem.W.nsIn K mainGlobals x = some (some (.int i t))) : IsGInt mg x i := ⟨t, PySem.W.mg_of X G a⟩
/-- the law's def: it keeps its promise over every base -/
theorem law_of {P : Program} {w : World} {K : PySem.W.Frag} {mg : Str → Option Value} {x y : Str} {st : Stmt} {N : List Str} {k : Nat} {wb : DS} {m : Nat} (h : HasFn K mg x st) (S : FnScope N [y] (defScope st))
    (hbind : ∀ (kV doc pm : Value) (an : Option Addr) (cdv ct : Value) (us : List Value), us.length = [y].length → bindArgs (PySem.W.fnOf x x (defArgs st) (defBody st) (defScope st) .none kV doc pm an cdv ct) ⟨us, []⟩ = pure ([y].zip us))
    (hb : ∀ base : Heap, K.In base → base.Ns mainGlobals mg → ∀ (f : Addr) (cdv : Value) (A : Around) (outer : List Env) (s : Shared) (H : Hp) (E : XK), Room k (A.deeper (envOfC x (defScope st) s.heap.objs.size f cdv)) →
      ∃ t, DSs K (cxOf CX0 P w K mg base N x (defScope st) f cdv A outer s H E).nox (defBody st) t wb)
    (hw : ∀ ns : List Int, ns.length ≤ 63 → fnW false m 1 wb [.scr ns] [] fun x _ => x = .d (.bool true)) (hm : m = N.length := by rfl) :
    ∀ fa, mg x = some (.ref fa) → ∃ fd, (∀ (s : Shared) (u : Value), BindsTo s fd ⟨[u], []⟩ [(y, u)]) ∧ ∀ base : Heap, K.In base → base.Ns mainGlobals mg → FnOk P w K mg base CX0 (k + 1) fa fd [y] (spLaw K) := by
  intro fa hfa
  obtain ⟨f, fd, F, g⟩ := h
  rw [hfa] at g
  cases g
  refine ⟨fd, fun s u => ?_, fun base h1 h2 => law_ok (dfn F S (hb base h1 h2 fa) hm rfl) hw⟩
  obtain ⟨oc, od, kV, doc, pm, an, cdv, ct, osl, rfl, lk, hcd⟩ := F.ex
  exact .of_eq (hbind kV doc pm an cdv ct [u] rfl)
/-- the goal that k_head leaves, from the law's promise; the module's loose ints are handed on -/
theorem walk_ofX {l : PySem.W.OpenLaw} {n k : Nat} {q : Program} {loose : List Str} {XP : (Str → Option Value) → Heap → Prop} {YP : World → Heap → Prop} {d : DefRec} {K : Params → PySem.W.Frag} {x : Str}
    (hn : l.most = some n) (hn2 : n ≤ 63) (hdf : d.params.defaults = []) (hr : Room k callerA) (hY : ∀ (w : World) (h : Heap), YP w h → (K w.params).In h)
    (F : ∀ (w : World) (mg : Str → Option Value) (h : Heap), (K w.params).In h → h.Ns mainGlobals mg → XP mg h → ∀ fa : Addr, mg d.name = some (.ref fa) →
      ∃ fd : FuncData, (∀ (s : Shared) (u : Value), BindsTo s fd ⟨[u], []⟩ [(x, u)]) ∧ ∀ base : Heap, (K w.params).In base → base.Ns mainGlobals mg → FnOk l.prog w (K w.params) mg base CX0 k fa fd [x] (spLaw (K w.params))) :
    PySem.W.WalkO q loose XP YP l.row.toRowW d [] (fun f vs => PySem.call f vs) := by
  refine Att.attach_call hn hdf fun w s₀ s₁ mg mb fa o pm cd doc a vs ns G Y ho hd hcd hmg hobj hints hlen hg => ?_
  have KX := hY w _ Y
  obtain ⟨fd, hb, hF⟩ := F w mg _ KX G.T.g G.X fa hmg
  have h63 : (63 : Nat) ≤ sizeLine := by decide
  exact law_call KX G.T.g G.T.b G.T.builtins G.T.nolimit hg hobj hints (by omega) hr hF hb (fun H hO hS => ⟨a, ns, rfl, hS, by omega, hO, fun _ => rfl⟩) fun _ _ _ h => h
end DL
namespace DL
open PySem PySem.Spec PyProof.Rows L2
section
variable {prog : Program} {w : World} {A : Around} {E : Value → Shared → Prop} {s : Shared}
/-- t[::-1] of a tuple -/
theorem sliceApplied_rev {sl : Addr} {vs : Value} {n : Nat} {Q : Int × Int × Nat → Shared → Prop} (hs : s.heap.IsSliceOf sl .none .none vs) (ps : IsPart vs (some (-1))) (h : Q ((n : Int) - 1, -1, n) s) :
    wpAny (model prog w) A (Builtin.Slice.sliceApplied (.ref sl) (pure (n : Int))) Q E s := by
  obtain ⟨os, hos, hcs, hds⟩ := id hs
  unfold Builtin.Slice.sliceApplied Builtin.Slice.sliceFields
  refine wpAny_bind (wpAny_bind (wpAny_field hos hds (x := .none) rfl (wpAny_bind (wpAny_field hos hds (x := .none) rfl (wpAny_bind (wpAny_field hos hds (x := vs) rfl (wpAny_pure ?_)))))))
  refine wpAny_bind (HT.slicePart_ ps ?_)
  show wpAny _ _ (if ((-1 : Int) == 0) = true then _ else _) _ _ s
  rw [if_neg (by decide)]
  refine wpAny_bind (slicePart_none (wpAny_bind (slicePart_none (wpAny_bind (wpAny_pure ?_)))))
  have e : Builtin.Slice.sliceAdjust none none (-1) (n : Int) = ((n : Int) - 1, -1) := rfl
  show wpAny _ _ (match Builtin.Slice.sliceAdjust none none (-1) (n : Int) with | (lo, hi) => pure (lo, (-1 : Int), Builtin.Slice.slicePlaces lo hi (-1))) _ _ s
  rw [e]
  show wpAny _ _ (pure ((n : Int) - 1, (-1 : Int), Builtin.Slice.slicePlaces ((n : Int) - 1) (-1) (-1))) _ _ s
  have e2 : Builtin.Slice.slicePlaces ((n : Int) - 1) (-1) (-1) = n := by
    unfold Builtin.Slice.slicePlaces
    rw [if_neg (by decide)]
    by_cases hn : (n : Int) - 1 > -1
    · rw [if_pos hn]
      have : (((n : Int) - 1 - -1 - 1) / (- -1) + 1) = n := by
        rw [show (- -1 : Int) = 1 by decide, Int.ediv_one]
        omega
      rw [this]
      omega
    · rw [if_neg hn]
      omega
  rw [e2]
  exact wpAny_pure h
theorem filterMap_ext {α β : Type} {f g : α → Option β} : ∀ {l : List α}, (∀ x ∈ l, f x = g x) → l.filterMap f = l.filterMap g
  | [], _ => rfl
  | x :: r, h => by
    rw [List.filterMap_cons, List.filterMap_cons, h x (List.mem_cons_self ..), filterMap_ext fun y hy => h y (List.mem_cons_of_mem _ hy)]
theorem pick_rev (xs : List Value) : ((List.range xs.length).filterMap fun (m : Nat) => xs.toArray[((xs.length : Int) - 1 + (m : Int) * (-1)).toNat]?).toArray = xs.reverse.toArray := by
  have h1 : (List.range xs.length).filterMap (fun (m : Nat) => xs.toArray[((xs.length : Int) - 1 + (m : Int) * (-1)).toNat]?) = xs.reverse := by
    have e : ∀ m ∈ List.range xs.length, xs.toArray[((xs.length : Int) - 1 + (m : Int) * (-1)).toNat]? = (fun m => xs.reverse[m]?) m := by
      intro m hm
      have hm' : m < xs.length := List.mem_range.mp hm
      have : ((xs.length : Int) - 1 + (m : Int) * (-1)).toNat = xs.length - 1 - m := by omega
      rw [this]
      show xs.toArray[xs.length - 1 - m]? = xs.reverse[m]?
      rw [List.getElem?_reverse hm']
      simp
    rw [filterMap_ext e]
    have k := PySem.W.krv_all xs.reverse.toArray
    simp only [List.size_toArray, List.length_reverse] at k
    refine Eq.trans (filterMap_ext fun m _ => ?_) k
    simp
  rw [h1]
theorem getItem_tuple_rev {t sl : Addr} {items : List Value} {vs : Value} {Q : Value → Shared → Prop} (ht : IsTup s.heap t items.toArray) (hs : s.heap.IsSliceOf sl .none .none vs) (ps : IsPart vs (some (-1)))
    (h : Q (.ref s.heap.objs.size) { s with heap := s.heap.push { cls := .type "tuple", data := .seq items.reverse.toArray } }) (hsz : items.length ≤ sizeLine) : wpAny (model prog w) A (getItem (.ref t) (.ref sl)) Q E s := by
  have htake : sizeOk (.seq items.reverse.toArray) := by
    show items.reverse.toArray.size ≤ sizeLine
    rw [List.size_toArray, List.length_reverse]
    exact hsz
  obtain ⟨os, hos, hcs, hds⟩ := id hs
  have hTs : s.TypeIs (.ref sl) "slice" := ⟨os, hos, hcs⟩
  unfold getItem
  try with_reducible refine wpAny_holding ?_
  first | refine wpAny_bind (wpAny_pure ?_) | skip
  refine wpAny_bind (wpAny_sequenceKey ht.typeIs (by decide) ?_)
  refine wpAny_bind (wpAny_callSpecial?_slot (name := Str.ofString "__getitem__") ht.typeIs PyProof.Rows.slot_tuple_getitem
    (wpAny_call_entry PyProof.Rows.slot_tuple_getitem ht.typeIs entry_tuple_getitem ?_ (args_tuple_getitem _ _)))
  show wpAny _ _ (Builtin.Tuple.tupleItemsOf (.ref t) >>= _) _ _ s
  refine wpAny_bind (tupleItemsOf_ ht ?_)
  refine wpAny_bind (wpAny_typeOf hTs ?_)
  rw [if_pos (by decide)]
  rw [show items.toArray.size = items.length by simp]
  refine wpAny_bind (sliceApplied_rev hs ps ?_)
  have hno : ¬ ((((items.length : Int) - 1 == 0 && (-1 : Int) == 1 && items.length == items.length)) = true) := by simp
  show wpAny _ _ (if (((items.length : Int) - 1 == 0 && (-1 : Int) == 1 && items.length == items.length)) = true then _ else _) _ _ s
  rw [if_neg hno, pick_rev]
  first
    | exact wpAny_bind (m := Builtin.Tuple.tupleExact _) (wpAny_newObj_type (wpAny_pure ⟨_, rfl, wpAny_pure h⟩) htake)
    | exact wpAny_bind (m := Builtin.Tuple.tupleExact _) (wpAny_newObj_type (wpAny_bind (wpAny_pure (wpAny_pure ⟨_, rfl, wpAny_pure h⟩))) htake)
    | exact wpAny_bind (wpAny_bind (m := Builtin.Tuple.tupleExact _) (wpAny_newObj_type (wpAny_pure (wpAny_pure ⟨_, rfl, wpAny_pure h⟩)) htake))
    | exact wpAny_bind (wpAny_bind (m := Builtin.Tuple.tupleExact _) (wpAny_newObj_type (wpAny_pure ⟨_, rfl, wpAny_pure h⟩) htake))
end
section
variable {K : PySem.W.Frag} {X : Cx} {a : Expr} {ta : TE} {wa : DE} {pos : Pos}
def tRevA (K : PySem.W.Frag) (te : TE) : TE := fun σ H Q => te σ H fun x H1 => ∃ a xs, x = .ref a ∧ ((SqL K H1 a xs ∧ ∀ p, H1 p = none → Q (.ref p) (upd H1 p (.lst xs.reverse))) ∨ (SqT K H1 a xs ∧ ∀ p, H1 p = none → Q (.ref p) (upd H1 p (.tup xs.reverse))))
theorem pe_revA {e : Expr} {te : TE} {k : Nat} {p1 p2 p3 pos : Pos} (he : PE X e te) : PE X (.Subscript e (.Slice none none (some (.UnaryOp .USub (.Constant (.int 1) k p1) p2)) p3) pos) (tRevA X.K te) := by
  refine ⟨fun pins s σ H Q I h => ?_⟩
  refine Subscript_ (thn (he.run pins s σ H _ I h) fun v s1 ⟨x, H1, I1, r1, q1⟩ => ?_)
  obtain ⟨a, xs, ex, q⟩ := q1
  subst ex
  cases r1
  have hst : PO X (some (.UnaryOp .USub (.Constant (.int 1) k p1) p2)) (tPart (tUn (rU fun i => .int (-i)) (tC (.int 1)))) := po_some (pe_un un_neg pe_int)
  refine wpAny_Slice (thn (po_none.run pins s1 σ H1 (fun o H2 => o = none ∧ H2 = H1) I1 ⟨rfl, rfl⟩) fun vl s2 ⟨l, H2, I2, pl, el, e2⟩ => ?_)
  subst el e2
  refine thn (po_none.run pins s2 σ H2 (fun o H3 => o = none ∧ H3 = H2) I2 ⟨rfl, rfl⟩) fun vu s3 ⟨u, H3, I3, pu, eu, e3⟩ => ?_
  subst eu e3
  refine thn (hst.run pins s3 σ H3 (fun o H4 => o = some (-1) ∧ H4 = H3) I3 ⟨1, rfl, -1, rfl, rfl, rfl⟩) fun vs s4 ⟨o, H4, I4, ps, eo, e4⟩ => ?_
  subst eo e4
  have I5 : Inv X pins σ H4 { s4 with heap := s4.heap.push { cls := .type "slice", data := .fields #[vl, vu, vs] } } := I4.kept (t' := s4.toks) fun b ob q => Heap.get?_push_of_some _ q
  have evl : vl = .none := by cases pl; rfl
  have evu : vu = .none := by cases pu; rfl
  subst evl evu
  show wpAny (model X.prog X.w) X.A (subscriptTail e (.Slice none none (some (.UnaryOp .USub (.Constant (.int 1) k p1) p2)) p3) (.ref a) (.ref s4.heap.objs.size)) (EP X pins σ Q) X.xe { s4 with heap := s4.heap.push { cls := .type "slice", data := .fields #[.none, .none, vs] } }
  rcases q with ⟨hx, q⟩ | ⟨hx, q⟩
  · obtain ⟨its, r, ht, hz⟩ := I5.list hx
    have hlen := r.length
    refine tail_any (ops := [.ref a, .ref s4.heap.objs.size]) ht.isList.typeIs (PySem.slot_list_getitem.lookup) ?_ (by with_unfolding_all rfl)
    refine wpAny_getItem_list_slice ht.isList (Heap.IsSliceOf.new _ .none .none vs) .none .none ps (by decide) ?_ (by rw [List.size_toArray]; omega)
    rw [PySem.W.krv_pick]
    refine ⟨.ref _, _, I5.laid (t' := s4.toks) (o := .lst xs.reverse) (fun b ob q => Heap.get?_push_of_some _ q) (Nat.le_refl _) ?_, rfl, q _ (I5.hok.fresh (Nat.le_refl _))⟩
    exact ⟨by rw [List.length_reverse]; exact hz, _, 0, r.reverse, Heap.get?_push_size _ rfl⟩
  · obtain ⟨its, r, ht, hz⟩ := I5.tuple hx
    have hlen := r.length
    refine tail_any (ops := [.ref a, .ref s4.heap.objs.size]) ht.typeIs (PyProof.Rows.slot_tuple_getitem.lookup) ?_ (by with_unfolding_all rfl)
    refine getItem_tuple_rev ht (Heap.IsSliceOf.new _ .none .none vs) ps ?_ (by omega)
    refine ⟨.ref _, _, I5.laid (t' := s4.toks) (o := .tup xs.reverse) (fun b ob q => Heap.get?_push_of_some _ q) (Nat.le_refl _) ?_, rfl, q _ (I5.hok.fresh (Nat.le_refl _))⟩
    exact ⟨by rw [List.length_reverse]; exact hz, _, r.reverse, _, Heap.get?_push_size _ rfl, rfl, _, rfl⟩
def dRev (wa : DE) : DE := fun σ μ Q => wa σ μ fun x μ1 => match view μ1 x with
  | some (true, xs) => Q (.d (.tuple xs.reverse)) μ1
  | some (false, xs) => Q (.d (.list xs.reverse)) μ1
  | none => False
theorem dx_rev {k : Nat} {p1 p2 p3 : Pos} (ha : DX K X a ta wa) (hK : X.K = K := by rfl) : DX K X (.Subscript a (.Slice none none (some (.UnaryOp .USub (.Constant (.int 1) k p1) p2)) p3) pos) (tRevA K ta) (dRev wa) := by
  subst hK
  refine ⟨pe_revA ha.pe, fun F α σ μ τ H Q Q' S h k => ?_⟩
  refine ha.sim F α σ μ τ H _ _ S h fun F1 α1 μ1 H1 v x e1 R1 r1 q1 => ?_
  split at q1
  · rename_i xs e
    obtain ⟨p, us, rfl, h1, d1⟩ := view_tup R1 r1 e
    exact ⟨p, us, rfl, .inr ⟨h1, (k.mono e1).tup R1 (dqAll_rev d1) q1⟩⟩
  · rename_i xs e
    obtain ⟨p, us, rfl, h1, d1⟩ := view_list R1 r1 e
    exact ⟨p, us, rfl, .inl ⟨SqL.of h1, (k.mono e1).lst R1 (dqAll_rev d1) q1⟩⟩
  · cases q1
end
end DL
/-! DLs: how a meaning is shown: one rule a statement (backwards), expressions by simp. -/
namespace DL
open PySem PySem.Spec PyProof.Rows L2
section
variable {D : DEnds} {σ : Sl} {μ : Mu} {s u b : DS} {w wo wi wa wb : DE} {wt : DT} {wA : DA} {i j l : Nat}
/-! ### a last statement -/
theorem b_seq (h : s { D with nx := u D } σ μ) : dSeq s u D σ μ := h
theorem b_next (h : D.nx σ μ) : dNext D σ μ := h
theorem b_set (h : ∀ K : KD, (∀ x μ1, D.nx (σ.set i (some x)) μ1 → K x μ1) → w σ μ K) : dSet w i D σ μ := h _ fun _ _ q => q
theorem b_ret (h : w σ μ D.rt) : dRet w D σ μ := h
theorem b_drop (h : ∀ K : KD, (∀ x μ1, D.nx σ μ1 → K x μ1) → w σ μ K) : dDrop w D σ μ := h _ fun _ _ q => q
theorem b_if (h : ∀ K : Bool → Mu → Prop, (∀ μ1, s D σ μ1 → K true μ1) → (∀ μ1, u D σ μ1 → K false μ1) → wt σ μ K) : dIfS wt s u D σ μ :=
  h _ (fun _ q => (if_pos rfl).mpr q) fun _ q => (if_neg Bool.false_ne_true).mpr q
theorem b_par (h : ∀ K : List SV → Mu → Prop, (∀ x y μ1, D.nx ((σ.set i (some x)).set j (some y)) μ1 → K [x, y] μ1) → wA σ μ K) : dPar i j wA D σ μ := h _ fun _ _ _ q => q
theorem b_par3 (h : ∀ K : List SV → Mu → Prop, (∀ x y z μ1, D.nx (((σ.set i (some x)).set j (some y)).set l (some z)) μ1 → K [x, y, z] μ1) → wA σ μ K) : dPar3 i j l wA D σ μ := h _ fun _ _ _ _ q => q
theorem b_asg {g : DG} (h : ∀ K : KD, (∀ d μ1, (g d σ fun σ1 => D.nx σ1 μ1) → K (.d d) μ1) → w σ μ K) : dAsg w g D σ μ := by
  have q := h (fun x μ1 => match x with
    | .d d => g d σ fun σ1 => D.nx σ1 μ1
    | _ => False) fun d μ1 q => q
  exact q
theorem b_store (h : ∀ K : SV → SV → SV → Mu → Prop, (∀ d x n k xs j μ3, lstAt μ3 x = some (k, xs) → L2.ixN xs.length n = some j → D.nx σ (μ3.set k (.lst (xs.set j d))) → K (.d d) x (.d (.int n)) μ3) →
    w σ μ fun v μ1 => wo σ μ1 fun x μ2 => wi σ μ2 fun y μ3 => K v x y μ3) : dStore w wo wi D σ μ := by
  refine h (fun v x y μ3 => match v, y, lstAt μ3 x with
    | .d d, .d (.int i), some (k, xs) => (match ixN xs.length i with
      | some j => D.nx σ (μ3.set k (.lst (xs.set j d)))
      | none => False)
    | _, _, _ => False) fun d x n k xs j μ3 h1 h2 q => ?_
  show (match SV.d d, SV.d (PyData.int n), lstAt μ3 x with
    | .d d, .d (.int i), some (k, xs) => (match ixN xs.length i with
      | some j => D.nx σ (μ3.set k (.lst (xs.set j d)))
      | none => False)
    | _, _, _ => False)
  rw [h1]
  show (match ixN xs.length n with
      | some j => D.nx σ (μ3.set k (.lst (xs.set j d)))
      | none => False)
  rw [h2]
  exact q
theorem b_for {it : DIt} {g : DG} (h : ∀ K : List PyData → Mu → Prop, (∀ xs μ1, dLoop g b D xs σ μ1 → K xs μ1) → it σ μ K) : dFor it g b D σ μ := h _ fun _ _ q => q
/-- a while by an invariant of the slots and the store, and a measure -/
theorem b_while (I : Nat → Sl → Mu → Prop) (m0 : Nat) (h0 : I m0 σ μ)
    (step : ∀ m σ μ, I m σ μ → ∀ K : Bool → Mu → Prop, (∀ μ1, (∀ N : Sl → Mu → Prop, (∀ m' σ' μ', m' < m → I m' σ' μ' → N σ' μ') → b { D with nx := N, ct := N, bk := D.nx } σ μ1) → K true μ1) → (∀ μ1, D.nx σ μ1 → K false μ1) → wt σ μ K) : dWhile wt b D σ μ := by
  have go : ∀ n m σ μ, m < n → I m σ μ → dWhileN wt b D n σ μ := by
    intro n
    induction n with
    | zero => exact fun m _ _ h => absurd h (Nat.not_lt_zero m)
    | succ n ih =>
      intro m σ μ hm hi
      show wt σ μ _
      refine step m σ μ hi _ (fun μ1 q => ?_) (fun μ1 q => ?_)
      · rw [if_pos rfl]
        exact q _ fun m' σ' μ' hm' hi' => ih m' σ' μ' (by omega) hi'
      · rw [if_neg Bool.false_ne_true]
        exact q
  exact ⟨m0 + 1, go _ _ _ _ (Nat.lt_succ_self m0) h0⟩
/-- a loop over data by an invariant: what is left, slots, store -/
theorem b_loop {g : DG} (I : List PyData → Sl → Mu → Prop) (xs : List PyData) (h0 : I xs σ μ) (hn : ∀ σ μ, I [] σ μ → D.nx σ μ)
    (hs : ∀ x r σ μ, I (x :: r) σ μ → ∀ N : Sl → Mu → Prop, (∀ σ' μ', I r σ' μ' → N σ' μ') → g x σ fun σ1 => b { D with nx := N, ct := N, bk := D.nx } σ1 μ) : dLoop g b D xs σ μ := by
  induction xs generalizing σ μ with
  | nil => exact hn σ μ h0
  | cons x r ih => exact hs x r σ μ h0 _ fun σ' μ' q => ih q
theorem b_loop_nil {g : DG} (h : D.nx σ μ) : dLoop g b D [] σ μ := h
theorem b_loop_cons {g : DG} {x : PyData} {r : List PyData} (h : g x σ fun σ1 => b { D with nx := dLoop g b D r, ct := dLoop g b D r, bk := D.nx } σ1 μ) : dLoop g b D (x :: r) σ μ := h
/-! ### a statement with others behind it -/
theorem q_set (h : ∀ K : KD, (∀ x μ1, u D (σ.set i (some x)) μ1 → K x μ1) → w σ μ K) : dSeq (dSet w i) u D σ μ := h _ fun _ _ q => q
theorem q_drop (h : ∀ K : KD, (∀ x μ1, u D σ μ1 → K x μ1) → w σ μ K) : dSeq (dDrop w) u D σ μ := h _ fun _ _ q => q
theorem q_if (h : ∀ K : Bool → Mu → Prop, (∀ μ1, s { D with nx := u D } σ μ1 → K true μ1) → (∀ μ1, b { D with nx := u D } σ μ1 → K false μ1) → wt σ μ K) : dSeq (dIfS wt s b) u D σ μ :=
  h _ (fun _ q => (if_pos rfl).mpr q) fun _ q => (if_neg Bool.false_ne_true).mpr q
/-- an if that leaves or does nothing -/
theorem q_if1 (h : ∀ K : Bool → Mu → Prop, (∀ μ1, s { D with nx := u D } σ μ1 → K true μ1) → (∀ μ1, u D σ μ1 → K false μ1) → wt σ μ K) : dSeq (dIfS wt s dNext) u D σ μ :=
  h _ (fun _ q => (if_pos rfl).mpr q) fun _ q => (if_neg Bool.false_ne_true).mpr q
theorem q_par (h : ∀ K : List SV → Mu → Prop, (∀ x y μ1, u D ((σ.set i (some x)).set j (some y)) μ1 → K [x, y] μ1) → wA σ μ K) : dSeq (dPar i j wA) u D σ μ := h _ fun _ _ _ q => q
theorem q_par3 (h : ∀ K : List SV → Mu → Prop, (∀ x y z μ1, u D (((σ.set i (some x)).set j (some y)).set l (some z)) μ1 → K [x, y, z] μ1) → wA σ μ K) : dSeq (dPar3 i j l wA) u D σ μ := h _ fun _ _ _ _ q => q
theorem q_asg {g : DG} (h : ∀ K : KD, (∀ d μ1, (g d σ fun σ1 => u D σ1 μ1) → K (.d d) μ1) → w σ μ K) : dSeq (dAsg w g) u D σ μ := b_asg (D := { D with nx := u D }) h
theorem q_store (h : ∀ K : SV → SV → SV → Mu → Prop, (∀ d x n k xs j μ3, lstAt μ3 x = some (k, xs) → L2.ixN xs.length n = some j → u D σ (μ3.set k (.lst (xs.set j d))) → K (.d d) x (.d (.int n)) μ3) →
    w σ μ fun v μ1 => wo σ μ1 fun x μ2 => wi σ μ2 fun y μ3 => K v x y μ3) : dSeq (dStore w wo wi) u D σ μ := b_store (D := { D with nx := u D }) h
theorem q_for {it : DIt} {g : DG} (h : ∀ K : List PyData → Mu → Prop, (∀ xs μ1, dLoop g b { D with nx := u D } xs σ μ1 → K xs μ1) → it σ μ K) : dSeq (dFor it g b) u D σ μ := h _ fun _ _ q => q
end
/-! ### expressions: equations for simp -/
section
variable {i j : Int} {x y : SV} {d e : PyData} {s t : Str} {p q : Bool} {xs ys : List PyData} {μ : Mu} {Q : KD} {QB : Bool → Mu → Prop} {QA : List SV → Mu → Prop} {QN : List PyData → Mu → Prop} {σ : Sl}
theorem e_var0 {r : Sl} : dVar 0 (some x :: r) μ Q = Q x μ := rfl
theorem e_varS {n : Nat} {o : Option SV} {r : Sl} : dVar (n + 1) (o :: r) μ Q = dVar n r μ Q := by
  unfold dVar
  rw [List.getElem?_cons_succ]
theorem e_varF0 {r : Sl} : dVarF 0 (some (.d d) :: r) μ Q = Q (.d d) μ := rfl
theorem e_varFS {n : Nat} {o : Option SV} {r : Sl} : dVarF (n + 1) (o :: r) μ Q = dVarF n r μ Q := by
  unfold dVarF
  rw [List.getElem?_cons_succ]
theorem e_C : dC d σ μ Q = Q (.d d) μ := rfl
theorem e_op {g : GO} {wa wb : DE} : dOp g wa wb σ μ Q = wa σ μ fun x μ1 => wb σ μ1 fun y μ2 => g x y μ2 Q := rfl
theorem e_B {w : DE} : dB w σ μ QB = w σ μ fun x μ1 => match x with
  | .d (.bool b) => QB b μ1
  | _ => False := rfl
theorem e_chain {g g' : GO} {wa wb wc : DE} : dChain g g' wa wb wc σ μ Q = wa σ μ fun x μ1 => wb σ μ1 fun y μ2 => g x y μ2 fun z μ3 => match z with
  | .d (.bool k) => if k = true then wc σ μ3 fun u μ4 => g' y u μ4 Q else Q (.d (.bool false)) μ3
  | _ => False := rfl
theorem e_and {t u : DT} : dAnd t u σ μ QB = t σ μ fun c μ1 => if c = true then u σ μ1 QB else QB false μ1 := rfl
theorem e_or {t u : DT} : dOr t u σ μ QB = t σ μ fun c μ1 => if c = true then QB true μ1 else u σ μ1 QB := rfl
theorem e_not {t : DT} : dNot t σ μ QB = t σ μ fun c μ1 => QB (!c) μ1 := rfl
theorem e_andV {wa wb : DE} : dAndV wa wb σ μ Q = wa σ μ fun x μ1 => match x with
  | .d (.bool c) => if c = true then wb σ μ1 Q else Q (.d (.bool false)) μ1
  | _ => False := rfl
theorem e_orV {wa wb : DE} : dOrV wa wb σ μ Q = wa σ μ fun x μ1 => match x with
  | .d (.bool c) => if c = true then Q (.d (.bool true)) μ1 else wb σ μ1 Q
  | _ => False := rfl
theorem e_notV {wa : DE} : dNotV wa σ μ Q = wa σ μ fun x μ1 => match x with
  | .d (.bool c) => Q (.d (.bool (!c))) μ1
  | _ => False := rfl
theorem e_if {w : DT} {wa wb : DE} : dIf w wa wb σ μ Q = w σ μ fun c μ1 => if c = true then wa σ μ1 Q else wb σ μ1 Q := rfl
theorem e_nil : dNil σ μ QA = QA [] μ := rfl
theorem e_cons {wa : DE} {wr : DA} : dCons wa wr σ μ QA = wa σ μ fun x μ1 => wr σ μ1 fun xs μ2 => QA (x :: xs) μ2 := rfl
theorem e_tup {w : DA} : dTup w σ μ Q = w σ μ fun xs μ1 => match allD xs with
  | some ds => ds.length ≤ sizeLine ∧ Q (.d (.tuple ds)) μ1
  | none => False := rfl
theorem e_lst {w : DA} : dLst w σ μ QN = w σ μ fun xs μ1 => match allD xs with
  | some ds => ds.length ≤ sizeLine ∧ QN ds μ1
  | none => False := rfl
theorem e_snap {w : DN} : dSnap w σ μ Q = w σ μ fun xs μ1 => Q (.d (.list xs)) μ1 := rfl
theorem e_loc {w : DN} : dLoc w σ μ Q = w σ μ fun xs μ1 => Q (.loc μ1.length) (μ1 ++ [.lst xs]) := rfl
theorem e_allD0 : allD [] = some [] := rfl
theorem e_allD1 {r : List SV} : allD (.d d :: r) = (allD r).map (d :: ·) := rfl
theorem e_cb {g : GC} {w : DA} : dCb g w σ μ Q = w σ μ fun xs μ1 => g xs μ1 Q := rfl
theorem e_call {wf : DFn} {w : DA} : dCall wf w σ μ Q = w σ μ fun xs μ1 => wf xs μ1 Q := rfl
theorem e_un {f : Int → Int} {w : DE} : dUn f w σ μ Q = w σ μ fun x μ1 => match x with
  | .d (.int i) => Q (.d (.int (f i))) μ1
  | _ => False := rfl
theorem e_rev {w : DE} : dRev w σ μ Q = w σ μ fun x μ1 => match view μ1 x with
  | some (true, xs) => Q (.d (.tuple xs.reverse)) μ1
  | some (false, xs) => Q (.d (.list xs.reverse)) μ1
  | none => False := rfl
-- ints
theorem g_addI : gAdd (.d (.int i)) (.d (.int j)) μ Q = Q (.d (.int (i + j))) μ := rfl
theorem g_addS : gAdd (.d (.str s)) (.d (.str t)) μ Q = (s.length + t.length ≤ sizeLine ∧ Q (.d (.str (s ++ t))) μ) := rfl
theorem g_addT : gAdd (.d (.tuple xs)) (.d (.tuple ys)) μ Q = (xs.length + ys.length ≤ sizeLine ∧ Q (.d (.tuple (xs ++ ys))) μ) := rfl
theorem g_addL : gAdd (.d (.list xs)) (.d (.list ys)) μ Q = (xs.length + ys.length ≤ sizeLine ∧ Q (.d (.list (xs ++ ys))) μ) := rfl
theorem g_sub : gMinus (.d (.int i)) (.d (.int j)) μ Q = Q (.d (.int (i - j))) μ := rfl
theorem g_mul : gMul (.d (.int i)) (.d (.int j)) μ Q = (MulOk i j ∧ Q (.d (.int (i * j))) μ) := rfl
theorem g_mulT : gMul (.d (.tuple xs)) (.d (.int j)) μ Q = ((-4611686018427387904 ≤ j ∧ j ≤ 1000 ∧ xs.length ≤ 1000) ∧ Q (.d (.tuple (List.replicate j.toNat xs).flatten)) μ) := rfl
theorem g_mulL : gMul (.d (.list xs)) (.d (.int j)) μ Q = ((-(2 ^ 63) ≤ j ∧ j < 2 ^ 63 ∧ xs.length * j.toNat ≤ sizeLine) ∧ Q (.d (.list (List.replicate j.toNat xs).flatten)) μ) := rfl
theorem g_div : gDiv (.d (.int i)) (.d (.int j)) μ Q = (DivOk j ∧ Q (.d (.int (i / j))) μ) := rfl
theorem g_mod : gMod (.d (.int i)) (.d (.int j)) μ Q = (0 < j ∧ Q (.d (.int (i % j))) μ) := rfl
theorem g_pow : gPow (.d (.int i)) (.d (.int j)) μ Q = (L2.CPow i j ∧ Q (.d (.int (i ^ j.toNat))) μ) := rfl
theorem g_shl : gShl (.d (.int i)) (.d (.int j)) μ Q = (L2.CPow i j ∧ Q (.d (.int (i * 2 ^ j.toNat))) μ) := rfl
theorem g_shr : gShr (.d (.int i)) (.d (.int j)) μ Q = (0 ≤ j ∧ Q (.d (.int (i / 2 ^ j.toNat))) μ) := rfl
theorem g_lt : gLt (.d (.int i)) (.d (.int j)) μ Q = Q (.d (.bool (decide (i < j)))) μ := rfl
theorem g_le : gLe (.d (.int i)) (.d (.int j)) μ Q = Q (.d (.bool (decide (i ≤ j)))) μ := rfl
theorem g_gt : gGt (.d (.int i)) (.d (.int j)) μ Q = Q (.d (.bool (decide (j < i)))) μ := rfl
theorem g_ge : gGe (.d (.int i)) (.d (.int j)) μ Q = Q (.d (.bool (decide (j ≤ i)))) μ := rfl
theorem g_eqI : gEq (.d (.int i)) (.d (.int j)) μ Q = Q (.d (.bool (decide (i = j)))) μ := rfl
theorem g_eqS : gEq (.d (.str s)) (.d (.str t)) μ Q = Q (.d (.bool (decide (s = t)))) μ := rfl
theorem g_eqB : gEq (.d (.bool p)) (.d (.bool q)) μ Q = Q (.d (.bool (decide (p = q)))) μ := rfl
theorem g_eqL : gEq (.d (.list xs)) (.d (.list ys)) μ Q = ((SeqAt.shaped (.list xs) = true ∧ SeqAt.shaped (.list ys) = true) ∧ Q (.d (.bool (PyData.eqv (.list xs) (.list ys)))) μ) := rfl
theorem g_eqT : gEq (.d (.tuple xs)) (.d (.tuple ys)) μ Q = ((SeqAt.shaped (.tuple xs) = true ∧ SeqAt.shaped (.tuple ys) = true) ∧ Q (.d (.bool (PyData.eqv (.tuple xs) (.tuple ys)))) μ) := rfl
theorem g_eqN : gEq (.d .none) (.d .none) μ Q = ((SeqAt.shaped .none = true ∧ SeqAt.shaped .none = true) ∧ Q (.d (.bool (PyData.eqv .none .none))) μ) := rfl
theorem g_neI : gNe (.d (.int i)) (.d (.int j)) μ Q = Q (.d (.bool (!decide (i = j)))) μ := rfl
theorem g_neS : gNe (.d (.str s)) (.d (.str t)) μ Q = Q (.d (.bool (!decide (s = t)))) μ := rfl
theorem g_neB : gNe (.d (.bool p)) (.d (.bool q)) μ Q = Q (.d (.bool (!decide (p = q)))) μ := rfl
theorem g_neL : gNe (.d (.list xs)) (.d (.list ys)) μ Q = ((SeqAt.shaped (.list xs) = true ∧ SeqAt.shaped (.list ys) = true) ∧ Q (.d (.bool (!PyData.eqv (.list xs) (.list ys)))) μ) := rfl
theorem g_neT : gNe (.d (.tuple xs)) (.d (.tuple ys)) μ Q = ((SeqAt.shaped (.tuple xs) = true ∧ SeqAt.shaped (.tuple ys) = true) ∧ Q (.d (.bool (!PyData.eqv (.tuple xs) (.tuple ys)))) μ) := rfl
theorem g_isN : gIs x (.d .none) μ Q = Q (.d (.bool (isNon x))) μ := by
  cases x with
  | d z => cases z <;> rfl
  | loc k => rfl
  | scr k => rfl
theorem g_isB : gIs (.d (.bool p)) (.d (.bool q)) μ Q = Q (.d (.bool (decide (p = q)))) μ := rfl
theorem g_isnotN : gIsNot x (.d .none) μ Q = Q (.d (.bool (!isNon x))) μ := by
  cases x with
  | d z => cases z <;> rfl
  | loc k => rfl
  | scr k => rfl
theorem g_isnotB : gIsNot (.d (.bool p)) (.d (.bool q)) μ Q = Q (.d (.bool (!decide (p = q)))) μ := rfl
theorem n_non : isNon (.d .none) = true := rfl
theorem n_int : isNon (.d (.int i)) = false := rfl
theorem n_bool : isNon (.d (.bool p)) = false := rfl
theorem n_str : isNon (.d (.str s)) = false := rfl
theorem n_tup : isNon (.d (.tuple xs)) = false := rfl
theorem n_lst : isNon (.d (.list xs)) = false := rfl
theorem g_ixT : gIx (.d (.tuple xs)) (.d (.int i)) μ Q = (match L2.atI xs i with
  | some d => Q (.d d) μ
  | none => False) := rfl
theorem g_ixL : gIx (.d (.list xs)) (.d (.int i)) μ Q = (match L2.atI xs i with
  | some d => Q (.d d) μ
  | none => False) := rfl
theorem g_ixC {k : Nat} (h : μ[k]? = some (.lst xs)) : gIx (.loc k) (.d (.int i)) μ Q = (match L2.atI xs i with
  | some d => Q (.d d) μ
  | none => False) := by
  show (match view μ (.loc k) with
    | some (_, xs) => (match L2.atI xs i with
      | some d => Q (.d d) μ
      | none => False)
    | none => False) = _
  have : view μ (.loc k) = some (false, xs) := by
    simp only [view]
    rw [h]
  rw [this]
theorem g_abs : gAbs [.d (.int i)] μ Q = Q (.d (.int (if i < 0 then -i else i))) μ := rfl
theorem g_min2 : gMin2 [.d (.int i), .d (.int j)] μ Q = Q (.d (.int (if j < i then j else i))) μ := rfl
theorem g_max2 : gMax2 [.d (.int i), .d (.int j)] μ Q = Q (.d (.int (if j > i then j else i))) μ := rfl
theorem g_int : gInt1 [.d (.int i)] μ Q = Q (.d (.int i)) μ := rfl
theorem g_intB : gInt1 [.d (.bool p)] μ Q = Q (.d (.int (if p then 1 else 0))) μ := rfl
theorem g_lenT : gLen [.d (.tuple xs)] μ Q = Q (.d (.int xs.length)) μ := rfl
theorem g_lenL : gLen [.d (.list xs)] μ Q = Q (.d (.int xs.length)) μ := rfl
theorem g_lenS : gLen [.d (.str s)] μ Q = (s.length ≤ sizeLine ∧ Q (.d (.int s.length)) μ) := rfl
theorem g_lenC {k : Nat} (h : μ[k]? = some (.lst xs)) : gLen [.loc k] μ Q = Q (.d (.int xs.length)) μ := by
  show (match μ[k]? with
    | some (.lst ys) => Q (.d (.int ys.length)) μ
    | some (.dk ys) => Q (.d (.int ys.length)) μ
    | some (.frz ys) => Q (.d (.int ys.length)) μ
    | _ => False) = _
  rw [h]
theorem g_tupL : gTuple [.d (.list xs)] μ Q = Q (.d (.tuple xs)) μ := rfl
theorem g_tupT : gTuple [.d (.tuple xs)] μ Q = Q (.d (.tuple xs)) μ := rfl
theorem g_tupC {k : Nat} (h : μ[k]? = some (.lst xs)) : gTuple [.loc k] μ Q = Q (.d (.tuple xs)) μ := by
  show (match view μ (.loc k) with
    | some (_, ys) => Q (.d (.tuple ys)) μ
    | none => False) = _
  have : view μ (.loc k) = some (false, xs) := by
    simp only [view]
    rw [h]
  rw [this]
theorem e_isi {T : Ty7} {w : DE} : dIsi T w σ μ Q = w σ μ fun x μ1 => match tyNm μ1 x with
  | some a => Q (.d (.bool (isSub a T))) μ1
  | none => False := rfl
theorem y_non : tyNm μ (.d .none) = some "NoneType" := rfl
theorem y_bool : tyNm μ (.d (.bool p)) = some "bool" := rfl
theorem y_int : tyNm μ (.d (.int i)) = some "int" := rfl
theorem y_str : tyNm μ (.d (.str s)) = some "str" := rfl
theorem y_lst : tyNm μ (.d (.list xs)) = some "list" := rfl
theorem y_tup : tyNm μ (.d (.tuple xs)) = some "tuple" := rfl
theorem v_tup : view μ (.d (.tuple xs)) = some (true, xs) := rfl
theorem v_lst : view μ (.d (.list xs)) = some (false, xs) := rfl
theorem v_loc {k : Nat} (h : μ[k]? = some (.lst xs)) : view μ (.loc k) = some (false, xs) := by
  simp only [view]
  rw [h]
theorem t_name {n : Nat} {P : Sl → Prop} : dgName n d σ P = P (σ.set n (some (.d d))) := rfl
theorem t_tup {n : Nat} {g : DGs} {P : Sl → Prop} : dgTup n g (.tuple xs) σ P = (xs.length = n ∧ g xs σ P) := rfl
theorem t_nil {P : Sl → Prop} : dgNil [] σ P = P σ := rfl
theorem t_cons {g : DG} {gs : DGs} {P : Sl → Prop} : dgCons g gs (d :: xs) σ P = g d σ fun σ1 => gs xs σ1 P := rfl
theorem r_d {keep : Bool} {n : Nat} : fnRet keep n Q (.d d) μ = Q (.d d) (μ.take n) := rfl
theorem atI_zero {α : Type} {x : α} {r : List α} : L2.atI (x :: r) 0 = some x := L2.atI_nat (j := 0) rfl
theorem atI_one {α : Type} {x y : α} {r : List α} : L2.atI (x :: y :: r) 1 = some y := L2.atI_nat (j := 1) rfl
theorem atI_two {α : Type} {x y z : α} {r : List α} : L2.atI (x :: y :: z :: r) 2 = some z := L2.atI_nat (j := 2) rfl
theorem take_set {k : Nat} {c : Cel} : (μ.set k c).take μ.length = μ.set k c := List.take_of_length_le (by simp)
theorem take_app {ν : Mu} : (μ ++ ν).take μ.length = μ := List.take_left
theorem get_set {k : Nat} {c c' : Cel} (h : μ[k]? = some c') : (μ.set k c)[k]? = some c := by
  rw [List.getElem?_set_self (List.getElem?_eq_some_iff.mp h).1]
theorem ixN_0 {n : Nat} : L2.ixN (n + 1) 0 = some 0 := by
  unfold L2.ixN
  rw [if_pos (by omega), if_pos (by omega)]
  rfl
theorem ixN_1 {n : Nat} : L2.ixN (n + 1 + 1) 1 = some 1 := by
  unfold L2.ixN
  rw [if_pos (by omega), if_pos (by omega)]
  rfl
end
theorem mulOk_left {i j : Int} (h : -(2 ^ 64) < i ∧ i < 2 ^ 64) : MulOk i j := .inl (.inl h)
theorem mulOk_right {i j : Int} (h : -(2 ^ 64) < j ∧ j < 2 ^ 64) : MulOk i j := .inl (.inr h)
theorem log2_small {m : Int} (h : m.natAbs ≤ 10 ^ 100) : m.natAbs.log2 < 400 := by
  by_cases h0 : m.natAbs = 0
  · rw [h0]
    decide
  · exact (Nat.log2_lt h0).mpr (Nat.lt_of_le_of_lt h (by decide +kernel))
theorem divOk_of {m : Int} (h : 0 < m) (h2 : m ≤ 10 ^ 100) : DivOk m := ⟨h, Nat.lt_trans (log2_small (by omega)) (by decide)⟩
theorem mulOk_of {i j : Int} (h : i.natAbs ≤ 10 ^ 100) (h2 : j.natAbs ≤ 10 ^ 100) : MulOk i j := .inr (show _ < _ by
  have a := log2_small h
  have b := log2_small h2
  omega)
end DL
/-! DLq: meanings evaluated by equations (for simp): every continuation has a name, so nothing is evaluated ahead of its time. -/
namespace DL
open PySem PySem.Spec PyProof.Rows L2
/-! ### continuations with names -/
def kOp2 (g : GO) (x : SV) (Q : KD) : KD := fun y μ => g x y μ Q
def kOp1 (g : GO) (wb : DE) (σ : Sl) (Q : KD) : KD := fun x μ => wb σ μ (kOp2 g x Q)
def kB (Q : Bool → Mu → Prop) : KD := fun x μ => match x with
  | .d (.bool b) => Q b μ
  | _ => False
def kCh3 (g' : GO) (wc : DE) (σ : Sl) (Q : KD) (y : SV) : KD := fun z μ => match z with
  | .d (.bool k) => if k = true then wc σ μ (kOp2 g' y Q) else Q (.d (.bool false)) μ
  | _ => False
def kCh2 (g g' : GO) (wc : DE) (σ : Sl) (Q : KD) (x : SV) : KD := fun y μ => g x y μ (kCh3 g' wc σ Q y)
def kCh1 (g g' : GO) (wb wc : DE) (σ : Sl) (Q : KD) : KD := fun x μ => wb σ μ (kCh2 g g' wc σ Q x)
def kAnd (u : DT) (σ : Sl) (Q : Bool → Mu → Prop) (c : Bool) (μ : Mu) : Prop := if c = true then u σ μ Q else Q false μ
def kOr (u : DT) (σ : Sl) (Q : Bool → Mu → Prop) (c : Bool) (μ : Mu) : Prop := if c = true then Q true μ else u σ μ Q
def kNot (Q : Bool → Mu → Prop) (c : Bool) (μ : Mu) : Prop := Q (!c) μ
def kAndV (wb : DE) (σ : Sl) (Q : KD) : Bool → Mu → Prop := fun c μ => if c = true then wb σ μ Q else Q (.d (.bool false)) μ
def kOrV (wb : DE) (σ : Sl) (Q : KD) : Bool → Mu → Prop := fun c μ => if c = true then Q (.d (.bool true)) μ else wb σ μ Q
def kNotV (Q : KD) : Bool → Mu → Prop := fun c μ => Q (.d (.bool (!c))) μ
def kIfE (wa wb : DE) (σ : Sl) (Q : KD) (c : Bool) (μ : Mu) : Prop := if c = true then wa σ μ Q else wb σ μ Q
def kCons2 (x : SV) (Q : List SV → Mu → Prop) : List SV → Mu → Prop := fun xs μ => Q (x :: xs) μ
def kCons (wr : DA) (σ : Sl) (Q : List SV → Mu → Prop) : KD := fun x μ => wr σ μ (kCons2 x Q)
def kTup1 (o : Option (List PyData)) (Q : KD) (μ : Mu) : Prop := match o with
  | some ds => ds.length ≤ sizeLine ∧ Q (.d (.tuple ds)) μ
  | none => False
def kTup (Q : KD) : List SV → Mu → Prop := fun xs μ => kTup1 (allD xs) Q μ
def kLst1 (o : Option (List PyData)) (Q : List PyData → Mu → Prop) (μ : Mu) : Prop := match o with
  | some ds => ds.length ≤ sizeLine ∧ Q ds μ
  | none => False
def kLst (Q : List PyData → Mu → Prop) : List SV → Mu → Prop := fun xs μ => kLst1 (allD xs) Q μ
def kSnap (Q : KD) : List PyData → Mu → Prop := fun xs μ => Q (.d (.list xs)) μ
def kLoc (Q : KD) : List PyData → Mu → Prop := fun xs μ => Q (.loc μ.length) (μ ++ [.lst xs])
def kCb (g : GC) (Q : KD) : List SV → Mu → Prop := fun xs μ => g xs μ Q
def kCall (wf : DFn) (Q : KD) : List SV → Mu → Prop := fun xs μ => wf xs μ Q
def kUn (f : Int → Int) (Q : KD) : KD := fun x μ => match x with
  | .d (.int i) => Q (.d (.int (f i))) μ
  | _ => False
def kRev1 (Q : KD) (μ : Mu) : Option (Bool × List PyData) → Prop
  | some (true, xs) => Q (.d (.tuple xs.reverse)) μ
  | some (false, xs) => Q (.d (.list xs.reverse)) μ
  | none => False
def kRev (Q : KD) : KD := fun x μ => kRev1 Q μ (view μ x)
def kSl3 (Q : KD) (μ : Mu) (lo hi : Option Int) : Option (Bool × List PyData) → Prop
  | some (true, xs) => Q (.d (.tuple (cutD xs lo hi))) μ
  | some (false, xs) => Q (.d (.list (cutD xs lo hi))) μ
  | none => False
def kSl2 (Q : KD) (x : SV) (lo : Option Int) : Option Int → Mu → Prop := fun hi μ => kSl3 Q μ lo hi (view μ x)
def kSl1 (wh : DO') (σ : Sl) (Q : KD) (x : SV) : Option Int → Mu → Prop := fun lo μ => wh σ μ (kSl2 Q x lo)
def kSl (wl wh : DO') (σ : Sl) (Q : KD) : KD := fun x μ => wl σ μ (kSl1 wh σ Q x)
def kPart (Q : Option Int → Mu → Prop) : KD := fun x μ => match x with
  | .d (.int i) => Q (some i) μ
  | _ => False
def kIsi1 (T : Ty7) (Q : KD) (μ : Mu) : Option String → Prop
  | some a => Q (.d (.bool (isSub a T))) μ
  | none => False
def kIsi (T : Ty7) (Q : KD) : KD := fun x μ => kIsi1 T Q μ (tyNm μ x)
def kCat3 (Q : List PyData → Mu → Prop) (μ : Mu) : Option (Bool × List PyData) → Option (Bool × List PyData) → Prop
  | some (false, xs), some (false, ys) => xs.length + ys.length ≤ sizeLine ∧ Q (xs ++ ys) μ
  | _, _ => False
def kCat2 (Q : List PyData → Mu → Prop) (x : SV) : KD := fun y μ => kCat3 Q μ (view μ x) (view μ y)
def kCat1 (wb : DE) (σ : Sl) (Q : List PyData → Mu → Prop) : KD := fun x μ => wb σ μ (kCat2 Q x)
def kRep3 (Q : List PyData → Mu → Prop) (μ : Mu) : Option (Bool × List PyData) → SV → Prop
  | some (false, xs), .d (.int j) => (-(2 ^ 63) ≤ j ∧ j < 2 ^ 63 ∧ xs.length * j.toNat ≤ sizeLine) ∧ Q (List.replicate j.toNat xs).flatten μ
  | _, _ => False
def kRep2 (Q : List PyData → Mu → Prop) (x : SV) : KD := fun y μ => kRep3 Q μ (view μ x) y
def kRep1 (wb : DE) (σ : Sl) (Q : List PyData → Mu → Prop) : KD := fun x μ => wb σ μ (kRep2 Q x)
def kLs1 (Q : List PyData → Mu → Prop) (μ : Mu) : Option (Bool × List PyData) → Prop
  | some (_, ys) => Q ys μ
  | none => False
def kLs (Q : List PyData → Mu → Prop) : List SV → Mu → Prop := fun xs μ => match xs with
  | [.scr ns] => Q (ns.map PyData.int) μ
  | [x] => kLs1 Q μ (view μ x)
  | _ => False
/-! comprehensions -/
def kCo2 (te : DE) (T : KD) (E : Mu → Prop) (σ1 : Sl) (b : Bool) (μ : Mu) : Prop := if b = true then te σ1 μ T else E μ
def kCo1 (tt : DT) (te : DE) (T : KD) (E : Mu → Prop) (μ : Mu) (σ1 : Sl) : Prop := tt σ1 μ (kCo2 te T E σ1)
def kCoT (g : DG) (tt : DT) (te : DE) (σ : Sl) (Q : List PyData → Mu → Prop) (r acc : List PyData) : KD := fun y μ => match y with
  | .d d => acc.length < sizeLine ∧ dComp g tt te σ Q r (acc ++ [d]) μ
  | _ => False
def kLc (g : DG) (tt : DT) (te : DE) (σ : Sl) (Q : List PyData → Mu → Prop) : List PyData → Mu → Prop := fun xs μ => dComp g tt te σ Q xs [] μ
/-! iterables -/
def kIt (Q : List PyData → Mu → Prop) : KD := fun x μ => match x with
  | .d (.list xs) => Q xs μ
  | .d (.tuple xs) => Q xs μ
  | .d (.str z) => Q (z.cps.toList.map fun c => .str ⟨#[c]⟩) μ
  | .loc k => (match μ[k]? with
    | some (.lst xs) => Q xs (μ.set k (.frz xs))
    | some (.frz xs) => Q xs μ
    | _ => False)
  | _ => False
def kR1 (Q : List PyData → Mu → Prop) : List SV → Mu → Prop := fun xs μ => match xs with
  | [.d (.int j)] => RngOk j ∧ Q (rngD 0 1 j.toNat) μ
  | _ => False
def kR2 (Q : List PyData → Mu → Prop) : List SV → Mu → Prop := fun xs μ => match xs with
  | [.d (.int i), .d (.int j)] => RngOk i ∧ RngOk j ∧ Q (rngD i 1 (j - i).toNat) μ
  | _ => False
def kR3 (Q : List PyData → Mu → Prop) : List SV → Mu → Prop := fun xs μ => match xs with
  | [.d (.int i), .d (.int j), .d (.int c)] => (∃ n, RgC i j c n) ∧ Q (rngD i c (Builtin.Range.rangeSize i j c).toNat) μ
  | _ => False
def kZip (Q : List PyData → Mu → Prop) : List SV → Mu → Prop := fun xs μ => match xs with
  | [x, y] => (match x, y with
    | .d (.list xs), .d (.list ys) => Q (zipD xs ys) μ
    | .d (.tuple xs), .d (.tuple ys) => Q (zipD xs ys) μ
    | _, _ => False)
  | _ => False
def kEnum (Q : List PyData → Mu → Prop) : List SV → Mu → Prop := fun xs μ => match xs with
  | [.d (.list xs)] => Q (enumD xs) μ
  | _ => False
/-! mutable lists -/
def kApp2 (Q : KD) (μ : Mu) : Option (Nat × List PyData) → List SV → Prop
  | some (k, xs), [.d y] => xs.length < sizeLine ∧ Q (.d .none) (μ.set k (.lst (xs ++ [y])))
  | _, _ => False
def kApp1 (Q : KD) (x : SV) : List SV → Mu → Prop := fun ys μ => kApp2 Q μ (lstAt μ x) ys
def kApp0 (wA : DA) (σ : Sl) (Q : KD) (x : SV) (μ : Mu) : Option (Nat × List PyData) → Prop
  | some _ => wA σ μ (kApp1 Q x)
  | none => False
def kApp (wA : DA) (σ : Sl) (Q : KD) : KD := fun x μ => kApp0 wA σ Q x μ (lstAt μ x)
def kPop2 (Q : KD) (μ : Mu) (k : Nat) (xs : List PyData) : Option PyData → Prop
  | some y => Q (.d y) (μ.set k (.lst xs.dropLast))
  | none => False
def kPop1 (Q : KD) (μ : Mu) : Option (Nat × List PyData) → Prop
  | some (k, xs) => kPop2 Q μ k xs xs[xs.length - 1]?
  | none => False
def kPop (Q : KD) : KD := fun x μ => kPop1 Q μ (lstAt μ x)
/-! statements -/
def kSet (i : Nat) (N : Sl → Mu → Prop) (σ : Sl) : KD := fun x μ => N (σ.set i (some x)) μ
def kDrop (N : Sl → Mu → Prop) (σ : Sl) : KD := fun _ μ => N σ μ
def kIf (A B : Sl → Mu → Prop) (σ : Sl) (c : Bool) (μ : Mu) : Prop := if c = true then A σ μ else B σ μ
def kPar (i j : Nat) (N : Sl → Mu → Prop) (σ : Sl) : List SV → Mu → Prop := fun xs μ => match xs with
  | [x, y] => N ((σ.set i (some x)).set j (some y)) μ
  | _ => False
def kPar3 (i j l : Nat) (N : Sl → Mu → Prop) (σ : Sl) : List SV → Mu → Prop := fun xs μ => match xs with
  | [x, y, z] => N (((σ.set i (some x)).set j (some y)).set l (some z)) μ
  | _ => False
def kTo (N : Sl → Mu → Prop) (μ : Mu) : Sl → Prop := fun σ => N σ μ
def kAsg (g : DG) (N : Sl → Mu → Prop) (σ : Sl) : KD := fun x μ => match x with
  | .d d => g d σ (kTo N μ)
  | _ => False
def kStC (N : Sl → Mu → Prop) (σ : Sl) (μ : Mu) (k : Nat) (xs : List PyData) (d : PyData) : Option Nat → Prop
  | some j => N σ (μ.set k (.lst (xs.set j d)))
  | none => False
def kStB (N : Sl → Mu → Prop) (σ : Sl) (v i : SV) (μ : Mu) : Option (Nat × List PyData) → Prop := fun o => match v, i, o with
  | .d d, .d (.int i), some (k, xs) => kStC N σ μ k xs d (ixN xs.length i)
  | _, _, _ => False
def kSt3 (N : Sl → Mu → Prop) (σ : Sl) (v x : SV) : KD := fun i μ => kStB N σ v i μ (lstAt μ x)
def kSt2 (wi : DE) (N : Sl → Mu → Prop) (σ : Sl) (v : SV) : KD := fun x μ => wi σ μ (kSt3 N σ v x)
def kSt1 (wo wi : DE) (N : Sl → Mu → Prop) (σ : Sl) : KD := fun v μ => wo σ μ (kSt2 wi N σ v)
def kFor (g : DG) (b : DS) (D : DEnds) (σ : Sl) : List PyData → Mu → Prop := fun xs μ => dLoop g b D xs σ μ
def kCons1 (gs : DGs) (r : List PyData) (Q : Sl → Prop) : Sl → Prop := fun σ => gs r σ Q
def kIx1 (Q : KD) (μ : Mu) : Option PyData → Prop
  | some d => Q (.d d) μ
  | none => False
def kIx (i : Int) (Q : KD) (μ : Mu) : Option (Bool × List PyData) → Prop
  | some (_, xs) => kIx1 Q μ (atI xs i)
  | none => False
def viewAt : Option Cel → Option (Bool × List PyData)
  | some (.lst xs) => some (false, xs)
  | some (.frz xs) => some (false, xs)
  | _ => none
def lstOf (k : Nat) : Option Cel → Option (Nat × List PyData)
  | some (.lst xs) => some (k, xs)
  | _ => none
def kLen (Q : KD) (μ : Mu) : Option Cel → Prop
  | some (.lst ys) => Q (.d (.int ys.length)) μ
  | some (.dk ys) => Q (.d (.int ys.length)) μ
  | some (.frz ys) => Q (.d (.int ys.length)) μ
  | _ => False
def kTpl (Q : KD) (μ : Mu) : Option (Bool × List PyData) → Prop
  | some (_, ys) => Q (.d (.tuple ys)) μ
  | none => False
def kAll1 (Q : KD) (μ : Mu) : Option (List Bool) → Prop
  | some bs => Q (.d (.bool (bs.all id))) μ
  | none => False
def kAny1 (Q : KD) (μ : Mu) : Option (List Bool) → Prop
  | some bs => Q (.d (.bool (bs.any id))) μ
  | none => False
def kSum1 (Q : KD) (μ : Mu) : Option (List Int) → Prop
  | some ns => Q (.d (.int ns.sum)) μ
  | none => False
def kRt (n : Nat) (Q : KD) (μ : Mu) (c : Option Cel) (keep : Bool) : Prop := match c with
  | some (.lst xs) => if keep = true then Q (.loc n) (μ.take n ++ [.lst xs]) else Q (.d (.list xs)) (μ.take n)
  | some (.frz xs) => if keep = true then Q (.loc n) (μ.take n ++ [.frz xs]) else Q (.d (.list xs)) (μ.take n)
  | some c => Q (.loc n) (μ.take n ++ [c])
  | none => False
section
variable {i j : Int} {x y z : SV} {d e : PyData} {s t : Str} {p q : Bool} {xs ys ds : List PyData} {μ ν : Mu} {Q : KD} {QB : Bool → Mu → Prop} {QA : List SV → Mu → Prop} {QN : List PyData → Mu → Prop} {QO : Option Int → Mu → Prop} {σ : Sl} {g g' : GO} {wa wb wc w wo wi wv : DE} {wA wr : DA} {wt wu : DT} {T : Ty7} {wl wh : DO'} {N : Sl → Mu → Prop} {D : DEnds} {sa sb : DS} {k l m n : Nat} {tg : DG} {tgs : DGs} {P : Sl → Prop} {c : Cel} {keep : Bool} {f : Int → Int} {E : Mu → Prop} {it : DIt} {wN : DN}
theorem q_op : dOp g wa wb σ μ Q = wa σ μ (kOp1 g wb σ Q) := rfl
theorem k_op1 : kOp1 g wb σ Q x μ = wb σ μ (kOp2 g x Q) := rfl
theorem k_op2 : kOp2 g x Q y μ = g x y μ Q := rfl
theorem q_B : dB w σ μ QB = w σ μ (kB QB) := rfl
theorem k_B : kB QB (.d (.bool p)) μ = QB p μ := rfl
theorem q_chain : dChain g g' wa wb wc σ μ Q = wa σ μ (kCh1 g g' wb wc σ Q) := rfl
theorem k_ch1 : kCh1 g g' wb wc σ Q x μ = wb σ μ (kCh2 g g' wc σ Q x) := rfl
theorem k_ch2 : kCh2 g g' wc σ Q x y μ = g x y μ (kCh3 g' wc σ Q y) := rfl
theorem k_ch3t : kCh3 g' wc σ Q y (.d (.bool true)) μ = wc σ μ (kOp2 g' y Q) := by
  unfold kCh3
  exact if_pos rfl
theorem k_ch3f : kCh3 g' wc σ Q y (.d (.bool false)) μ = Q (.d (.bool false)) μ := by
  unfold kCh3
  exact if_neg Bool.false_ne_true
theorem k_ch3_skip {o : Option SV} {r : Sl} : kCh3 g' (dVar (n + 1)) (o :: r) Q y (.d (.bool p)) μ = kCh3 g' (dVar n) r Q y (.d (.bool p)) μ := by
  cases p
  · rfl
  · rw [k_ch3t, k_ch3t, e_varS]
theorem k_ch3_le {a : Prop} [Decidable a] : kCh3 gLe (dC (.int j)) σ Q (.d (.int i)) (.d (.bool (decide a))) μ = Q (.d (.bool (decide (a ∧ i ≤ j)))) μ := by
  by_cases h : a
  · rw [decide_eq_true h, k_ch3t, e_C, k_op2, g_le]
    simp [h]
  · rw [decide_eq_false h, k_ch3f]
    simp [h]
theorem k_ch3_lt {a : Prop} [Decidable a] : kCh3 gLt (dC (.int j)) σ Q (.d (.int i)) (.d (.bool (decide a))) μ = Q (.d (.bool (decide (a ∧ i < j)))) μ := by
  by_cases h : a
  · rw [decide_eq_true h, k_ch3t, e_C, k_op2, g_lt]
    simp [h]
  · rw [decide_eq_false h, k_ch3f]
    simp [h]
theorem k_ch3_vle {a : Prop} [Decidable a] {r : Sl} : kCh3 gLe (dVar 0) (some (.d (.int j)) :: r) Q (.d (.int i)) (.d (.bool (decide a))) μ = Q (.d (.bool (decide (a ∧ i ≤ j)))) μ := k_ch3_le (σ := r)
theorem k_ch3_vlt {a : Prop} [Decidable a] {r : Sl} : kCh3 gLt (dVar 0) (some (.d (.int j)) :: r) Q (.d (.int i)) (.d (.bool (decide a))) μ = Q (.d (.bool (decide (a ∧ i < j)))) μ := k_ch3_lt (σ := r)
theorem q_and : dAnd wt wu σ μ QB = wt σ μ (kAnd wu σ QB) := rfl
theorem k_andt : kAnd wu σ QB true μ = wu σ μ QB := if_pos rfl
theorem k_andf : kAnd wu σ QB false μ = QB false μ := if_neg Bool.false_ne_true
theorem q_or : dOr wt wu σ μ QB = wt σ μ (kOr wu σ QB) := rfl
theorem k_ort : kOr wu σ QB true μ = QB true μ := if_pos rfl
theorem k_orf : kOr wu σ QB false μ = wu σ μ QB := if_neg Bool.false_ne_true
theorem q_not : dNot wt σ μ QB = wt σ μ (kNot QB) := rfl
theorem k_not : kNot QB p μ = QB (!p) μ := rfl
theorem fun_m {wa : DE} {Q Q' : KD} (h : Q = Q') : wa σ μ Q = wa σ μ Q' := by rw [h]
theorem q_andV : dAndV wa wb σ μ Q = wa σ μ (kB (kAndV wb σ Q)) := rfl
theorem k_andVt : kAndV wb σ Q true μ = wb σ μ Q := if_pos rfl
theorem k_andVf : kAndV wb σ Q false μ = Q (.d (.bool false)) μ := if_neg Bool.false_ne_true
theorem q_orV : dOrV wa wb σ μ Q = wa σ μ (kB (kOrV wb σ Q)) := rfl
theorem k_orVt : kOrV wb σ Q true μ = Q (.d (.bool true)) μ := if_pos rfl
theorem k_orVf : kOrV wb σ Q false μ = wb σ μ Q := if_neg Bool.false_ne_true
theorem q_notV : dNotV wa σ μ Q = wa σ μ (kB (kNotV Q)) := rfl
theorem k_notV : kNotV Q p μ = Q (.d (.bool (!p))) μ := rfl
theorem q_ifE : dIf wt wa wb σ μ Q = wt σ μ (kIfE wa wb σ Q) := rfl
theorem k_ifEt : kIfE wa wb σ Q true μ = wa σ μ Q := if_pos rfl
theorem k_ifEf : kIfE wa wb σ Q false μ = wb σ μ Q := if_neg Bool.false_ne_true
theorem q_cons : dCons wa wr σ μ QA = wa σ μ (kCons wr σ QA) := rfl
theorem k_cons : kCons wr σ QA x μ = wr σ μ (kCons2 x QA) := rfl
theorem k_cons2 {vs : List SV} : kCons2 x QA vs μ = QA (x :: vs) μ := rfl
theorem q_tup : dTup wA σ μ Q = wA σ μ (kTup Q) := rfl
theorem k_tup {vs : List SV} : kTup Q vs μ = kTup1 (allD vs) Q μ := rfl
theorem k_tup1 : kTup1 (some ds) Q μ = (ds.length ≤ sizeLine ∧ Q (.d (.tuple ds)) μ) := rfl
theorem q_lst : dLst wA σ μ QN = wA σ μ (kLst QN) := rfl
theorem k_lst {vs : List SV} : kLst QN vs μ = kLst1 (allD vs) QN μ := rfl
theorem k_lst1 : kLst1 (some ds) QN μ = (ds.length ≤ sizeLine ∧ QN ds μ) := rfl
theorem e_map {h : PyData → PyData} : Option.map f (some i) = some (f i) := rfl
theorem q_snap : dSnap wN σ μ Q = wN σ μ (kSnap Q) := rfl
theorem k_snap : kSnap Q xs μ = Q (.d (.list xs)) μ := rfl
theorem q_loc : dLoc wN σ μ Q = wN σ μ (kLoc Q) := rfl
theorem k_loc : kLoc Q xs μ = Q (.loc μ.length) (μ ++ [.lst xs]) := rfl
theorem q_cb {g : GC} : dCb g wA σ μ Q = wA σ μ (kCb g Q) := rfl
theorem k_cb {g : GC} {vs : List SV} : kCb g Q vs μ = g vs μ Q := rfl
theorem q_call {wf : DFn} : dCall wf wA σ μ Q = wA σ μ (kCall wf Q) := rfl
theorem k_call {wf : DFn} {vs : List SV} : kCall wf Q vs μ = wf vs μ Q := rfl
theorem q_un : dUn f w σ μ Q = w σ μ (kUn f Q) := rfl
theorem k_un : kUn f Q (.d (.int i)) μ = Q (.d (.int (f i))) μ := rfl
theorem q_rev : dRev w σ μ Q = w σ μ (kRev Q) := rfl
theorem k_rev : kRev Q x μ = kRev1 Q μ (view μ x) := rfl
theorem k_rev1t : kRev1 Q μ (some (true, xs)) = Q (.d (.tuple xs.reverse)) μ := rfl
theorem k_rev1f : kRev1 Q μ (some (false, xs)) = Q (.d (.list xs.reverse)) μ := rfl
theorem q_slice : dSlice w wl wh σ μ Q = w σ μ (kSl wl wh σ Q) := rfl
theorem k_sl : kSl wl wh σ Q x μ = wl σ μ (kSl1 wh σ Q x) := rfl
theorem k_sl1 {o : Option Int} : kSl1 wh σ Q x o μ = wh σ μ (kSl2 Q x o) := rfl
theorem k_sl2 {o o' : Option Int} : kSl2 Q x o o' μ = kSl3 Q μ o o' (view μ x) := rfl
theorem k_sl3t {o o' : Option Int} : kSl3 Q μ o o' (some (true, xs)) = Q (.d (.tuple (cutD xs o o'))) μ := rfl
theorem k_sl3f {o o' : Option Int} : kSl3 Q μ o o' (some (false, xs)) = Q (.d (.list (cutD xs o o'))) μ := rfl
theorem q_noPart : dNoPart σ μ QO = QO none μ := rfl
theorem q_part : dPart w σ μ QO = w σ μ (kPart QO) := rfl
theorem k_part : kPart QO (.d (.int i)) μ = QO (some i) μ := rfl
theorem q_isi : dIsi T w σ μ Q = w σ μ (kIsi T Q) := rfl
theorem k_isi : kIsi T Q x μ = kIsi1 T Q μ (tyNm μ x) := rfl
theorem k_isi1 {a : String} : kIsi1 T Q μ (some a) = Q (.d (.bool (isSub a T))) μ := rfl
theorem q_cat : dnCat wa wb σ μ QN = wa σ μ (kCat1 wb σ QN) := rfl
theorem k_cat1 : kCat1 wb σ QN x μ = wb σ μ (kCat2 QN x) := rfl
theorem k_cat2 : kCat2 QN x y μ = kCat3 QN μ (view μ x) (view μ y) := rfl
theorem k_cat3 : kCat3 QN μ (some (false, xs)) (some (false, ys)) = (xs.length + ys.length ≤ sizeLine ∧ QN (xs ++ ys) μ) := rfl
theorem q_rep : dnRep wa wb σ μ QN = wa σ μ (kRep1 wb σ QN) := rfl
theorem k_rep1 : kRep1 wb σ QN x μ = wb σ μ (kRep2 QN x) := rfl
theorem k_rep2 : kRep2 QN x y μ = kRep3 QN μ (view μ x) y := rfl
theorem k_rep3 : kRep3 QN μ (some (false, xs)) (.d (.int j)) = ((-(2 ^ 63) ≤ j ∧ j < 2 ^ 63 ∧ xs.length * j.toNat ≤ sizeLine) ∧ QN (List.replicate j.toNat xs).flatten μ) := rfl
theorem q_list : dnList wA σ μ QN = wA σ μ (kLs QN) := rfl
theorem k_lsS {ns : List Int} : kLs QN [.scr ns] μ = QN (ns.map PyData.int) μ := rfl
theorem k_lsT : kLs QN [.d (.tuple xs)] μ = QN xs μ := rfl
theorem k_lsL : kLs QN [.d (.list xs)] μ = QN xs μ := rfl
theorem k_lsC : kLs QN [.loc k] μ = kLs1 QN μ (view μ (.loc k)) := rfl
theorem k_ls1 {b : Bool} : kLs1 QN μ (some (b, xs)) = QN xs μ := rfl
-- comprehensions
theorem q_lc {vs : List Nat} : dLc it tg wt w vs σ μ QN = it σ μ (kLc tg wt w (wipeD σ vs) QN) := rfl
theorem k_lc : kLc tg wt w σ QN xs μ = dComp tg wt w σ QN xs [] μ := rfl
theorem k_co1 : kCo1 wt w Q E μ σ = wt σ μ (kCo2 w Q E σ) := rfl
theorem k_co2t : kCo2 w Q E σ true μ = w σ μ Q := if_pos rfl
theorem k_co2f : kCo2 w Q E σ false μ = E μ := if_neg Bool.false_ne_true
theorem q_yes : dYes σ μ QB = QB true μ := rfl
theorem q_wipe0 : wipeD σ [] = σ := rfl
theorem q_wipe1 {v : Nat} {vs : List Nat} : wipeD σ (v :: vs) = (wipeD σ vs).set v none := rfl
-- iterables
theorem q_it : dIt w σ μ QN = w σ μ (kIt QN) := rfl
theorem k_itL : kIt QN (.d (.list xs)) μ = QN xs μ := rfl
theorem k_itT : kIt QN (.d (.tuple xs)) μ = QN xs μ := rfl
def kItC (QN : List PyData → Mu → Prop) (k : Nat) (μ : Mu) : Option Cel → Prop
  | some (.lst xs) => QN xs (μ.set k (.frz xs))
  | some (.frz xs) => QN xs μ
  | _ => False
theorem k_itC : kIt QN (.loc k) μ = kItC QN k μ μ[k]? := rfl
theorem k_itC1 : kItC QN k μ (some (.lst xs)) = QN xs (μ.set k (.frz xs)) := rfl
theorem k_itC2 : kItC QN k μ (some (.frz xs)) = QN xs μ := rfl
theorem q_r1 : dRng1 wA σ μ QN = wA σ μ (kR1 QN) := rfl
theorem k_r1 : kR1 QN [.d (.int j)] μ = (RngOk j ∧ QN (rngD 0 1 j.toNat) μ) := rfl
theorem q_r2 : dRng2 wA σ μ QN = wA σ μ (kR2 QN) := rfl
theorem k_r2 : kR2 QN [.d (.int i), .d (.int j)] μ = (RngOk i ∧ RngOk j ∧ QN (rngD i 1 (j - i).toNat) μ) := rfl
theorem q_r3 : dRng3 wA σ μ QN = wA σ μ (kR3 QN) := rfl
theorem k_r3 {h : Int} : kR3 QN [.d (.int i), .d (.int j), .d (.int h)] μ = ((∃ n, RgC i j h n) ∧ QN (rngD i h (Builtin.Range.rangeSize i j h).toNat) μ) := rfl
theorem q_zip : dZip wA σ μ QN = wA σ μ (kZip QN) := rfl
theorem k_zipL : kZip QN [.d (.list xs), .d (.list ys)] μ = QN (zipD xs ys) μ := rfl
theorem k_zipT : kZip QN [.d (.tuple xs), .d (.tuple ys)] μ = QN (zipD xs ys) μ := rfl
theorem q_enum : dEnum wA σ μ QN = wA σ μ (kEnum QN) := rfl
theorem k_enum : kEnum QN [.d (.list xs)] μ = QN (enumD xs) μ := rfl
-- lists
theorem q_app : dAppend wo wA σ μ Q = wo σ μ (kApp wA σ Q) := by
  show (wo σ μ fun x μ1 => match lstAt μ1 x with
    | some _ => _
    | none => False) = wo σ μ (kApp wA σ Q)
  congr 1
  funext x μ1
  show _ = kApp0 wA σ Q x μ1 (lstAt μ1 x)
  cases h : lstAt μ1 x with
  | none => rfl
  | some o =>
    show wA σ μ1 _ = wA σ μ1 _
    congr 1
    funext ys μ2
    show _ = kApp2 Q μ2 (lstAt μ2 x) ys
    cases ys with
    | nil => cases lstAt μ2 x <;> rfl
    | cons a r =>
      cases r with
      | nil =>
        cases a with
        | d z => cases lstAt μ2 x <;> rfl
        | loc k => cases lstAt μ2 x <;> rfl
        | scr k => cases lstAt μ2 x <;> rfl
      | cons b r => cases lstAt μ2 x <;> cases a <;> rfl
theorem k_app : kApp wA σ Q x μ = kApp0 wA σ Q x μ (lstAt μ x) := rfl
theorem k_app0 {o : Nat × List PyData} : kApp0 wA σ Q x μ (some o) = wA σ μ (kApp1 Q x) := rfl
theorem k_app1 {vs : List SV} : kApp1 Q x vs μ = kApp2 Q μ (lstAt μ x) vs := rfl
theorem k_app2 : kApp2 Q μ (some (k, xs)) [.d d] = (xs.length < sizeLine ∧ Q (.d .none) (μ.set k (.lst (xs ++ [d])))) := rfl
theorem q_pop : dPop wo σ μ Q = wo σ μ (kPop Q) := rfl
theorem k_pop : kPop Q x μ = kPop1 Q μ (lstAt μ x) := rfl
theorem k_pop1 : kPop1 Q μ (some (k, xs)) = kPop2 Q μ k xs xs[xs.length - 1]? := rfl
theorem k_pop2 : kPop2 Q μ k xs (some d) = Q (.d d) (μ.set k (.lst xs.dropLast)) := rfl
-- statements
theorem s_seq : dSeq sa sb D σ μ = sa { D with nx := sb D } σ μ := rfl
theorem s_next : dNext D σ μ = D.nx σ μ := rfl
theorem s_break : dBreak D σ μ = D.bk σ μ := rfl
theorem s_cont : dCont D σ μ = D.ct σ μ := rfl
theorem s_set : dSet w k D σ μ = w σ μ (kSet k D.nx σ) := rfl
theorem k_set : kSet k N σ x μ = N (σ.set k (some x)) μ := rfl
theorem s_ret : dRet w D σ μ = w σ μ D.rt := rfl
theorem s_retN : dRetN D σ μ = D.rt (.d .none) μ := rfl
theorem s_drop : dDrop w D σ μ = w σ μ (kDrop D.nx σ) := rfl
theorem k_drop : kDrop N σ x μ = N σ μ := rfl
theorem s_if : dIfS wt sa sb D σ μ = wt σ μ (kIf (sa D) (sb D) σ) := rfl
theorem k_ift {A B : Sl → Mu → Prop} : kIf A B σ true μ = A σ μ := if_pos rfl
theorem k_iff {A B : Sl → Mu → Prop} : kIf A B σ false μ = B σ μ := if_neg Bool.false_ne_true
theorem s_par : dPar k l wA D σ μ = wA σ μ (kPar k l D.nx σ) := rfl
theorem k_par : kPar k l N σ [x, y] μ = N ((σ.set k (some x)).set l (some y)) μ := rfl
theorem s_par3 : dPar3 k l m wA D σ μ = wA σ μ (kPar3 k l m D.nx σ) := rfl
theorem k_par3 : kPar3 k l m N σ [x, y, z] μ = N (((σ.set k (some x)).set l (some y)).set m (some z)) μ := rfl
theorem s_asg : dAsg w tg D σ μ = w σ μ (kAsg tg D.nx σ) := rfl
theorem k_asg : kAsg tg N σ (.d d) μ = tg d σ (kTo N μ) := rfl
theorem k_to : kTo N μ σ = N σ μ := rfl
theorem s_store : dStore wv wo wi D σ μ = wv σ μ (kSt1 wo wi D.nx σ) := by
  show (wv σ μ fun v μ1 => wo σ μ1 fun x μ2 => wi σ μ2 fun i μ3 => match v, i, lstAt μ3 x with
  | .d d, .d (.int i), some (k, xs) => (match ixN xs.length i with
    | some j => D.nx σ (μ3.set k (.lst (xs.set j d)))
    | none => False)
  | _, _, _ => False) = wv σ μ fun v μ1 => wo σ μ1 fun x μ2 => wi σ μ2 fun i μ3 => kStB D.nx σ v i μ3 (lstAt μ3 x)
  rfl
theorem k_st1 : kSt1 wo wi N σ x μ = wo σ μ (kSt2 wi N σ x) := rfl
theorem k_st2 : kSt2 wi N σ x y μ = wi σ μ (kSt3 N σ x y) := rfl
theorem k_st3 : kSt3 N σ x y z μ = kStB N σ x z μ (lstAt μ y) := rfl
theorem k_stB : kStB N σ (.d d) (.d (.int i)) μ (some (k, xs)) = kStC N σ μ k xs d (ixN xs.length i) := rfl
theorem k_stC : kStC N σ μ k xs d (some l) = N σ (μ.set k (.lst (xs.set l d))) := rfl
theorem s_for : dFor it tg sa D σ μ = it σ μ (kFor tg sa D σ) := rfl
theorem k_for : kFor tg sa D σ xs μ = dLoop tg sa D xs σ μ := rfl
theorem l_nil : dLoop tg sa D [] σ μ = D.nx σ μ := rfl
theorem l_cons : dLoop tg sa D (d :: xs) σ μ = tg d σ (kTo (sa { D with nx := dLoop tg sa D xs, ct := dLoop tg sa D xs, bk := D.nx }) μ) := rfl
theorem t_cons' : dgCons tg tgs (d :: xs) σ P = tg d σ (kCons1 tgs xs P) := rfl
theorem k_cons1 : kCons1 tgs xs P σ = tgs xs σ P := rfl
-- functions
theorem f_rt : (fnEnds keep n Q).rt = fnRet keep n Q := rfl
theorem f_nx : (fnEnds keep n Q).nx σ μ = Q (.d .none) (μ.take n) := rfl
theorem f_fn {wb : DS} {vs : List SV} : fnW keep m l wb vs μ Q = (vs.length = l ∧ wb (fnEnds keep μ.length Q) (vs.map some ++ List.replicate (m - vs.length) none) μ) := rfl
theorem r_loc : fnRet keep n Q (.loc k) μ = if k < n then Q (.loc k) (μ.take n) else kRt n Q μ μ[k]? keep := by
  unfold fnRet kRt
  split
  · rename_i j e
    cases e
    split <;> rfl
  · rename_i h
    exact absurd rfl (h k)
theorem r_keep : kRt n Q μ (some (.lst xs)) true = Q (.loc n) (μ.take n ++ [.lst xs]) := by
  unfold kRt
  exact if_pos rfl
theorem r_freeF : kRt n Q μ (some (.frz xs)) false = Q (.d (.list xs)) (μ.take n) := by
  unfold kRt
  exact if_neg Bool.false_ne_true
theorem r_free : kRt n Q μ (some (.lst xs)) false = Q (.d (.list xs)) (μ.take n) := by
  unfold kRt
  exact if_neg Bool.false_ne_true
-- cells
theorem v_at : view μ (.loc k) = viewAt μ[k]? := by
  simp only [view, viewAt]
  all_goals
    cases h : μ[k]? with
    | none => rfl
    | some c => cases c <;> rfl
theorem v_at1 : viewAt (some (.lst xs)) = some (false, xs) := rfl
theorem v_at2 : viewAt (some (.frz xs)) = some (false, xs) := rfl
theorem l_at : lstAt μ (.loc k) = lstOf k μ[k]? := by
  simp only [lstAt, lstOf]
  all_goals
    cases h : μ[k]? with
    | none => rfl
    | some c => cases c <;> rfl
theorem l_at1 : lstOf k (some (.lst xs)) = some (k, xs) := rfl
theorem g_ixV {x : SV} (h : ∀ z, x ≠ .d (.str z)) : gIx x (.d (.int i)) μ Q = kIx i Q μ (view μ x) := by
  cases x with
  | d z => cases z <;> first | rfl | exact absurd rfl (h _)
  | loc k => rfl
  | scr k => rfl
theorem q_ixT : gIx (.d (.tuple xs)) (.d (.int i)) μ Q = kIx1 Q μ (atI xs i) := rfl
theorem q_ixL : gIx (.d (.list xs)) (.d (.int i)) μ Q = kIx1 Q μ (atI xs i) := rfl
theorem q_ixC : gIx (.loc k) (.d (.int i)) μ Q = kIx i Q μ (view μ (.loc k)) := rfl
theorem k_ix {b : Bool} : kIx i Q μ (some (b, xs)) = kIx1 Q μ (atI xs i) := rfl
theorem k_ix1 : kIx1 Q μ (some d) = Q (.d d) μ := rfl
theorem q_lenC : gLen [.loc k] μ Q = kLen Q μ μ[k]? := rfl
theorem k_lenL : kLen Q μ (some (.lst xs)) = Q (.d (.int xs.length)) μ := rfl
theorem k_lenF : kLen Q μ (some (.frz xs)) = Q (.d (.int xs.length)) μ := rfl
theorem q_tupC : gTuple [.loc k] μ Q = kTpl Q μ (view μ (.loc k)) := rfl
theorem k_tplF {b : Bool} : kTpl Q μ (some (b, xs)) = Q (.d (.tuple xs)) μ := rfl
theorem q_all : gAll [.d (.list xs)] μ Q = kAll1 Q μ (bools xs) := rfl
theorem k_all : kAll1 Q μ (some bs) = Q (.d (.bool (bs.all id))) μ := rfl
theorem q_any : gAny [.d (.list xs)] μ Q = kAny1 Q μ (bools xs) := rfl
theorem k_any : kAny1 Q μ (some bs) = Q (.d (.bool (bs.any id))) μ := rfl
theorem q_sum : gSum [.d (.list xs)] μ Q = kSum1 Q μ (intsOf xs) := rfl
theorem k_sum {ns : List Int} : kSum1 Q μ (some ns) = Q (.d (.int ns.sum)) μ := rfl
theorem ints_map {α : Type} {f : α → Int} : ∀ {l : List α}, intsOf (l.map fun a => .int (f a)) = some (l.map f)
  | [] => rfl
  | a :: r => by
    show (intsOf (r.map fun a => .int (f a))).map (f a :: ·) = _
    rw [ints_map]
    rfl
theorem o_map {α β : Type} {h : α → β} {a : α} : Option.map h (some a) = some (h a) := rfl
-- the store, as c :: (ν ++ own cells)
theorem m_off : (ν ++ μ)[ν.length + k]? = μ[k]? := by
  rw [List.getElem?_append_right (by omega)]
  congr 1
  omega
theorem m_off0 : (ν ++ μ)[ν.length]? = μ[0]? := m_off (k := 0)
theorem m_set : (ν ++ μ).set (ν.length + k) c = ν ++ μ.set k c := by
  have h := List.set_append_right (s := ν) (t := μ) (ν.length + k) c (by omega)
  rw [Nat.add_sub_cancel_left] at h
  exact h
theorem m_set0 : (ν ++ μ).set ν.length c = ν ++ μ.set 0 c := m_set (k := 0)
theorem m_take : (ν ++ μ).take ν.length = ν := List.take_left
theorem m_takeS {r : Mu} : (c :: r).take (k + 1) = c :: r.take k := rfl
theorem m_all : μ.take μ.length = μ := List.take_length
-- cases
theorem c_if {A B : Sl → Mu → Prop} {a : Prop} [Decidable a] (ht : a → A σ μ) (hf : ¬a → B σ μ) : kIf A B σ (decide a) μ := by
  by_cases h : a
  · rw [decide_eq_true h]; exact ht h
  · rw [decide_eq_false h]; exact hf h
theorem c_ifE {a : Prop} [Decidable a] (ht : a → wa σ μ Q) (hf : ¬a → wb σ μ Q) : kIfE wa wb σ Q (decide a) μ := by
  by_cases h : a
  · rw [decide_eq_true h]; exact ht h
  · rw [decide_eq_false h]; exact hf h
theorem c_and {a : Prop} [Decidable a] (ht : a → wu σ μ QB) (hf : ¬a → QB false μ) : kAnd wu σ QB (decide a) μ := by
  by_cases h : a
  · rw [decide_eq_true h]; exact ht h
  · rw [decide_eq_false h]; exact hf h
theorem c_or {a : Prop} [Decidable a] (ht : a → QB true μ) (hf : ¬a → wu σ μ QB) : kOr wu σ QB (decide a) μ := by
  by_cases h : a
  · rw [decide_eq_true h]; exact ht h
  · rw [decide_eq_false h]; exact hf h
theorem c_andV {a : Prop} [Decidable a] (ht : a → wb σ μ Q) (hf : ¬a → Q (.d (.bool false)) μ) : kAndV wb σ Q (decide a) μ := by
  by_cases h : a
  · rw [decide_eq_true h]; exact ht h
  · rw [decide_eq_false h]; exact hf h
theorem c_orV {a : Prop} [Decidable a] (ht : a → Q (.d (.bool true)) μ) (hf : ¬a → wb σ μ Q) : kOrV wb σ Q (decide a) μ := by
  by_cases h : a
  · rw [decide_eq_true h]; exact ht h
  · rw [decide_eq_false h]; exact hf h
theorem c_ch {a : Prop} [Decidable a] (ht : a → wc σ μ (kOp2 g' y Q)) (hf : ¬a → Q (.d (.bool false)) μ) : kCh3 g' wc σ Q y (.d (.bool (decide a))) μ := by
  by_cases h : a
  · rw [decide_eq_true h, k_ch3t]; exact ht h
  · rw [decide_eq_false h, k_ch3f]; exact hf h
theorem c_co {a : Prop} [Decidable a] (ht : a → w σ μ Q) (hf : ¬a → E μ) : kCo2 w Q E σ (decide a) μ := by
  by_cases h : a
  · rw [decide_eq_true h]; exact ht h
  · rw [decide_eq_false h]; exact hf h
theorem c_dec (K : Bool → Mu → Prop) {a : Prop} [Decidable a] (ht : a → K true μ) (hf : ¬a → K false μ) : K (decide a) μ := by
  by_cases h : a
  · rw [decide_eq_true h]; exact ht h
  · rw [decide_eq_false h]; exact hf h
theorem not_dec {a : Prop} [Decidable a] : (!decide a) = decide (¬a) := (decide_not).symm
theorem and_dec {a b : Prop} [Decidable a] [Decidable b] : (decide a && decide b) = decide (a ∧ b) := (Bool.decide_and a b).symm
-- loops and comprehensions by invariants
theorem i_loop (I : List PyData → Sl → Mu → Prop) (h0 : I xs σ μ) (hn : ∀ σ μ, I [] σ μ → D.nx σ μ)
    (hs : ∀ x r σ μ, I (x :: r) σ μ → ∀ N : Sl → Mu → Prop, (∀ σ' μ', I r σ' μ' → N σ' μ') → tg x σ (kTo (sa { D with nx := N, ct := N, bk := D.nx }) μ)) : dLoop tg sa D xs σ μ := b_loop I xs h0 hn hs
theorem i_comp (I : List PyData → List PyData → Mu → Prop) (h0 : I xs [] μ) (hn : ∀ acc μ, I [] acc μ → QN acc μ)
    (hs : ∀ x r acc μ, I (x :: r) acc μ → ∀ (T : KD) (E : Mu → Prop), (∀ d μ', acc.length < sizeLine → I r (acc ++ [d]) μ' → T (.d d) μ') → (∀ μ', I r acc μ' → E μ') → tg x σ (kCo1 wt w T E μ)) : dComp tg wt w σ QN xs [] μ := by
  have go : ∀ (xs acc : List PyData) μ, I xs acc μ → dComp tg wt w σ QN xs acc μ := by
    intro xs
    induction xs with
    | nil => exact fun acc μ h => hn acc μ h
    | cons x r ih =>
      intro acc μ h
      refine hs x r acc μ h (kCoT tg wt w σ QN r acc) (fun μ' => dComp tg wt w σ QN r acc μ') (fun d μ' hl hd => ⟨hl, ih _ _ hd⟩) (fun μ' hd => ih _ _ hd)
  exact go xs [] μ h0
/-- a loop over a range, by an invariant of its count -/
theorem i_rng {lo cc : Int} {cnt : Nat} (I : Nat → Sl → Mu → Prop) (h0 : I 0 σ μ) (hn : ∀ σ μ, I cnt σ μ → D.nx σ μ)
    (hs : ∀ k, k < cnt → ∀ σ μ, I k σ μ → ∀ N : Sl → Mu → Prop, (∀ σ' μ', I (k + 1) σ' μ' → N σ' μ') → tg (.int (lo + (k : Nat) * cc)) σ (kTo (sa { D with nx := N, ct := N, bk := D.nx }) μ)) : dLoop tg sa D (rngD lo cc cnt) σ μ := by
  refine i_loop (I := fun r σ μ => ∃ k, k ≤ cnt ∧ r = (rngD lo cc cnt).drop k ∧ I k σ μ) ⟨0, Nat.zero_le _, rfl, h0⟩ ?_ ?_
  · rintro σ μ ⟨k, hk, e, h⟩
    have := congrArg List.length e
    rw [List.length_drop, rngD_len, List.length_nil] at this
    have : k = cnt := by omega
    subst this
    exact hn _ _ h
  · rintro x r σ μ ⟨k, hk, e, h⟩ N hN
    have hl := congrArg List.length e
    rw [List.length_drop, rngD_len, List.length_cons] at hl
    have hk2 : k < cnt := by omega
    have hx : (rngD lo cc cnt)[k]? = some x := by
      have := congrArg (·[0]?) e
      simp only [List.getElem?_cons_zero, List.getElem?_drop, Nat.add_zero] at this
      exact this.symm
    obtain ⟨_, rfl⟩ := rngD_get hx
    refine hs k hk2 _ _ h N fun σ' μ' q => hN σ' μ' ⟨k + 1, by omega, ?_, q⟩
    have := congrArg (List.drop 1) e
    rw [List.drop_drop] at this
    simpa using this
/-- items one by one, the store as it was; the list is what map gives -/
theorem i_map (f : PyData → PyData) (hl : xs.length ≤ sizeLine) (hs : ∀ x ∈ xs, ∀ (T : KD) (E : Mu → Prop), T (.d (f x)) μ → tg x σ (kCo1 wt w T E μ)) (hn : QN (xs.map f) μ) : dComp tg wt w σ QN xs [] μ := by
  refine i_comp (I := fun r acc μ' => μ' = μ ∧ ∃ q, xs = q ++ r ∧ acc = q.map f) ⟨rfl, [], rfl, rfl⟩ (fun acc μ' h => ?_) fun x r acc μ' h T E hT hE => ?_
  · obtain ⟨rfl, q, rfl, rfl⟩ := h
    simpa using hn
  · obtain ⟨rfl, q, rfl, rfl⟩ := h
    refine hs x (by simp) T E (hT _ _ ?_ ⟨rfl, q ++ [x], by simp, by simp⟩)
    simp at hl ⊢
    omega
/-- with a test -/
theorem i_flt (f : PyData → Option PyData) (hl : xs.length ≤ sizeLine) (hs : ∀ x ∈ xs, ∀ (T : KD) (E : Mu → Prop), (∀ d, f x = some d → T (.d d) μ) → (f x = none → E μ) → tg x σ (kCo1 wt w T E μ)) (hn : QN (xs.filterMap f) μ) : dComp tg wt w σ QN xs [] μ := by
  refine i_comp (I := fun r acc μ' => μ' = μ ∧ ∃ q, xs = q ++ r ∧ acc = q.filterMap f) ⟨rfl, [], rfl, rfl⟩ (fun acc μ' h => ?_) fun x r acc μ' h T E hT hE => ?_
  · obtain ⟨rfl, q, rfl, rfl⟩ := h
    simpa using hn
  · obtain ⟨rfl, q, rfl, rfl⟩ := h
    refine hs x (by simp) T E (fun d hd => hT _ _ ?_ ⟨rfl, q ++ [x], by simp, by simp [hd]⟩) fun hd => hE _ ⟨rfl, q ++ [x], by simp, by simp [hd]⟩
    have := List.length_filterMap_le f q
    simp at hl ⊢
    omega
end
/-! ### small values -/
theorem mulOk_l {i j : Int} (h1 : -18446744073709551616 < i) (h2 : i < 18446744073709551616) : MulOk i j = True := eq_true (mulOk_left ⟨h1, h2⟩)
theorem mulOk_r {i j : Int} (h1 : -18446744073709551616 < j) (h2 : j < 18446744073709551616) : MulOk i j = True := eq_true (mulOk_right ⟨h1, h2⟩)
theorem divOk_l {m : Int} (h1 : 0 < m) (h2 : m ≤ 18446744073709551616) : DivOk m = True := eq_true (divOk_of h1 (by omega))
theorem rng_int {lo c : Int} {n : Nat} : ∀ z ∈ rngD lo c n, ∃ i : Int, z = .int i := by
  intro z hz
  obtain ⟨i, _, rfl⟩ := List.mem_map.mp hz
  exact ⟨_, rfl⟩
theorem bools_const {α : Type} {b : Bool} : ∀ {l : List α}, bools (l.map fun _ => PyData.bool b) = some (l.map fun _ => b)
  | [] => rfl
  | a :: r => by
    show (bools (r.map fun _ => PyData.bool b)).map (b :: ·) = _
    rw [bools_const]
    rfl
theorem k_allT {α : Type} {l : List α} {μ : Mu} {Q : KD} : kAll1 Q μ (bools (l.map fun _ => PyData.bool true)) = Q (.d (.bool true)) μ := by
  rw [bools_const, k_all]
  congr 3
  induction l with
  | nil => rfl
  | cons a r ih => simpa using ih
theorem cpow_eq {i j : Int} : L2.CPow i j = (0 ≤ j ∧ j ≤ 1000000 ∧ -18446744073709551616 < i ∧ i < 18446744073709551616) := by
  refine propext ⟨fun ⟨a, b, c⟩ => ⟨a, b, ?_, ?_⟩, fun ⟨a, b, c⟩ => ⟨a, b, ?_⟩⟩ <;> omega
theorem sz_line : sizeLine = 16777216 := rfl
theorem eqv_int {i j : Int} : PyData.eqv (.int i) (.int j) = decide (i = j) := by
  simp [PyData.eqv, BEq.beq]
theorem shaped_non : SeqAt.shaped .none = true := by decide +kernel
theorem shaped_int {i : Int} : SeqAt.shaped (.int i) = true := by simp [SeqAt.shaped, PyData.canLay0, PyData.depth]
theorem shaped_bool {i : Bool} : SeqAt.shaped (.bool i) = true := by simp [SeqAt.shaped, PyData.canLay0, PyData.depth]
theorem shaped_nil : SeqAt.shaped (.list []) = true := by decide +kernel
theorem shaped_nilT : SeqAt.shaped (.tuple []) = true := by decide +kernel
theorem eqv_nil : PyData.eqv (.list []) (.list []) = true := by simp [PyData.eqv, PyData.eqvAll]
theorem eqv_non : PyData.eqv .none .none = true := by simp [PyData.eqv]
theorem canLay_ints {α : Type} {f : α → Int} : ∀ xs : List α, PyData.canLayAll0 (xs.map fun a => .int (f a)) = true
  | [] => by simp [PyData.canLayAll0]
  | x :: r => by
    have := canLay_ints (f := f) r
    simp [PyData.canLayAll0, PyData.canLay0, this]
theorem depth_ints {α : Type} {f : α → Int} : ∀ xs : List α, PyData.depthAll (xs.map fun a => .int (f a)) = 0
  | [] => by simp [PyData.depthAll]
  | x :: r => by
    have := depth_ints (f := f) r
    simp [PyData.depthAll, PyData.depth, this]
theorem shaped_ints {α : Type} {f : α → Int} {xs : List α} : SeqAt.shaped (.list (xs.map fun a => .int (f a))) = true := by
  simp [SeqAt.shaped, PyData.canLay0, PyData.depth, canLay_ints, depth_ints]
theorem shaped_intsT {α : Type} {f : α → Int} {xs : List α} : SeqAt.shaped (.tuple (xs.map fun a => .int (f a))) = true := by
  simp [SeqAt.shaped, PyData.canLay0, PyData.depth, canLay_ints, depth_ints]
theorem flat_int {i : Int} : flatD (.int i) = true := rfl
theorem g_inII {i : Int} {xs : List PyData} {μ : Mu} {Q : KD} : gIn (.d (.int i)) (.d (.tuple xs)) μ Q = ((true = true ∧ xs.all flatD = true) ∧ Q (.d (.bool (xs.any fun z => PyData.eqv z (.int i)))) μ) := rfl
theorem g_niII {i : Int} {xs : List PyData} {μ : Mu} {Q : KD} : gNotIn (.d (.int i)) (.d (.tuple xs)) μ Q = ((true = true ∧ xs.all flatD = true) ∧ Q (.d (.bool (!(xs.any fun z => PyData.eqv z (.int i))))) μ) := rfl
theorem or_dec {a b : Prop} [Decidable a] [Decidable b] : (decide a || decide b) = decide (a ∨ b) := (Bool.decide_or a b).symm
theorem sbt_int_NoneType : isSub "NoneType" .int = false := rfl
theorem sbt_int_bool : isSub "bool" .int = true := rfl
theorem sbt_int_int : isSub "int" .int = true := rfl
theorem sbt_int_str : isSub "str" .int = false := rfl
theorem sbt_int_list : isSub "list" .int = false := rfl
theorem sbt_int_tuple : isSub "tuple" .int = false := rfl
theorem sbt_int_dict : isSub "dict" .int = false := rfl
theorem sbt_bool_NoneType : isSub "NoneType" .bool = false := rfl
theorem sbt_bool_bool : isSub "bool" .bool = true := rfl
theorem sbt_bool_int : isSub "int" .bool = false := rfl
theorem sbt_bool_str : isSub "str" .bool = false := rfl
theorem sbt_bool_list : isSub "list" .bool = false := rfl
theorem sbt_bool_tuple : isSub "tuple" .bool = false := rfl
theorem sbt_bool_dict : isSub "dict" .bool = false := rfl
theorem sbt_str_NoneType : isSub "NoneType" .str = false := rfl
theorem sbt_str_bool : isSub "bool" .str = false := rfl
theorem sbt_str_int : isSub "int" .str = false := rfl
theorem sbt_str_str : isSub "str" .str = true := rfl
theorem sbt_str_list : isSub "list" .str = false := rfl
theorem sbt_str_tuple : isSub "tuple" .str = false := rfl
theorem sbt_str_dict : isSub "dict" .str = false := rfl
theorem sbt_tuple_NoneType : isSub "NoneType" .tuple = false := rfl
theorem sbt_tuple_bool : isSub "bool" .tuple = false := rfl
theorem sbt_tuple_int : isSub "int" .tuple = false := rfl
theorem sbt_tuple_str : isSub "str" .tuple = false := rfl
theorem sbt_tuple_list : isSub "list" .tuple = false := rfl
theorem sbt_tuple_tuple : isSub "tuple" .tuple = true := rfl
theorem sbt_tuple_dict : isSub "dict" .tuple = false := rfl
theorem sbt_list_NoneType : isSub "NoneType" .list = false := rfl
theorem sbt_list_bool : isSub "bool" .list = false := rfl
theorem sbt_list_int : isSub "int" .list = false := rfl
theorem sbt_list_str : isSub "str" .list = false := rfl
theorem sbt_list_list : isSub "list" .list = true := rfl
theorem sbt_list_tuple : isSub "tuple" .list = false := rfl
theorem sbt_list_dict : isSub "dict" .list = false := rfl
theorem sbt_dict_NoneType : isSub "NoneType" .dict = false := rfl
theorem sbt_dict_bool : isSub "bool" .dict = false := rfl
theorem sbt_dict_int : isSub "int" .dict = false := rfl
theorem sbt_dict_str : isSub "str" .dict = false := rfl
theorem sbt_dict_list : isSub "list" .dict = false := rfl
theorem sbt_dict_tuple : isSub "tuple" .dict = false := rfl
theorem sbt_dict_dict : isSub "dict" .dict = true := rfl
/-! ### the tactics -/
local macro_rules | `(tactic| dsimp! [$as,*]) => `(tactic| simp -implicitDefEqProofs only [q_op, k_op1, k_op2, q_B, k_B, q_chain, k_ch1, k_ch2, k_ch3t, k_ch3f, k_ch3_skip, k_ch3_le, k_ch3_lt, k_ch3_vle, k_ch3_vlt, q_and, k_andt, k_andf, q_or, k_ort, k_orf, q_not, k_not, q_andV, k_andVt, k_andVf, q_orV, k_orVt, k_orVf, q_notV, k_notV, q_ifE, k_ifEt, k_ifEf, e_nil, q_cons, k_cons, k_cons2, q_tup, k_tup, k_tup1, q_lst, k_lst, k_lst1, q_snap, k_snap, q_loc, k_loc, q_cb, k_cb, q_call, k_call, q_un, k_un, q_rev, k_rev, k_rev1t, k_rev1f, q_slice, k_sl, k_sl1, k_sl2, k_sl3t, k_sl3f, q_noPart, q_part, k_part, q_isi, k_isi, k_isi1, q_cat, k_cat1, k_cat2, k_cat3, q_rep, k_rep1, k_rep2, k_rep3, q_list, k_lsS, k_lsT, k_lsL, k_lsC, k_ls1, q_lc, k_lc, k_co1, k_co2t, k_co2f, q_yes, q_wipe0, q_wipe1, q_it, k_itL, k_itT, k_itC, k_itC1, q_r1, k_r1, q_r2, k_r2, q_r3, k_r3, q_zip, k_zipL, k_zipT, q_enum, k_enum, q_app, k_app, k_app0, k_app1, k_app2, q_pop, k_pop, k_pop1, k_pop2, s_seq, s_next, s_break, s_cont, s_set, k_set, s_ret, s_retN, s_drop, k_drop, s_if, k_ift, k_iff, s_par, k_par, s_par3, k_par3, s_asg, k_asg, k_to, s_store, k_st1, k_st2, k_st3, k_stB, k_stC, s_for, k_for, t_name, t_tup, t_nil, t_cons', k_cons1, f_rt, f_nx, r_d, r_keep, r_free, v_at, v_at1, v_tup, v_lst, l_at, l_at1, q_ixT, q_ixL, q_ixC, k_ix, k_ix1, q_lenC, k_lenL, q_tupC, k_tplF, q_all, k_all, q_any, k_any, q_sum, k_sum, o_map, m_off, m_off0, m_set, m_set0, m_take, m_takeS, m_all, not_dec, and_dec,
  e_var0, e_varS, e_varF0, e_varFS, e_C, e_allD0, e_allD1, g_addI, g_addS, g_addT, g_addL, g_sub, g_mul, g_mulT, g_mulL, g_div, g_mod, g_pow, g_shl, g_shr, g_lt, g_le, g_gt, g_ge, g_eqI, g_eqS, g_eqB, g_eqL, g_eqT, g_eqN, g_neI, g_neS, g_neB, g_neL, g_neT, g_isN, g_isB, g_isnotN, g_isnotB, n_non, n_int, n_bool, n_str, n_tup, n_lst, g_abs, g_min2, g_max2, g_int, g_intB, g_lenT, g_lenL, g_lenS, g_tupL, g_tupT, y_non, y_bool, y_int, y_str, y_lst, y_tup, sbt_int_NoneType, sbt_int_bool, sbt_int_int, sbt_int_str, sbt_int_list, sbt_int_tuple, sbt_int_dict, sbt_bool_NoneType, sbt_bool_bool, sbt_bool_int, sbt_bool_str, sbt_bool_list, sbt_bool_tuple, sbt_bool_dict, sbt_str_NoneType, sbt_str_bool, sbt_str_int, sbt_str_str, sbt_str_list, sbt_str_tuple, sbt_str_dict, sbt_tuple_NoneType, sbt_tuple_bool, sbt_tuple_int, sbt_tuple_str, sbt_tuple_list, sbt_tuple_tuple, sbt_tuple_dict, sbt_list_NoneType, sbt_list_bool, sbt_list_int, sbt_list_str, sbt_list_list, sbt_list_tuple, sbt_list_dict, sbt_dict_NoneType, sbt_dict_bool, sbt_dict_int, sbt_dict_str, sbt_dict_list, sbt_dict_tuple, sbt_dict_dict, sz_line, eqv_int, shaped_non, shaped_int, shaped_bool, shaped_nil, shaped_nilT, eqv_nil, eqv_non, flat_int, g_inII, g_niII, or_dec, List.all_cons, List.all_nil, List.any_cons, List.any_nil, Bool.true_and, Bool.or_false, Bool.false_or, Bool.or_true, Bool.true_or, Bool.false_and, Bool.and_true, cpow_eq, mulOk_l, mulOk_r, divOk_l, Nat.reducePow, Nat.reduceLT, Nat.reduceLeDiff, Nat.reduceMul, eq_self, atI_zero, atI_one, atI_two, ixN_0, ixN_1, take_set, decide_true, decide_false, Bool.not_true, Bool.not_false, true_and, and_true, if_true, if_false, List.length_cons, List.length_nil, List.length_append, List.set_cons_zero, List.set_cons_succ, List.getElem?_cons_zero, List.getElem?_cons_succ, List.cons_append, List.nil_append, List.append_assoc, List.map_cons, List.map_nil, Nat.reduceAdd, Nat.reduceSub, Nat.zero_add, Nat.reduceEqDiff, Int.reduceEq, Int.reduceNe, Int.reduceLT, Int.reduceLE, Int.reduceGT, Int.reduceGE, Int.reduceAdd, Int.reduceSub, Int.reduceMul, Int.reducePow, Int.reduceToNat, Int.reduceNeg, not_true_eq_false, not_false_eq_true, $as,*])
local macro_rules | `(tactic| walk_at "c") => `(tactic| first | refine c_if (fun h => ?_) fun h => ?_ | refine c_and (fun h => ?_) fun h => ?_ | refine c_or (fun h => ?_) fun h => ?_ | refine c_ifE (fun h => ?_) fun h => ?_ | refine c_andV (fun h => ?_) fun h => ?_ | refine c_orV (fun h => ?_) fun h => ?_ | refine c_ch (fun h => ?_) fun h => ?_ | refine c_co (fun h => ?_) fun h => ?_)
local macro_rules | `(tactic| walk_at "ok") => `(tactic| first | exact mulOk_left (by omega) | exact mulOk_right (by omega) | exact mulOk_of (by omega) (by omega) | exact divOk_of (by omega) (by omega) | decide | omega | (unfold RngOk; omega) | (refine ⟨?_, ?_⟩ <;> (unfold RngOk; omega)))
-- a try
example {v lo hi : Int} {μ : Mu} {Q : KD} (h : Q (.d (.bool (decide (lo ≤ v ∧ v ≤ hi)))) μ) : fnW false 3 3 (dRet (dChain gLe gLe (dVar 1) (dVar 0) (dVar 2))) [.d (.int v), .d (.int lo), .d (.int hi)] μ Q := by
  refine ⟨rfl, ?_⟩
  dsimp! [List.replicate_zero, List.append_nil]
  exact h
end DL
/-! DLr: more built-in calls. -/
namespace DL
open PySem PySem.Spec PyProof.Rows L2
section
variable {K : PySem.W.Frag} {X : Cx}
def gStrI : GC := fun xs μ Q => match xs with
  | [.d (.int i)] => i.natAbs.log2 < 1920 ∧ Q (.d (.str (toString i))) μ
  | _ => False
theorem dc_strI : DCb K X (.type "str") (fun xs H Q => ∃ i, xs = [.int i] ∧ i.natAbs.log2 < 1920 ∧ Q (.str (toString i)) H) gStrI := by
  refine ⟨call_str_int, fun F α μ H vs xs Q Q' R r h k => ?_⟩
  unfold gStrI at h
  split at h
  · rename_i i
    cases r with
    | cons r1 r2 =>
      cases r2
      cases r1
      exact ⟨i, rfl, h.1, k.same R (.ofD (.str _)) h.2⟩
  · cases h
/-! sorted(list of ints) -/
def sortI (ns : List Int) : List Int := ns.mergeSort fun a b => decide (a ≤ b)
theorem sortI_perm (ns : List Int) : (sortI ns).Perm ns := List.mergeSort_perm _ _
theorem sortI_le (ns : List Int) : (sortI ns).Pairwise (· ≤ ·) := by
  have h := List.pairwise_mergeSort (le := fun a b : Int => decide (a ≤ b)) (fun a b c h1 h2 => by simp at *; omega) (fun a b => by simp; omega) ns
  exact h.imp fun h => by simpa using h
theorem sorted_uniq : ∀ {l m : List Int}, l.Perm m → l.Pairwise (· ≤ ·) → m.Pairwise (· ≤ ·) → l = m
  | [], m, h, _, _ => (List.Perm.nil_eq h)
  | a :: r, [], h, _, _ => absurd h.length_eq (by simp)
  | a :: r, b :: t, h, hl, hm => by
    have hl' := List.pairwise_cons.mp hl
    have hm' := List.pairwise_cons.mp hm
    have e : a = b := by
      have h1 : b ∈ a :: r := h.mem_iff.mpr List.mem_cons_self
      have h2 : a ∈ b :: t := h.mem_iff.mp List.mem_cons_self
      rcases List.mem_cons.mp h1 with e | e
      · exact e.symm
      · rcases List.mem_cons.mp h2 with e' | e'
        · exact e'
        · have := hl'.1 b e
          have := hm'.1 a e'
          omega
    subst e
    rw [sorted_uniq (List.Perm.cons_inv h) hl'.2 hm'.2]
def gSorted : GC := fun xs μ Q => match xs with
  | [x] => (match view μ x with
    | some (false, ys) => (match intsOf ys with
      | some ns => Q (.d (.list ((sortI ns).map PyData.int))) μ
      | none => False)
    | _ => False)
  | _ => False
theorem dq_ints {F : Hp} : ∀ {vs : List V} {ns : List Int}, DqAll K F vs (ns.map PyData.int) → vs = ns.map V.int
  | [], [], _ => rfl
  | [], _ :: _, h => by cases h
  | _ :: _, [], h => by cases h
  | _ :: _, n :: ns, h => by
    cases h with
    | cons h1 h2 =>
      cases h1
      rw [dq_ints h2]
      rfl
theorem ints_dq {F : Hp} : ∀ ns : List Int, DqAll K F (ns.map V.int) (ns.map PyData.int)
  | [] => .nil
  | n :: r => .cons (.int n) (ints_dq r)
theorem dc_sorted (hK : X.K = K := by rfl) : DCb K X (.builtin "sorted") (rSortedI K) gSorted := by
  subst hK
  refine ⟨cr_sortedI, fun F α μ H vs xs Q Q' R r h k => ?_⟩
  unfold gSorted at h
  split at h
  · rename_i x
    cases r with
    | cons r1 r2 =>
      cases r2
      split at h
      · rename_i ys e1
        split at h
        · rename_i ns e2
          obtain ⟨a, ws, rfl, h1, d1⟩ := view_list R r1 e1
          rw [intsOf_eq e2] at d1
          have ew := dq_ints d1
          subst ew
          refine ⟨a, ns, rfl, SqL.of h1, fun ns' p hp hs hf => ?_⟩
          have en : ns' = sortI ns := sorted_uniq (hp.trans (sortI_perm ns).symm) hs (sortI_le ns)
          subst en
          exact k.lst R (ints_dq _) h p hf
        · cases h
      · cases h
  · cases h
theorem g_sorted {xs : List PyData} {μ : Mu} {Q : KD} : gSorted [.d (.list xs)] μ Q = (match intsOf xs with
  | some ns => Q (.d (.list ((sortI ns).map PyData.int))) μ
  | none => False) := rfl
theorem g_strI {i : Int} {μ : Mu} {Q : KD} : gStrI [.d (.int i)] μ Q = (i.natAbs.log2 < 1920 ∧ Q (.d (.str (toString i))) μ) := rfl
end
theorem atI_eq {α : Type} {xs : List α} {i : Int} {j : Nat} {v : α} (hi : i = (j : Int)) (hx : xs[j]? = some v) : atI xs i = some v := by
  rw [hi]
  exact L2.atI_nat hx
theorem atI_neg {α : Type} {xs : List α} {i : Int} {j : Nat} {v : α} (h0 : i < 0) (hj : (xs.length : Int) + i = j) (hx : xs[j]? = some v) : atI xs i = some v := by
  unfold atI L2.ixN
  rw [if_neg (by omega), if_pos (by omega)]
  show xs[(i + (xs.length : Int)).toNat]? = some v
  rw [show (i + (xs.length : Int)).toNat = j by omega]
  exact hx
theorem cut_to {xs : List PyData} {n : Nat} : cutD xs none (some (n : Int)) = xs.take n := by
  unfold cutD
  rw [HT.sIx_nat]
  show (xs.drop 0).take (min n xs.length - 0) = _
  rw [List.drop_zero, Nat.sub_zero]
  rcases Nat.lt_or_ge xs.length n with h | h
  · rw [Nat.min_eq_right (by omega), List.take_length, List.take_of_length_le (by omega)]
  · rw [Nat.min_eq_left h]
theorem cut_from {xs : List PyData} {n : Nat} : cutD xs (some (n : Int)) none = xs.drop n := by
  unfold cutD
  rw [HT.sIx_nat]
  show (xs.drop (min n xs.length)).take (xs.length - min n xs.length) = _
  rcases Nat.lt_or_ge xs.length n with h | h
  · rw [Nat.min_eq_right (by omega), List.drop_length, List.drop_of_length_le (by omega), List.take_nil]
  · rw [Nat.min_eq_left h, List.take_of_length_le (by simp)]
end DL
/-! DLk: dicts with keys that are numbers or texts; least and greatest of a list. -/
namespace DL
open PySem PySem.Spec PyProof.Rows L2
abbrev Kvs := List (Key × PyData)
def keyOf : SV → Option Key
  | .d (.int i) => some (.inl i)
  | .d (.str s) => some (.inr s)
  | _ => none
def valD (ds : Kvs) (k : Key) : Option PyData := (ds.find? fun kv => decide (kv.1 = k)).map (·.2)
def putD (ds : Kvs) (k : Key) (d : PyData) : Kvs :=
  if (ds.any fun kv => decide (kv.1 = k)) = true then ds.map (fun kv => if kv.1 = k then (kv.1, d) else kv) else ds ++ [(k, d)]
def dkAt (μ : Mu) (x : SV) : Option (Nat × Kvs) := match x with
  | .loc k => match μ[k]? with
    | some (.dk xs) => some (k, xs)
    | _ => none
  | _ => none
theorem keyOf_ok {K : PySem.W.Frag} {F : Hp} {α : List Addr} {v : V} {x : SV} {k : Key} (r : RW K F α v x) (h : keyOf x = some k) : v = kV k := by
  cases x with
  | d z => cases z <;> simp [keyOf] at h <;> subst h <;> cases r <;> rfl
  | loc l => cases h
  | scr l => cases h
theorem kvRep_nil {K : PySem.W.Frag} {F : Hp} {κ : Type} : KvRep K F ([] : List (κ × V)) [] := ⟨rfl, .nil⟩
theorem kvRep_cases {K : PySem.W.Frag} {F : Hp} {κ : Type} {p : κ × V} {vs : List (κ × V)} {ds : List (κ × PyData)} (h : KvRep K F (p :: vs) ds) : ∃ q r, ds = q :: r ∧ p.1 = q.1 ∧ Dq K F p.2 q.2 ∧ KvRep K F vs r := by
  obtain ⟨h1, h2⟩ := h
  cases ds with
  | nil => simp at h1
  | cons q r =>
    simp only [List.map_cons, List.cons.injEq] at h1 h2
    cases h2 with
    | cons a b => exact ⟨q, r, rfl, h1.1, a, h1.2, b⟩
theorem kvRep_cons {K : PySem.W.Frag} {F : Hp} {κ : Type} {p : κ × V} {q : κ × PyData} {vs : List (κ × V)} {ds : List (κ × PyData)} (h1 : p.1 = q.1) (h2 : Dq K F p.2 q.2) (h : KvRep K F vs ds) : KvRep K F (p :: vs) (q :: ds) :=
  ⟨by rw [List.map_cons, List.map_cons, h1, h.1], .cons h2 h.2⟩
theorem kvRep_val {K : PySem.W.Frag} {F : Hp} (k : Key) : ∀ {vs : List (Key × V)} {ds : Kvs}, KvRep K F vs ds → (valV vs k = none ∧ valD ds k = none) ∨ ∃ v d, valV vs k = some v ∧ valD ds k = some d ∧ Dq K F v d
  | [], ds, h => by
    have : ds = [] := by
      have := h.1
      cases ds with
      | nil => rfl
      | cons q r => simp at this
    subst this
    exact .inl ⟨rfl, rfl⟩
  | p :: vs, ds, h => by
    obtain ⟨q, r, rfl, e, hd, hr⟩ := kvRep_cases h
    unfold valV valD
    rw [List.find?_cons, List.find?_cons, e]
    by_cases c : q.1 = k
    · simp only [c, decide_true, Option.map_some]
      exact .inr ⟨_, _, rfl, rfl, hd⟩
    · simp only [c, decide_false]
      exact kvRep_val k hr
theorem kvRep_any {K : PySem.W.Frag} {F : Hp} (k : Key) : ∀ {vs : List (Key × V)} {ds : Kvs}, KvRep K F vs ds → (vs.any fun kv => decide (kv.1 = k)) = (ds.any fun kv => decide (kv.1 = k))
  | [], ds, h => by
    have : ds = [] := by
      have := h.1
      cases ds with
      | nil => rfl
      | cons q r => simp at this
    subst this
    rfl
  | p :: vs, ds, h => by
    obtain ⟨q, r, rfl, e, hd, hr⟩ := kvRep_cases h
    rw [List.any_cons, List.any_cons, e, kvRep_any k hr]
theorem kvRep_map {K : PySem.W.Frag} {F : Hp} (k : Key) {v : V} {d : PyData} (hv : Dq K F v d) : ∀ {vs : List (Key × V)} {ds : Kvs}, KvRep K F vs ds → KvRep K F (vs.map fun kv => if kv.1 = k then (kv.1, v) else kv) (ds.map fun kv => if kv.1 = k then (kv.1, d) else kv)
  | [], ds, h => by
    have : ds = [] := by
      have := h.1
      cases ds with
      | nil => rfl
      | cons q r => simp at this
    subst this
    exact h
  | p :: vs, ds, h => by
    obtain ⟨q, r, rfl, e, hd, hr⟩ := kvRep_cases h
    rw [List.map_cons, List.map_cons]
    refine kvRep_cons ?_ ?_ (kvRep_map k hv hr)
    · rw [e]; split <;> simp [e]
    · rw [e]; split
      · exact hv
      · exact hd
theorem kvRep_app {K : PySem.W.Frag} {F : Hp} {vs ws : List (Key × V)} {ds es : Kvs} (h : KvRep K F vs ds) (h' : KvRep K F ws es) : KvRep K F (vs ++ ws) (ds ++ es) :=
  ⟨by rw [List.map_append, List.map_append, h.1, h'.1], by rw [List.map_append, List.map_append]; exact dqAll_app h.2 h'.2⟩
theorem kvRep_put {K : PySem.W.Frag} {F : Hp} {vs : List (Key × V)} {ds : Kvs} (h : KvRep K F vs ds) (k : Key) {v : V} {d : PyData} (hv : Dq K F v d) : KvRep K F (putK vs k v) (putD ds k d) := by
  unfold putK putD
  rw [kvRep_any k h]
  split
  · exact kvRep_map k hv h
  · exact kvRep_app h (kvRep_cons rfl hv kvRep_nil)
theorem kvRep_len {K : PySem.W.Frag} {F : Hp} {κ : Type} {vs : List (κ × V)} {ds : List (κ × PyData)} (h : KvRep K F vs ds) : vs.length = ds.length := by
  have := congrArg List.length h.1
  simpa using this
theorem dkAt_ok {K : PySem.W.Frag} {F H : Hp} {α : List Addr} {μ : Mu} {v : V} {x : SV} {k : Nat} {xs : Kvs} (R : Rel K F α μ H) (r : RW K F α v x) (h : dkAt μ x = some (k, xs)) : ∃ a vs, v = .ref a ∧ α[k]? = some a ∧ F a = none ∧ H a = some (.dK vs) ∧ KvRep K F vs xs := by
  cases x with
  | d z => cases h
  | scr z => cases h
  | loc l =>
    obtain ⟨a, rfl, ha⟩ := r
    simp only [dkAt] at h
    split at h
    · rename_i ys e
      cases h
      obtain ⟨f, vs, e1, d⟩ := R.cell _ a _ ha e
      exact ⟨a, vs, rfl, ha, f, e1, d⟩
    · cases h
section
variable {K : PySem.W.Frag} {X : Cx} {a b c e : Expr} {pos : Pos} {ta tb tc : TE} {wa wb wc : DE}
/-- {} -/
def dDNew : DE := fun _ μ Q => Q (.loc μ.length) (μ ++ [.dk []])
theorem dx_dnew : DX K X (.Dict [] [] pos) tDNewK dDNew := by
  refine ⟨pe_dnewK, fun F α σ μ τ H Q Q' S hw k p hp => ?_⟩
  have hF := free_of S.rel hp
  refine k F _ _ _ _ _ (((ext_aside hp).own hp)) (((S.rel.aside hp).own (c := .dk []) ⟨hF, [], upd_same, kvRep_nil⟩ (S.rel.ne hp))) (show RW K F (α ++ [p]) (.ref p) (.loc μ.length) from ⟨p, rfl, ?_⟩) hw
  rw [← S.rel.len, List.getElem?_append_right (Nat.le_refl _), Nat.sub_self]
  rfl
def kDGet (Q : KD) (μ : Mu) : Option Key → Option (Nat × Kvs) → Prop
  | some k, some (_, kvs) => (match valD kvs k with
    | some d => Q (.d d) μ
    | none => False)
  | _, _ => False
/-- d[k] -/
def dDGet (wa wb : DE) : DE := fun σ μ Q => wa σ μ fun x μ1 => wb σ μ1 fun y μ2 => kDGet Q μ2 (keyOf y) (dkAt μ2 x)
theorem dx_dget (hu : X.A.units + 1 < cLine) (ha : DX K X a ta wa) (hb : DX K X b tb wb) (hs : NoSl b := by exact fun _ _ => rfl) : DX K X (.Subscript a b pos) (tDGet ta tb) (dDGet wa wb) := by
  refine ⟨pe_dget hu ha.pe hb.pe hs, fun F α σ μ τ H Q Q' S hw k => ?_⟩
  refine ha.sim F α σ μ τ H _ _ S hw fun F1 α1 μ1 H1 v x e1 R1 r1 q1 => ?_
  refine hb.sim F1 α1 σ μ1 τ H1 _ _ ⟨R1, S.sl.mono e1⟩ q1 fun F2 α2 μ2 H2 u y e2 R2 r2 q2 => ?_
  unfold kDGet at q2
  split at q2
  · rename_i ky l kvs hk hd
    split at q2
    · rename_i d hv
      obtain ⟨p, vs, rfl, _, _, hH, hR⟩ := dkAt_ok R2 (r1.mono e2) hd
      have eu := keyOf_ok r2 hk
      rcases kvRep_val ky hR with ⟨_, z⟩ | ⟨v, d', z1, z2, z3⟩
      · rw [z] at hv; cases hv
      · rw [z2] at hv
        cases hv
        refine ⟨p, v, rfl, ?_, k F2 α2 μ2 H2 _ _ (e1.trans e2) R2 (.ofD z3) q2⟩
        rw [eu, ← z1]
        exact DGet.k hH
    · cases q2
  · cases q2
def kDIn (neg : Bool) (Q : KD) (μ : Mu) : Option Key → Option (Nat × Kvs) → Prop
  | some k, some (_, kvs) => Q (.d (.bool (if neg then !(valD kvs k).isSome else (valD kvs k).isSome))) μ
  | _, _ => False
/-- k in d -/
def dDIn (neg : Bool) (wa wb : DE) : DE := fun σ μ Q => wa σ μ fun y μ1 => wb σ μ1 fun x μ2 => kDIn neg Q μ2 (keyOf y) (dkAt μ2 x)
theorem kvRep_some {F : Hp} {vs : List (Key × V)} {ds : Kvs} (h : KvRep K F vs ds) (k : Key) : (valV vs k).isSome = (valD ds k).isSome := by
  rcases kvRep_val k h with ⟨z1, z2⟩ | ⟨v, d, z1, z2, _⟩ <;> rw [z1, z2] <;> rfl
theorem sim_din (ha : DX K X a ta wa) (hb : DX K X b tb wb) : SimE K (tDIn ta tb) (dDIn false wa wb) := fun F α σ μ τ H Q Q' S hw k => by
  refine ha.sim F α σ μ τ H _ _ S hw fun F1 α1 μ1 H1 v x e1 R1 r1 q1 => ?_
  refine hb.sim F1 α1 σ μ1 τ H1 _ _ ⟨R1, S.sl.mono e1⟩ q1 fun F2 α2 μ2 H2 u y e2 R2 r2 q2 => ?_
  unfold kDIn at q2
  split at q2
  · rename_i ky l kvs hk hd
    obtain ⟨p, vs, rfl, _, _, hH, hR⟩ := dkAt_ok R2 r2 hd
    have eu := keyOf_ok (r1.mono e2) hk
    refine ⟨p, valV vs ky, rfl, by rw [eu]; exact DGet.k hH, ?_⟩
    rw [kvRep_some hR]
    exact k F2 α2 μ2 H2 _ _ (e1.trans e2) R2 (.ofD (.bl _)) q2
  · cases q2
theorem sim_dnotin (ha : DX K X a ta wa) (hb : DX K X b tb wb) : SimE K (tDNotIn ta tb) (dDIn true wa wb) := fun F α σ μ τ H Q Q' S hw k => by
  refine ha.sim F α σ μ τ H _ _ S hw fun F1 α1 μ1 H1 v x e1 R1 r1 q1 => ?_
  refine hb.sim F1 α1 σ μ1 τ H1 _ _ ⟨R1, S.sl.mono e1⟩ q1 fun F2 α2 μ2 H2 u y e2 R2 r2 q2 => ?_
  unfold kDIn at q2
  split at q2
  · rename_i ky l kvs hk hd
    obtain ⟨p, vs, rfl, _, _, hH, hR⟩ := dkAt_ok R2 r2 hd
    have eu := keyOf_ok (r1.mono e2) hk
    refine ⟨p, valV vs ky, rfl, by rw [eu]; exact DGet.k hH, ?_⟩
    rw [kvRep_some hR]
    exact k F2 α2 μ2 H2 _ _ (e1.trans e2) R2 (.ofD (.bl _)) q2
  · cases q2
theorem dx_din (hu : X.A.units + 1 < cLine) (ha : DX K X a ta wa) (hb : DX K X b tb wb) (h1 : behindInMarks .In b = false := by first | exact nobehind _ (by decide) (by decide) | rfl) : DX K X (.Compare a [.In] [b] pos) (tDIn ta tb) (dDIn false wa wb) := ⟨pe_cmp (pc_din hu ha.pe hb.pe) h1, sim_din ha hb⟩
theorem dx_dnotin (hu : X.A.units + 1 < cLine) (ha : DX K X a ta wa) (hb : DX K X b tb wb) (h1 : behindInMarks .NotIn b = false := by first | exact nobehind _ (by decide) (by decide) | rfl) : DX K X (.Compare a [.NotIn] [b] pos) (tDNotIn ta tb) (dDIn true wa wb) := ⟨pe_cmp (pc_dnotin hu ha.pe hb.pe) h1, sim_dnotin ha hb⟩
theorem dt_din (hu : X.A.units + 1 < cLine) (ha : DX K X a ta wa) (hb : DX K X b tb wb) (h1 : behindInMarks .In b = false := by first | exact nobehind _ (by decide) (by decide) | rfl) : DTt K X (.Compare a [.In] [b] pos) (tB (tDIn ta tb)) (dB (dDIn false wa wb)) := ⟨pt_cmp (pc_din hu ha.pe hb.pe) h1, simB (sim_din ha hb)⟩
theorem dt_dnotin (hu : X.A.units + 1 < cLine) (ha : DX K X a ta wa) (hb : DX K X b tb wb) (h1 : behindInMarks .NotIn b = false := by first | exact nobehind _ (by decide) (by decide) | rfl) : DTt K X (.Compare a [.NotIn] [b] pos) (tB (tDNotIn ta tb)) (dB (dDIn true wa wb)) := ⟨pt_cmp (pc_dnotin hu ha.pe hb.pe) h1, simB (sim_dnotin ha hb)⟩
def kDPut (N : Sl → Mu → Prop) (σ : Sl) (v : SV) (μ : Mu) : Option Key → Option (Nat × Kvs) → Prop
  | some k, some (l, kvs) => (match v with
    | .d d => kvs.length < sizeLine ∧ N σ (μ.set l (.dk (putD kvs k d)))
    | _ => False)
  | _, _ => False
/-- d[k] = v -/
def dDPut (wv wo wi : DE) : DS := fun D σ μ => wv σ μ fun v μ1 => wo σ μ1 fun x μ2 => wi σ μ2 fun i μ3 => kDPut D.nx σ v μ3 (keyOf i) (dkAt μ3 x)
theorem Rel.putDk {F H : Hp} {α : List Addr} {μ : Mu} {k : Nat} {a : Addr} {us : List (Key × V)} {ys : Kvs} (R : Rel K F α μ H) (hk : α[k]? = some a) (hF : F a = none) (h : KvRep K F us ys) : Rel K F α (μ.set k (.dk ys)) (upd H a (.dK us)) :=
  R.put hk hF ⟨hF, us, upd_same, h⟩
theorem ds_dput {o i v : Expr} {to ti tv : TE} {wo wi wv : DE} {spos : Pos} (hu : X.A.units + 1 < cLine) (hv : DX K X v tv wv) (ho : DX K X o to wo) (hi : DX K X i ti wi)
    (hs : swapsWith v (some (.Subscript o i pos)) spos.line X.env = pure false := by rfl) : DSt K X (.Assign [.Subscript o i pos] v spos) (sDPut to ti tv) (dDPut wv wo wi) := by
  refine ⟨ps_dput hu ho.pe hi.pe hv.pe hs, fun F α σ μ τ H D D' S hw k => ?_⟩
  refine hv.sim F α σ μ τ H _ _ S hw fun F1 α1 μ1 H1 v y e1 R1 r1 q1 => ?_
  refine ho.sim F1 α1 σ μ1 τ H1 _ _ ⟨R1, S.sl.mono e1⟩ q1 fun F2 α2 μ2 H2 u x e2 R2 r2 q2 => ?_
  refine hi.sim F2 α2 σ μ2 τ H2 _ _ ⟨R2, S.sl.mono (e1.trans e2)⟩ q2 fun F3 α3 μ3 H3 w z e3 R3 r3 q3 => ?_
  unfold kDPut at q3
  split at q3
  · rename_i ky l kvs hk hd
    split at q3
    · rename_i d
      obtain ⟨a, vs, rfl, ha, hF, hH, hR⟩ := dkAt_ok R3 (r2.mono e3) hd
      have eu := keyOf_ok r3 hk
      refine ⟨a, _, rfl, by rw [eu]; exact DPut.k hH (by rw [kvRep_len hR]; exact q3.1), ?_⟩
      exact k.nx F3 α3 σ _ τ _ ((e1.trans (e2.trans e3)).trans (ext_put ha)) ⟨Rel.putDk R3 ha hF (kvRep_put hR ky (r1.mono (e2.trans e3))), S.sl.mono (e1.trans (e2.trans e3))⟩ q3.2
    · cases q3
  · cases q3
def kDGetO (Q : KD) (z : SV) (μ : Mu) : Option Key → Option (Nat × Kvs) → Prop
  | some k, some (_, kvs) => (match valD kvs k with
    | some d => Q (.d d) μ
    | none => Q z μ)
  | _, _ => False
/-- d.get(k, z) -/
def dDGet2 (wa wb wc : DE) : DE := fun σ μ Q => wa σ μ fun x μ1 => (∃ r, dkAt μ1 x = some r) ∧ wb σ μ1 fun y μ2 => wc σ μ2 fun z μ3 => kDGetO Q z μ3 (keyOf y) (dkAt μ3 x)
theorem dx_dget2 {apos cpos : Pos} (hu : X.A.units + 1 < cLine) (ha : DX K X a ta wa) (hb : DX K X b tb wb) (hc : DX K X c tc wc) (m : M2 X a "get" apos b c cpos := by exact ⟨rfl, rfl, rfl, rfl⟩) : DX K X (.Call (.Attribute a "get" apos) [b, c] [] cpos) (tDGet2 ta tb tc) (dDGet2 wa wb wc) := by
  refine ⟨pe_dget2 hu ha.pe hb.pe hc.pe m, fun F α σ μ τ H Q Q' S hw k => ?_⟩
  refine ha.sim F α σ μ τ H _ _ S hw fun F1 α1 μ1 H1 v x e1 R1 r1 q1 => ?_
  obtain ⟨⟨⟨l, kvs0⟩, hd0⟩, q1⟩ := q1
  obtain ⟨p, vs0, rfl, _, _, hH0, _⟩ := dkAt_ok R1 r1 hd0
  refine ⟨p, rfl, .inl ⟨vs0, .inl hH0⟩, ?_⟩
  refine hb.sim F1 α1 σ μ1 τ H1 _ _ ⟨R1, S.sl.mono e1⟩ q1 fun F2 α2 μ2 H2 u y e2 R2 r2 q2 => ?_
  refine hc.sim F2 α2 σ μ2 τ H2 _ _ ⟨R2, S.sl.mono (e1.trans e2)⟩ q2 fun F3 α3 μ3 H3 w z e3 R3 r3 q3 => ?_
  unfold kDGetO at q3
  split at q3
  · rename_i ky l' kvs hk hd
    obtain ⟨p', vs, ep, _, _, hH, hR⟩ := dkAt_ok R3 (r1.mono (e2.trans e3)) hd
    cases ep
    have eu := keyOf_ok (r2.mono e3) hk
    refine ⟨valV vs ky, by rw [eu]; exact DGet.k hH, ?_⟩
    rcases kvRep_val ky hR with ⟨z1, z2⟩ | ⟨v, d', z1, z2, z3⟩
    · rw [z2] at q3
      rw [z1]
      exact k F3 α3 μ3 H3 _ _ (e1.trans (e2.trans e3)) R3 r3 q3
    · rw [z2] at q3
      rw [z1]
      exact k F3 α3 μ3 H3 _ _ (e1.trans (e2.trans e3)) R3 (.ofD z3) q3
  · cases q3
/-! max and min of a list of ints -/
def gMaxL : GC := fun xs μ Q => match xs with
  | [x] => (match view μ x with
    | some (false, ys) => (match intsOf ys with
      | some ns => 0 < ns.length ∧ ∀ m, m ∈ ns → (∀ y, y ∈ ns → y ≤ m) → Q (.d (.int m)) μ
      | none => False)
    | _ => False)
  | _ => False
def gMinL : GC := fun xs μ Q => match xs with
  | [x] => (match view μ x with
    | some (false, ys) => (match intsOf ys with
      | some ns => 0 < ns.length ∧ ∀ m, m ∈ ns → (∀ y, y ∈ ns → m ≤ y) → Q (.d (.int m)) μ
      | none => False)
    | _ => False)
  | _ => False
theorem dc_maxL (hc : X.calm = true := by rfl) (hK : X.K = K := by rfl) : DCb K X (.builtin "max") (rMax K) gMaxL := by
  subst hK
  refine ⟨cr_max hc, fun F α μ H vs xs Q Q' R r h k => ?_⟩
  unfold gMaxL at h
  split at h
  · cases r with
    | cons r1 r2 =>
      cases r2
      split at h
      · rename_i ys e1
        split at h
        · rename_i ns e2
          obtain ⟨a, ws, rfl, h1, d1⟩ := view_list R r1 e1
          rw [intsOf_eq e2] at d1
          have ew := dq_ints d1
          subst ew
          exact ⟨a, ns, rfl, SqL.of h1, h.1, fun m m1 m2 => k.same R (.ofD (.int m)) (h.2 m m1 m2)⟩
        · cases h
      · cases h
  · cases h
theorem dc_minL (hc : X.calm = true := by rfl) (hK : X.K = K := by rfl) : DCb K X (.builtin "min") (rMin K) gMinL := by
  subst hK
  refine ⟨cr_min hc, fun F α μ H vs xs Q Q' R r h k => ?_⟩
  unfold gMinL at h
  split at h
  · cases r with
    | cons r1 r2 =>
      cases r2
      split at h
      · rename_i ys e1
        split at h
        · rename_i ns e2
          obtain ⟨a, ws, rfl, h1, d1⟩ := view_list R r1 e1
          rw [intsOf_eq e2] at d1
          have ew := dq_ints d1
          subst ew
          exact ⟨a, ns, rfl, SqL.of h1, h.1, fun m m1 m2 => k.same R (.ofD (.int m)) (h.2 m m1 m2)⟩
        · cases h
      · cases h
  · cases h
end
/-! ### equations -/
section
variable {i j : Int} {x y z v : SV} {d e : PyData} {s : Str} {xs : List PyData} {kvs : Kvs} {ky : Key} {μ ν : Mu} {Q : KD} {QA : List SV → Mu → Prop} {σ : Sl} {wa wb wc wv wo wi : DE} {N : Sl → Mu → Prop} {D : DEnds} {k l : Nat} {neg : Bool}
def kDG2 (x : SV) (Q : KD) : KD := fun y μ => kDGet Q μ (keyOf y) (dkAt μ x)
def kDG1 (wb : DE) (σ : Sl) (Q : KD) : KD := fun x μ => wb σ μ (kDG2 x Q)
def kDI2 (neg : Bool) (y : SV) (Q : KD) : KD := fun x μ => kDIn neg Q μ (keyOf y) (dkAt μ x)
def kDI1 (neg : Bool) (wb : DE) (σ : Sl) (Q : KD) : KD := fun y μ => wb σ μ (kDI2 neg y Q)
def kDP3 (N : Sl → Mu → Prop) (σ : Sl) (v x : SV) : KD := fun i μ => kDPut N σ v μ (keyOf i) (dkAt μ x)
def kDP2 (wi : DE) (N : Sl → Mu → Prop) (σ : Sl) (v : SV) : KD := fun x μ => wi σ μ (kDP3 N σ v x)
def kDP1 (wo wi : DE) (N : Sl → Mu → Prop) (σ : Sl) : KD := fun v μ => wo σ μ (kDP2 wi N σ v)
def kGO3 (x y : SV) (Q : KD) : KD := fun z μ => kDGetO Q z μ (keyOf y) (dkAt μ x)
def kGO2 (wc : DE) (σ : Sl) (x : SV) (Q : KD) : KD := fun y μ => wc σ μ (kGO3 x y Q)
def kGO1 (wb wc : DE) (σ : Sl) (Q : KD) : KD := fun x μ => (∃ r, dkAt μ x = some r) ∧ wb σ μ (kGO2 wc σ x Q)
def kGOv (Q : KD) (z : SV) (μ : Mu) : Option PyData → Prop
  | some d => Q (.d d) μ
  | none => Q z μ
def dkOf (k : Nat) : Option Cel → Option (Nat × Kvs)
  | some (.dk xs) => some (k, xs)
  | _ => none
theorem q_dnew : dDNew σ μ Q = Q (.loc μ.length) (μ ++ [.dk []]) := rfl
theorem q_dget : dDGet wa wb σ μ Q = wa σ μ (kDG1 wb σ Q) := rfl
theorem k_dg1 : kDG1 wb σ Q x μ = wb σ μ (kDG2 x Q) := rfl
theorem k_dg2 : kDG2 x Q y μ = kDGet Q μ (keyOf y) (dkAt μ x) := rfl
theorem k_dget : kDGet Q μ (some ky) (some (k, kvs)) = kIx1 Q μ (valD kvs ky) := by
  unfold kDGet kIx1
  rfl
theorem q_din : dDIn neg wa wb σ μ Q = wa σ μ (kDI1 neg wb σ Q) := rfl
theorem k_di1 : kDI1 neg wb σ Q y μ = wb σ μ (kDI2 neg y Q) := rfl
theorem k_di2 : kDI2 neg y Q x μ = kDIn neg Q μ (keyOf y) (dkAt μ x) := rfl
theorem k_dinF : kDIn false Q μ (some ky) (some (k, kvs)) = Q (.d (.bool (valD kvs ky).isSome)) μ := rfl
theorem k_dinT : kDIn true Q μ (some ky) (some (k, kvs)) = Q (.d (.bool (!(valD kvs ky).isSome))) μ := rfl
theorem s_dput : dDPut wv wo wi D σ μ = wv σ μ (kDP1 wo wi D.nx σ) := rfl
theorem k_dp1 : kDP1 wo wi N σ v μ = wo σ μ (kDP2 wi N σ v) := rfl
theorem k_dp2 : kDP2 wi N σ v x μ = wi σ μ (kDP3 N σ v x) := rfl
theorem k_dp3 : kDP3 N σ v x y μ = kDPut N σ v μ (keyOf y) (dkAt μ x) := rfl
theorem k_dput : kDPut N σ (.d d) μ (some ky) (some (k, kvs)) = (kvs.length < sizeLine ∧ N σ (μ.set k (.dk (putD kvs ky d)))) := rfl
theorem q_dget2 : dDGet2 wa wb wc σ μ Q = wa σ μ (kGO1 wb wc σ Q) := rfl
theorem k_go1 : kGO1 wb wc σ Q x μ = ((∃ r, dkAt μ x = some r) ∧ wb σ μ (kGO2 wc σ x Q)) := rfl
theorem k_go2 : kGO2 wc σ x Q y μ = wc σ μ (kGO3 x y Q) := rfl
theorem k_go3 : kGO3 x y Q z μ = kDGetO Q z μ (keyOf y) (dkAt μ x) := rfl
theorem k_dgetO : kDGetO Q z μ (some ky) (some (k, kvs)) = kGOv Q z μ (valD kvs ky) := by
  unfold kDGetO kGOv
  rfl
theorem k_goS : kGOv Q z μ (some d) = Q (.d d) μ := rfl
theorem k_goN : kGOv Q z μ none = Q z μ := rfl
theorem ky_int : keyOf (.d (.int i)) = some (.inl i) := rfl
theorem ky_str : keyOf (.d (.str s)) = some (.inr s) := rfl
theorem d_at : dkAt μ (.loc k) = dkOf k μ[k]? := by
  simp only [dkAt, dkOf]
  all_goals
    cases h : μ[k]? with
    | none => rfl
    | some c => cases c <;> rfl
theorem d_at1 : dkOf k (some (.dk kvs)) = some (k, kvs) := rfl
theorem ex_some {p : Nat × Kvs} : (∃ r, some p = some r) = True := eq_true ⟨p, rfl⟩
theorem k_lenD : kLen Q μ (some (.dk kvs)) = Q (.d (.int kvs.length)) μ := rfl
theorem g_maxL : gMaxL [.d (.list xs)] μ Q = (match intsOf xs with
  | some ns => 0 < ns.length ∧ ∀ m, m ∈ ns → (∀ y, y ∈ ns → y ≤ m) → Q (.d (.int m)) μ
  | none => False) := rfl
theorem g_minL : gMinL [.d (.list xs)] μ Q = (match intsOf xs with
  | some ns => 0 < ns.length ∧ ∀ m, m ∈ ns → (∀ y, y ∈ ns → m ≤ y) → Q (.d (.int m)) μ
  | none => False) := rfl
end
/-! ### what a dict of numbers holds -/
/-- the numbers told, each with what it was told -/
def dkvs (l : List (Int × PyData)) : Kvs := l.map fun p => (Sum.inl p.1, p.2)
theorem valD_nil {k : Key} : valD [] k = none := rfl
theorem valD_put {ds : Kvs} {k j : Key} {d : PyData} : valD (putD ds k d) j = if j = k then some d else valD ds j := by
  unfold putD
  by_cases h : (ds.any fun kv => decide (kv.1 = k)) = true
  · rw [if_pos h]
    have key : ∀ l : Kvs, (l.any fun kv => decide (kv.1 = k)) = true → valD (l.map fun kv => if kv.1 = k then (kv.1, d) else kv) j = if j = k then some d else valD l j := by
      intro l
      induction l with
      | nil => intro h; cases h
      | cons p r ih =>
        intro hl
        unfold valD at ih ⊢
        rw [List.map_cons, List.find?_cons, List.find?_cons]
        by_cases e : p.1 = k
        · rw [if_pos e]
          by_cases ej : j = k
          · subst ej
            simp [e]
          · have : ¬k = j := fun z => ej z.symm
            simp only [e, this, decide_false, if_neg ej]
            have hsame : ∀ l : Kvs, ((l.map fun kv => if kv.1 = k then (kv.1, d) else kv).find? fun kv => decide (kv.1 = j)).map (·.2) = (l.find? fun kv => decide (kv.1 = j)).map (·.2) := by
              intro l
              induction l with
              | nil => rfl
              | cons q t ih2 =>
                rw [List.map_cons, List.find?_cons, List.find?_cons]
                by_cases eq : q.1 = k
                · rw [if_pos eq]
                  simp only [eq, this, decide_false]
                  exact ih2
                · rw [if_neg eq]
                  by_cases eq2 : q.1 = j
                  · simp [eq2]
                  · simp only [eq2, decide_false]
                    exact ih2
            exact hsame r
        · rw [if_neg e]
          by_cases ej : p.1 = j
          · have : ¬j = k := fun z => e (by rw [ej, z])
            simp [ej, this]
          · simp only [ej, decide_false]
            refine ih ?_
            rw [List.any_cons] at hl
            simpa [e] using hl
    exact key ds h
  · rw [if_neg h]
    have hn : ∀ kv ∈ ds, ¬kv.1 = k := by
      intro kv hk e
      exact h (List.any_eq_true.mpr ⟨kv, hk, decide_eq_true e⟩)
    unfold valD
    rw [List.find?_append]
    by_cases ej : j = k
    · subst ej
      have : (ds.find? fun kv => decide (kv.1 = j)) = none := List.find?_eq_none.mpr fun kv hk => by simpa using hn kv hk
      rw [this, if_pos rfl]
      simp
    · rw [if_neg ej]
      have : ¬k = j := fun z => ej z.symm
      cases (ds.find? fun kv => decide (kv.1 = j)) with
      | some q => rfl
      | none => simp [this]
theorem putD_len {ds : Kvs} {k : Key} {d : PyData} : (putD ds k d).length ≤ ds.length + 1 := by
  unfold putD
  split
  · rw [List.length_map]; omega
  · rw [List.length_append]; simp
theorem units1 {k : Nat} {A : Around} (r : Room k A) : A.units + 1 < cLine := Nat.lt_of_le_of_lt (Nat.add_le_add_left (by decide) _) (units65 r)
end DL
/-! DLt: lists of numbers, loops and comprehensions over coded lists. -/
namespace DL
open PySem PySem.Spec PyProof.Rows L2
def intsD (l : List Nat) : List PyData := l.map fun d : Nat => PyData.int (d : Int)
def zsD (l : List Int) : List PyData := l.map PyData.int
theorem intsD_len {l : List Nat} : (intsD l).length = l.length := List.length_map _
theorem zsD_len {l : List Int} : (zsD l).length = l.length := List.length_map _
theorem intsD_nil : intsD [] = [] := rfl
theorem intsD_cons {a : Nat} {l : List Nat} : intsD (a :: l) = .int (a : Int) :: intsD l := rfl
theorem intsD_app {l m : List Nat} : intsD l ++ intsD m = intsD (l ++ m) := List.map_append.symm
theorem intsD_push {l : List Nat} {d : Nat} : intsD l ++ [.int (d : Int)] = intsD (l ++ [d]) := by simp [intsD]
theorem zsD_push {l : List Int} {d : Int} : zsD l ++ [.int d] = zsD (l ++ [d]) := by simp [zsD]
theorem intsD_ints {l : List Nat} : intsOf (intsD l) = some (l.map fun d : Nat => (d : Int)) := ints_map
theorem zsD_ints {l : List Int} : intsOf (zsD l) = some l := by
  have := ints_map (f := fun i : Int => i) (l := l)
  rwa [List.map_id'] at this
theorem intsD_get {xs : List Nat} {i v : Nat} (h : xs[i]? = some v) : (intsD xs)[i]? = some (.int (v : Int)) := by
  unfold intsD
  rw [List.getElem?_map, h]
  rfl
theorem zsD_get {xs : List Int} {i : Nat} {v : Int} (h : xs[i]? = some v) : (zsD xs)[i]? = some (.int v) := by
  unfold zsD
  rw [List.getElem?_map, h]
  rfl
theorem intsD_mem {l : List Nat} {x : PyData} (h : x ∈ intsD l) : ∃ d ∈ l, x = .int (d : Int) := by
  obtain ⟨d, h1, h2⟩ := List.mem_map.mp h
  exact ⟨d, h1, h2.symm⟩
theorem intsD_at {xs : List Nat} {i : Int} {j v : Nat} (hi : i = (j : Int)) (h : xs[j]? = some v) : atI (intsD xs) i = some (.int (v : Int)) := atI_eq hi (intsD_get h)
theorem intsD_last {pre : List Nat} {m : Nat} : atI (intsD (pre ++ [m])) (-1) = some (.int (m : Int)) := atI_neg (j := pre.length) (by omega) (by rw [intsD_len, List.length_append, List.length_singleton]; omega) (intsD_get (by simp))
theorem intsD_rev {l : List Nat} : (intsD l).reverse = intsD l.reverse := by simp [intsD]
theorem intsD_take {l : List Nat} {n : Nat} : (intsD l).take n = intsD (l.take n) := by simp [intsD]
theorem intsD_drop {l : List Nat} {n : Nat} : (intsD l).drop n = intsD (l.drop n) := by simp [intsD]
theorem intsD_init {l : List Nat} : (intsD l).dropLast = intsD l.dropLast := by
  unfold intsD
  rw [List.map_dropLast]
theorem intsD_rep {m a : Nat} : (List.replicate m [PyData.int (a : Int)]).flatten = intsD (List.replicate m a) := by
  unfold intsD
  rw [List.map_replicate]
  induction m with
  | zero => rfl
  | succ m ih => rw [List.replicate_succ, List.replicate_succ, List.flatten_cons, ih]; rfl
theorem rng_ints {n : Nat} : rngD 0 1 n = intsD (List.range n) := by
  unfold rngD intsD
  refine List.map_congr_left fun i _ => ?_
  simp
theorem rng_ints2 {a n : Nat} : rngD (a : Int) 1 n = intsD (List.range' a n) := by
  unfold rngD intsD
  rw [List.range'_eq_map_range, List.map_map]
  refine List.map_congr_left fun i _ => ?_
  simp
theorem cut_less {xs : List PyData} : cutD xs none (some (-1)) = xs.dropLast := by
  unfold cutD HT.sIx
  rw [List.dropLast_eq_take]
  simp
  omega
theorem shaped_intsD {l : List Nat} : SeqAt.shaped (.list (intsD l)) = true := shaped_ints (f := fun d : Nat => (d : Int)) (xs := l)
theorem shaped_intsDT {l : List Nat} : SeqAt.shaped (.tuple (intsD l)) = true := shaped_intsT (f := fun d : Nat => (d : Int)) (xs := l)
theorem shaped_zsD {l : List Int} : SeqAt.shaped (.list (zsD l)) = true := shaped_ints (f := fun d : Int => d) (xs := l)
theorem shaped_zsDT {l : List Int} : SeqAt.shaped (.tuple (zsD l)) = true := shaped_intsT (f := fun d : Int => d) (xs := l)
theorem eqvAll_ints : ∀ {a b : List Nat}, PyData.eqvAll (intsD a) (intsD b) = decide (a = b)
  | [], [] => rfl
  | [], _ :: _ => rfl
  | _ :: _, [] => rfl
  | x :: r, y :: t => by
    show PyData.eqvAll (.int (x : Int) :: intsD r) (.int (y : Int) :: intsD t) = _
    rw [PyData.eqvAll, eqvAll_ints]
    by_cases h : x = y
    · subst h
      simp [PyData.eqv]
    · have : ¬((x : Int) = (y : Int)) := fun z => h (Int.ofNat.inj z)
      simp [PyData.eqv, h, this]
theorem eqv_intsD {a b : List Nat} : PyData.eqv (.list (intsD a)) (.list (intsD b)) = decide (a = b) := eqvAll_ints
theorem eqv_intsDT {a b : List Nat} : PyData.eqv (.tuple (intsD a)) (.tuple (intsD b)) = decide (a = b) := eqvAll_ints
theorem eqv_emptyD {l : List Nat} : PyData.eqv (.list (intsD l)) (.list []) = decide (l = []) := eqvAll_ints (b := [])
def kVarF (Q : KD) (μ : Mu) (k : Nat) : Option Cel → Prop
  | some (.lst xs) => Q (.d (.list xs)) (μ.set k (.frz xs))
  | some (.frz xs) => Q (.d (.list xs)) μ
  | _ => False
theorem e_varFL {μ : Mu} {Q : KD} {k : Nat} {r : Sl} : dVarF 0 (some (.loc k) :: r) μ Q = kVarF Q μ k μ[k]? := by
  unfold dVarF kVarF
  simp only [List.getElem?_cons_zero]
  all_goals (rcases μ[k]? with _ | c)
  all_goals first | rfl | (cases c <;> rfl)
theorem k_varF {μ : Mu} {Q : KD} {k : Nat} {xs : List PyData} : kVarF Q μ k (some (.lst xs)) = Q (.d (.list xs)) (μ.set k (.frz xs)) := rfl
theorem k_varF2 {μ : Mu} {Q : KD} {k : Nat} {xs : List PyData} : kVarF Q μ k (some (.frz xs)) = Q (.d (.list xs)) μ := rfl
def kSumC (Q : KD) (μ : Mu) : Option (Bool × List PyData) → Prop
  | some (false, xs) => kSum1 Q μ (intsOf xs)
  | _ => False
theorem q_sumC {μ : Mu} {Q : KD} {k : Nat} : gSum [.loc k] μ Q = kSumC Q μ (view μ (.loc k)) := by
  show (match view μ (.loc k) with
    | some (false, ys) => (match intsOf ys with
      | some ns => Q (.d (.int ns.sum)) μ
      | none => False)
    | _ => False) = _
  generalize view μ (.loc k) = v
  rcases v with _ | ⟨b, xs⟩
  · rfl
  · cases b
    · show (match intsOf xs with
      | some ns => Q (.d (.int ns.sum)) μ
      | none => False) = kSum1 Q μ (intsOf xs)
      cases intsOf xs <;> rfl
    · rfl
theorem k_sumC {μ : Mu} {Q : KD} {xs : List PyData} : kSumC Q μ (some (false, xs)) = kSum1 Q μ (intsOf xs) := rfl
def kEqC (a : PyData) (Q : KD) (μ : Mu) : Option Cel → Prop
  | some (.frz xs) => (SeqAt.shaped (.list xs) = true ∧ SeqAt.shaped a = true) ∧ Q (.d (.bool (PyData.eqv (.list xs) a))) μ
  | some (.lst xs) => (SeqAt.shaped (.list xs) = true ∧ SeqAt.shaped a = true) ∧ Q (.d (.bool (PyData.eqv (.list xs) a))) μ
  | _ => False
theorem asD_at {μ : Mu} {k : Nat} : asD μ (.loc k) = (match μ[k]? with
    | some (.lst xs) => some (.list xs)
    | some (.frz xs) => some (.list xs)
    | _ => none) := rfl
theorem g_eqCL {μ : Mu} {Q : KD} {k : Nat} {ys : List PyData} : gEq (.loc k) (.d (.list ys)) μ Q = kEqC (.list ys) Q μ μ[k]? := by
  show (match asD μ (.loc k), some (PyData.list ys) with
    | some a, some b => (SeqAt.shaped a = true ∧ SeqAt.shaped b = true) ∧ Q (.d (.bool (PyData.eqv a b))) μ
    | _, _ => False) = _
  rw [asD_at]
  generalize μ[k]? = v
  rcases v with _ | c
  · rfl
  · cases c <;> rfl
theorem k_eqC {μ : Mu} {Q : KD} {a : PyData} {xs : List PyData} : kEqC a Q μ (some (.lst xs)) = ((SeqAt.shaped (.list xs) = true ∧ SeqAt.shaped a = true) ∧ Q (.d (.bool (PyData.eqv (.list xs) a))) μ) := rfl
def kInC (d : PyData) (Q : KD) (μ : Mu) : Option (Bool × List PyData) → Prop
  | some (false, xs) => (SeqAt.shaped d = true ∧ SeqAt.shaped (.list xs) = true) ∧ Q (.d (.bool (xs.any fun z => PyData.eqv z d))) μ
  | _ => False
theorem g_inNC {μ : Mu} {Q : KD} {k : Nat} : gIn (.d .none) (.loc k) μ Q ↔ kInC .none Q μ (view μ (.loc k)) := by
  show (match some PyData.none, view μ (.loc k) with
    | some d, some (false, xs) => (SeqAt.shaped d = true ∧ SeqAt.shaped (.list xs) = true) ∧ Q (.d (.bool (xs.any fun z => PyData.eqv z d))) μ
    | some d, some (true, xs) => (flatD d = true ∧ xs.all flatD = true) ∧ Q (.d (.bool (xs.any fun z => PyData.eqv z d))) μ
    | _, _ => False) ↔ _
  have hv : ∀ xs, view μ (.loc k) ≠ some (true, xs) := by
    intro xs
    rw [v_at]
    rcases μ[k]? with _ | c
    · simp [viewAt]
    · cases c <;> simp [viewAt]
  cases h : view μ (.loc k) with
  | none => exact Iff.rfl
  | some p =>
    obtain ⟨b, xs⟩ := p
    cases b with
    | false => exact Iff.rfl
    | true => exact absurd h (hv xs)
theorem k_inC {μ : Mu} {Q : KD} {d : PyData} {xs : List PyData} : kInC d Q μ (some (false, xs)) = ((SeqAt.shaped d = true ∧ SeqAt.shaped (.list xs) = true) ∧ Q (.d (.bool (xs.any fun z => PyData.eqv z d))) μ) := rfl
theorem c_andF {a : Prop} [Decidable a] {wu : DT} {σ : Sl} {QB : Bool → Mu → Prop} {μ : Mu} (h1 : a → ∀ K : Bool → Mu → Prop, K false μ → wu σ μ K) (h2 : QB false μ) : kAnd wu σ QB (decide a) μ := c_and (fun c => h1 c _ h2) fun _ => h2
theorem rng_down {i j : Int} (ha : -(2 ^ 62) ≤ i) (ha' : i < 2 ^ 62) (hb : -(2 ^ 62) ≤ j) (hb' : j < 2 ^ 62) : (∃ n, L2.RgC i j (-1) n) ∧ (Builtin.Range.rangeSize i j (-1)).toNat = (i - j).toNat := by
  have h := L2.RgC.neg ha ha' hb hb'
  exact ⟨⟨_, h⟩, by rw [h.2.2.2]; rfl⟩
theorem ixN_natD {n j : Nat} (hj : j < n) : L2.ixN n (j : Int) = some j := by
  unfold L2.ixN
  rw [if_pos (by omega), if_pos (by omega)]
  simp
def boolsD (n : Nat) (f : Nat → Bool) : List PyData := (List.range n).map fun j => PyData.bool (f j)
theorem boolsD_len {n : Nat} {f : Nat → Bool} : (boolsD n f).length = n := by unfold boolsD; rw [List.length_map, List.length_range]
theorem boolsD_get {n j : Nat} {f : Nat → Bool} (h : j < n) : (boolsD n f)[j]? = some (.bool (f j)) := by
  unfold boolsD
  rw [List.getElem?_map, List.getElem?_range h]
  rfl
theorem boolsD_at {n j : Nat} {i : Int} {f : Nat → Bool} (hi : i = (j : Int)) (h : j < n) : atI (boolsD n f) i = some (.bool (f j)) := atI_eq hi (boolsD_get h)
theorem boolsD_set {n j : Nat} {f : Nat → Bool} {b : Bool} : (boolsD n f).set j (.bool b) = boolsD n fun i => if i = j then b else f i := by
  refine List.ext_getElem? fun i => ?_
  rw [List.getElem?_set, boolsD_len]
  rcases Nat.lt_or_ge i n with q | q
  · rw [boolsD_get q, boolsD_get q]
    by_cases e : j = i
    · subst e; rw [if_pos rfl, if_pos q, if_pos rfl]
    · rw [if_neg e, if_neg fun z => e z.symm]
  · rw [List.getElem?_eq_none (by rw [boolsD_len]; exact q), List.getElem?_eq_none (by rw [boolsD_len]; exact q)]
    split
    · rw [if_neg (by omega)]
    · rfl
theorem boolsD_rep {n : Nat} {b : Bool} : (List.replicate n [PyData.bool b]).flatten = boolsD n fun _ => b := by
  unfold boolsD
  rw [List.map_const', List.length_range]
  induction n with
  | zero => rfl
  | succ m ih => rw [List.replicate_succ, List.replicate_succ, List.flatten_cons, ih]; rfl
theorem rng_up {i j c : Nat} (hc : 1 ≤ c) (h1 : c < 1073741824) (h2 : i < 2 ^ 62) (h3 : j < 2 ^ 61) : (∃ n, L2.RgC (i : Int) (j : Int) (c : Int) n) ∧ (Builtin.Range.rangeSize (i : Int) (j : Int) (c : Int)).toNat = (if i < j then (j - i - 1) / c + 1 else 0) := by
  have e : Builtin.Range.rangeSize (i : Int) (j : Int) (c : Int) = ((if i < j then (j - i - 1) / c + 1 else 0 : Nat) : Int) := by
    unfold Builtin.Range.rangeSize
    rw [if_pos (by omega)]
    by_cases g : i < j
    · rw [if_pos (by omega), if_pos g, show (j : Int) - (i : Int) - 1 = ((j - i - 1 : Nat) : Int) by omega]
      rfl
    · rw [if_neg (by omega), if_neg g]
      rfl
  refine ⟨⟨_, by omega, by omega, ?_, e⟩, by rw [e]; rfl⟩
  unfold Builtin.Range.small
  rw [e]
  simp only [Builtin.Range.rangeFitsLong, Bool.and_eq_true, Bool.or_eq_true, decide_eq_true_eq, beq_iff_eq]
  have hd : (j - i - 1) / c ≤ j := Nat.le_trans (Nat.div_le_self _ _) (by omega)
  generalize (j - i - 1) / c = q at hd
  rw [if_pos (by omega : (c : Int) > 0)]
  simp only [Bool.and_eq_true, decide_eq_true_eq]
  refine ⟨⟨⟨⟨⟨by omega, by omega⟩, by omega, by omega⟩, by omega, by omega⟩, ?_, ?_⟩, .inr ⟨by omega, by omega⟩⟩
  · split <;> omega
  · split <;> omega
/-! what may be compared, by depth -/
def Shp (n : Nat) (x : PyData) : Prop := x.canLay0 = true ∧ x.depth ≤ n
theorem shp_all {n : Nat} : ∀ {ds : List PyData}, (∀ x ∈ ds, Shp n x) → PyData.canLayAll0 ds = true ∧ PyData.depthAll ds ≤ n
  | [], _ => ⟨rfl, Nat.zero_le _⟩
  | x :: r, h => by
    have h1 := h x List.mem_cons_self
    have h2 := shp_all (ds := r) fun y hy => h y (List.mem_cons_of_mem _ hy)
    refine ⟨?_, ?_⟩
    · rw [PyData.canLayAll0, h1.1, h2.1]; rfl
    · rw [PyData.depthAll]; exact Nat.max_le.mpr ⟨h1.2, h2.2⟩
theorem shp_lst {n : Nat} {ds : List PyData} (h : ∀ x ∈ ds, Shp n x) : Shp (n + 1) (.list ds) := by
  have := shp_all h
  refine ⟨by rw [PyData.canLay0]; exact this.1, by rw [PyData.depth]; omega⟩
theorem shp_tup {n : Nat} {ds : List PyData} (h : ∀ x ∈ ds, Shp n x) : Shp (n + 1) (.tuple ds) := by
  have := shp_all h
  refine ⟨by rw [PyData.canLay0]; exact this.1, by rw [PyData.depth]; omega⟩
theorem shp_int {n : Nat} {i : Int} : Shp n (.int i) := ⟨by rw [PyData.canLay0], by rw [PyData.depth]; omega⟩
theorem shp_ints {n : Nat} {l : List Nat} : ∀ x ∈ intsD l, Shp n x := fun x hx => by
  obtain ⟨d, _, rfl⟩ := intsD_mem hx
  exact shp_int
theorem Shp.shaped {n : Nat} {x : PyData} (h : Shp n x) (hn : n ≤ 64) : SeqAt.shaped x = true := by
  unfold SeqAt.shaped
  rw [h.1, Bool.true_and, decide_eq_true_eq]
  exact Nat.le_trans h.2 hn
theorem flat_ints {l : List Nat} : (intsD l).all flatD = true := by
  rw [List.all_eq_true]
  intro x hx
  obtain ⟨d, _, rfl⟩ := intsD_mem hx
  rfl
theorem any_intsD {l : List Nat} {n : Nat} : ((intsD l).any fun z => PyData.eqv z (.int (n : Int))) = decide (n ∈ l) := by
  rw [Bool.eq_iff_iff, List.any_eq_true, decide_eq_true_eq]
  constructor
  · rintro ⟨x, hx, h⟩
    obtain ⟨d, hd, rfl⟩ := intsD_mem hx
    rw [PyData.eqv, beq_iff_eq] at h
    rw [← Int.ofNat.inj h]
    exact hd
  · intro h
    exact ⟨_, List.mem_map.mpr ⟨n, h, rfl⟩, by rw [PyData.eqv, beq_iff_eq]⟩
theorem g_inTL {xs ys : List PyData} {μ : Mu} {Q : KD} : gIn (.d (.tuple xs)) (.d (.list ys)) μ Q = ((SeqAt.shaped (.tuple xs) = true ∧ SeqAt.shaped (.list ys) = true) ∧ Q (.d (.bool (ys.any fun z => PyData.eqv z (.tuple xs)))) μ) := rfl
theorem g_inIL {i : Int} {ys : List PyData} {μ : Mu} {Q : KD} : gIn (.d (.int i)) (.d (.list ys)) μ Q = ((SeqAt.shaped (.int i) = true ∧ SeqAt.shaped (.list ys) = true) ∧ Q (.d (.bool (ys.any fun z => PyData.eqv z (.int i)))) μ) := rfl
theorem g_niIL {i : Int} {ys : List PyData} {μ : Mu} {Q : KD} : gNotIn (.d (.int i)) (.d (.list ys)) μ Q = ((SeqAt.shaped (.int i) = true ∧ SeqAt.shaped (.list ys) = true) ∧ Q (.d (.bool (!(ys.any fun z => PyData.eqv z (.int i))))) μ) := rfl
theorem log2_two {m N : Nat} (h : m < 2 ^ N) (hN : 1 ≤ N) : m.log2 < N := by
  by_cases h0 : m = 0
  · rw [h0]
    exact hN
  · exact (Nat.log2_lt h0).mpr h
theorem divOk_two {m : Nat} (h : 0 < m) (h2 : m < 2 ^ 4000) : DivOk (m : Int) := ⟨by omega, Nat.lt_trans (log2_two h2 (by decide)) (by decide)⟩
theorem divOk_eight {m : Nat} (h : 0 < m) (h2 : m < 2 ^ 8000) : DivOk (m : Int) := ⟨by omega, Nat.lt_trans (log2_two h2 (by decide)) (by decide)⟩
theorem mulOk_two {i j : Nat} (h : i < 2 ^ 400000) (h2 : j < 2 ^ 400000) : MulOk (i : Int) (j : Int) := .inr (show _ < _ by
  have a := log2_two h (by decide)
  have b := log2_two h2 (by decide)
  rw [Int.natAbs_natCast, Int.natAbs_natCast]
  omega)
theorem flt_none {α β : Type} (l : List α) : l.filterMap (fun _ => (none : Option β)) = [] := by
  induction l with
  | nil => rfl
  | cons a r ih => rw [List.filterMap_cons]; exact ih
section
variable {xs ys ds : List PyData} {μ ν : Mu} {Q : KD} {QN : List PyData → Mu → Prop} {σ : Sl} {w : DE} {wt : DT} {D : DEnds} {sa : DS} {tg : DG} {α : Type}
/-- a loop over a coded list -/
theorem i_loopE (enc : α → PyData) {l : List α} (I : List α → Sl → Mu → Prop) (h0 : I l σ μ) (hn : ∀ σ μ, I [] σ μ → D.nx σ μ)
    (hs : ∀ x r σ μ, I (x :: r) σ μ → ∀ N : Sl → Mu → Prop, (∀ σ' μ', I r σ' μ' → N σ' μ') → tg (enc x) σ (kTo (sa { D with nx := N, ct := N, bk := D.nx }) μ)) : dLoop tg sa D (l.map enc) σ μ := by
  refine i_loop (I := fun rest σ μ' => ∃ r : List α, rest = r.map enc ∧ I r σ μ') ⟨l, rfl, h0⟩ ?_ ?_
  · rintro σ μ' ⟨r, e, h⟩
    cases r with
    | nil => exact hn _ _ h
    | cons a t => cases e
  · rintro x rest σ μ' ⟨r, e, h⟩ N hN
    cases r with
    | nil => cases e
    | cons a t =>
      cases e
      exact hs a t _ _ h N fun σ' μ' q => hN _ _ ⟨t, rfl, q⟩
/-- a comprehension over a coded list -/
theorem i_fm (enc : α → PyData) {l : List α} (f : α → Option PyData) (hl : l.length ≤ sizeLine) (hs : ∀ a ∈ l, ∀ (T : KD) (E : Mu → Prop), (∀ d, f a = some d → T (.d d) μ) → (f a = none → E μ) → tg (enc a) σ (kCo1 wt w T E μ)) (hn : QN (l.filterMap f) μ) : dComp tg wt w σ QN (l.map enc) [] μ := by
  refine i_comp (I := fun r acc μ' => μ' = μ ∧ ∃ q t, l = q ++ t ∧ r = t.map enc ∧ acc = q.filterMap f) ⟨rfl, [], l, rfl, rfl, rfl⟩ (fun acc μ' h => ?_) fun x r acc μ' h T E hT hE => ?_
  · obtain ⟨rfl, q, t, e1, e2, rfl⟩ := h
    cases t with
    | nil => rw [List.append_nil] at e1; subst e1; exact hn
    | cons a t => cases e2
  · obtain ⟨rfl, q, t, e1, e2, rfl⟩ := h
    cases t with
    | nil => cases e2
    | cons a t =>
      cases e2
      subst e1
      refine hs a (by simp) T E (fun d hd => hT _ _ ?_ ⟨rfl, q ++ [a], t, by simp, rfl, by simp [hd]⟩) fun hd => hE _ ⟨rfl, q ++ [a], t, by simp, rfl, by simp [hd]⟩
      have := List.length_filterMap_le f q
      simp at hl ⊢
      omega
/-- with a test p and a value g -/
theorem i_fp (enc : α → PyData) {l : List α} (p : α → Bool) (g : α → PyData) (hl : l.length ≤ sizeLine) (hs : ∀ a ∈ l, ∀ (T : KD) (E : Mu → Prop), (p a = true → T (.d (g a)) μ) → (p a = false → E μ) → tg (enc a) σ (kCo1 wt w T E μ)) (hn : QN ((l.filter p).map g) μ) : dComp tg wt w σ QN (l.map enc) [] μ := by
  refine i_fm enc (fun a => if p a then some (g a) else none) hl (fun a ha T E hT hE => hs a ha T E (fun h => hT _ (by rw [if_pos h])) fun h => hE (by rw [h]; rfl)) ?_
  have e : ∀ l : List α, l.filterMap (fun a => if p a then some (g a) else none) = (l.filter p).map g := by
    intro l
    induction l with
    | nil => rfl
    | cons a r ih =>
      rw [List.filterMap_cons, List.filter_cons]
      cases h : p a
      · rw [ih]; rfl
      · simp [ih]
  rw [e]
  exact hn
/-- without a test -/
theorem i_mp (enc : α → PyData) {l : List α} (g : α → PyData) (hl : l.length ≤ sizeLine) (hs : ∀ a ∈ l, ∀ (T : KD) (E : Mu → Prop), T (.d (g a)) μ → tg (enc a) σ (kCo1 wt w T E μ)) (hn : QN (l.map g) μ) : dComp tg wt w σ QN (l.map enc) [] μ := by
  refine i_fp enc (fun _ => true) g hl (fun a ha T E hT hE => hs a ha T E (hT rfl)) ?_
  rw [List.filter_eq_self.mpr fun _ _ => rfl]
  exact hn
end
end DL
namespace DL
open PySem L2
variable {K : PySem.W.Frag} {X : Cx} {a b c : Expr} {tA : TA} {wA : DA} {pos : Pos}
/-- x, y = e, f where a name is one that a comprehension reads: the pair is built and taken apart -/
theorem ds_parC (i j : Nat) {x y : Str} {px py pt pt2 : Pos} {kt k2 : Nat} (hN : X.N.Nodup) (ha : DAa K X [a, b] tA wA) (hK : X.K = K := by rfl) (hij : i ≠ j := by decide) (hc : X.calm = true := by rfl) (hi : X.N[i]? = some x := by rfl) (hj : X.N[j]? = some y := by rfl)
    (hx : Loc X.env.scope x := by first | exact Or.inl rfl | exact Or.inr rfl) (hy : Loc X.env.scope y := by first | exact Or.inl rfl | exact Or.inr rfl)
    (fx : X.fn x = true ∨ X.env.scope.names.lookup x = some .local := by first | exact .inl rfl | exact .inr rfl) (fy : X.fn y = true ∨ X.env.scope.names.lookup y = some .local := by first | exact .inl rfl | exact .inr rfl)
    (hs2 : (assignEach [.Name y py] X.env).map (·.2) = assign (.Name y py) X.env :: (assignEach [] X.env).map (·.2) := by rfl)
    (hs1 : (assignEach [.Name x px, .Name y py] X.env).map (·.2) = assign (.Name x px) X.env :: (assignEach [.Name y py] X.env).map (·.2) := by rfl)
    (hn : (assignEach [.Name x px, .Name y py] X.env).length = 2 := by rfl) (hst : (assignEach [.Name x px, .Name y py] X.env).findIdx? (·.1) = none := by rfl)
    (hw : swappedStores [.Tuple [.Name x px, .Name y py] kt pt] (.Tuple [a, b] k2 pt2) X.env = pure none := by rfl)
    (hs : swapsWithSole [.Tuple [.Name x px, .Name y py] kt pt] (.Tuple [a, b] k2 pt2) pos.line X.env = pure false := by rfl)
    (h1 : (assignEach [.Tuple [.Name x px, .Name y py] kt pt] X.env).map (·.2) = [assign (.Tuple [.Name x px, .Name y py] kt pt) X.env] := by rfl) :
    DSt K X (.Assign [.Tuple [.Name x px, .Name y py] kt pt] (.Tuple [a, b] k2 pt2) pos) (tAsg (tTup tA) (gTup K 2 (gCons (gName i) (gCons (gName j) gNil)))) (dPar i j wA) := by
  subst hK
  refine ⟨ps_asg (pe_tup ha.pa) (pg_tup hc (pgs_cons (pg_name hN hi hx fx) (pgs_cons (pg_name hN hj hy fy) pgs_nil hs2) hs1) hn hst) hs hw h1, fun F α σ μ τ H D D' S hw k => ha.sim F α σ μ τ H _ _ S hw fun F1 α1 μ1 H1 vs xs e1 R1 r1 q1 => ?_⟩
  split at q1
  · cases r1 with
    | @cons v _ _ _ r r1 =>
      cases r1 with
      | @cons u _ _ _ r' r1 =>
        cases r1
        refine ⟨show 2 ≤ sizeLine by decide, fun p hp => ?_⟩
        obtain ⟨R2, e2⟩ := R1.fresh (o := .tup [v, u]) hp
        refine ⟨p, [v, u], rfl, .inl (.inl upd_same), rfl, v, [u], rfl, u, [], rfl, rfl, ?_⟩
        exact k.nx _ α1 _ μ1 _ _ (e1.trans e2) ⟨R2, ((S.sl.mono (e1.trans e2)).set i (r.mono e2)).set j (r'.mono e2)⟩ q1
  · cases q1

theorem ds_parC3 (i j l : Nat) {x y z : Str} {px py pz pt pt2 : Pos} {kt k2 : Nat} (hN : X.N.Nodup) (ha : DAa K X [a, b, c] tA wA) (hK : X.K = K := by rfl) (hij : i ≠ j := by decide) (hil : i ≠ l := by decide) (hjl : j ≠ l := by decide) (hc : X.calm = true := by rfl) (hi : X.N[i]? = some x := by rfl) (hj : X.N[j]? = some y := by rfl) (hl : X.N[l]? = some z := by rfl)
    (hx : Loc X.env.scope x := by first | exact Or.inl rfl | exact Or.inr rfl) (hy : Loc X.env.scope y := by first | exact Or.inl rfl | exact Or.inr rfl) (hz : Loc X.env.scope z := by first | exact Or.inl rfl | exact Or.inr rfl)
    (fx : X.fn x = true ∨ X.env.scope.names.lookup x = some .local := by first | exact .inl rfl | exact .inr rfl) (fy : X.fn y = true ∨ X.env.scope.names.lookup y = some .local := by first | exact .inl rfl | exact .inr rfl) (fz : X.fn z = true ∨ X.env.scope.names.lookup z = some .local := by first | exact .inl rfl | exact .inr rfl)
    (hs3 : (assignEach [.Name z pz] X.env).map (·.2) = assign (.Name z pz) X.env :: (assignEach [] X.env).map (·.2) := by rfl)
    (hs2 : (assignEach [.Name y py, .Name z pz] X.env).map (·.2) = assign (.Name y py) X.env :: (assignEach [.Name z pz] X.env).map (·.2) := by rfl)
    (hs1 : (assignEach [.Name x px, .Name y py, .Name z pz] X.env).map (·.2) = assign (.Name x px) X.env :: (assignEach [.Name y py, .Name z pz] X.env).map (·.2) := by rfl)
    (hn : (assignEach [.Name x px, .Name y py, .Name z pz] X.env).length = 3 := by rfl) (hst : (assignEach [.Name x px, .Name y py, .Name z pz] X.env).findIdx? (·.1) = none := by rfl)
    (hw : swappedStores [.Tuple [.Name x px, .Name y py, .Name z pz] kt pt] (.Tuple [a, b, c] k2 pt2) X.env = pure none := by rfl)
    (hs : swapsWithSole [.Tuple [.Name x px, .Name y py, .Name z pz] kt pt] (.Tuple [a, b, c] k2 pt2) pos.line X.env = pure false := by rfl)
    (h1 : (assignEach [.Tuple [.Name x px, .Name y py, .Name z pz] kt pt] X.env).map (·.2) = [assign (.Tuple [.Name x px, .Name y py, .Name z pz] kt pt) X.env] := by rfl) :
    DSt K X (.Assign [.Tuple [.Name x px, .Name y py, .Name z pz] kt pt] (.Tuple [a, b, c] k2 pt2) pos) (tAsg (tTup tA) (gTup K 3 (gCons (gName i) (gCons (gName j) (gCons (gName l) gNil))))) (dPar3 i j l wA) := by
  subst hK
  refine ⟨ps_asg (pe_tup ha.pa) (pg_tup hc (pgs_cons (pg_name hN hi hx fx) (pgs_cons (pg_name hN hj hy fy) (pgs_cons (pg_name hN hl hz fz) pgs_nil hs3) hs2) hs1) hn hst) hs hw h1, fun F α σ μ τ H D D' S hw k => ha.sim F α σ μ τ H _ _ S hw fun F1 α1 μ1 H1 vs xs e1 R1 r1 q1 => ?_⟩
  split at q1
  · cases r1 with
    | @cons v _ _ _ r r1 =>
      cases r1 with
      | @cons u _ _ _ r' r1 =>
        cases r1 with
        | @cons w _ _ _ r'' r1 =>
          cases r1
          refine ⟨show 3 ≤ sizeLine by decide, fun p hp => ?_⟩
          obtain ⟨R2, e2⟩ := R1.fresh (o := .tup [v, u, w]) hp
          refine ⟨p, [v, u, w], rfl, .inl (.inl upd_same), rfl, v, [u, w], rfl, u, [w], rfl, w, [], rfl, rfl, ?_⟩
          exact k.nx _ α1 _ μ1 _ _ (e1.trans e2) ⟨R2, (((S.sl.mono (e1.trans e2)).set i (r.mono e2)).set j (r'.mono e2)).set l (r''.mono e2)⟩ q1
  · cases q1

/-! sorted(d) of a dict whose keys are whole numbers -/
def keysI : Kvs → Option (List Int)
  | [] => some []
  | (.inl i, _) :: r => (keysI r).map (i :: ·)
  | _ :: _ => none
theorem keysI_eq : ∀ {kvs : Kvs} {ks : List Int}, keysI kvs = some ks → kvs.map (·.1) = ks.map Sum.inl
  | [], ks, h => by cases h; rfl
  | (.inl i, _) :: r, ks, h => by
    unfold keysI at h
    cases e : keysI r with
    | none => rw [e] at h; cases h
    | some js =>
      rw [e] at h
      cases h
      show Sum.inl i :: r.map (·.1) = Sum.inl i :: js.map Sum.inl
      rw [keysI_eq e]
  | (.inr s, _) :: r, ks, h => by cases h
def rSortedDI : List V → Hp → VK → Prop := fun xs H Q => ∃ (a : Addr) (kvs : List (Key × V)) (ks : List Int), xs = [.ref a] ∧ Rd H a (.dK kvs) ∧ kvs.map (·.1) = ks.map Sum.inl ∧ ks.length < 64 ∧
    ∀ (ys : List Int) (p : Addr), ys.Perm ks → ys.Pairwise (· ≤ ·) → H p = none → Q (.ref p) (upd H p (.lst (ys.map V.int)))
def gSortedD : GC := fun xs μ Q => match xs with
  | [x] => (match dkAt μ x with
    | some (_, kvs) => (match keysI kvs with
      | some ns => ns.length < 64 ∧ Q (.d (.list ((sortI ns).map PyData.int))) μ
      | none => False)
    | none => False)
  | _ => False
theorem dc_sortedD (hcalm : X.calm = true := by rfl) : DCb K X (.builtin "sorted") rSortedDI gSortedD := by
  refine ⟨call_sortedDI hcalm, fun F α μ H vs xs Q Q' R r h k => ?_⟩
  unfold gSortedD at h
  split at h
  · rename_i x
    cases r with
    | cons r1 r2 =>
      cases r2
      split at h
      · rename_i l kvs hd
        split at h
        · rename_i ns e2
          obtain ⟨a, ws, rfl, _, _, hH, hR⟩ := dkAt_ok R r1 hd
          refine ⟨a, ws, ns, rfl, .of hH, hR.1.trans (keysI_eq e2), h.1, fun ys p hp hs hf => ?_⟩
          have en : ys = sortI ns := sorted_uniq (hp.trans (sortI_perm ns).symm) hs (sortI_le ns)
          subst en
          exact k.lst R (ints_dq _) h.2 p hf
        · cases h
      · cases h
  · cases h
theorem g_sortedD {l : Nat} {μ : Mu} {Q : KD} : gSortedD [.loc l] μ Q = (match dkAt μ (.loc l) with
    | some (_, kvs) => (match keysI kvs with
      | some ns => ns.length < 64 ∧ Q (.d (.list ((sortI ns).map PyData.int))) μ
      | none => False)
    | none => False) := rfl

section
variable {tg : DG} {wt : DT} {w : DE} {σ : Sl} {QN : List PyData → Mu → Prop} {μ : Mu}
theorem i_mpX {l : List PyData} (g : PyData → PyData) (hl : l.length ≤ sizeLine) (hs : ∀ a ∈ l, ∀ (T : KD) (E : Mu → Prop), T (.d (g a)) μ → tg a σ (kCo1 wt w T E μ)) (hn : QN (l.map g) μ) : dComp tg wt w σ QN l [] μ := by
  have q := i_mp (tg := tg) (wt := wt) (w := w) (σ := σ) (QN := QN) (μ := μ) id g hl hs hn
  rwa [List.map_id] at q
theorem i_fpX {l : List PyData} (p : PyData → Bool) (g : PyData → PyData) (hl : l.length ≤ sizeLine) (hs : ∀ a ∈ l, ∀ (T : KD) (E : Mu → Prop), (p a = true → T (.d (g a)) μ) → (p a = false → E μ) → tg a σ (kCo1 wt w T E μ)) (hn : QN ((l.filter p).map g) μ) : dComp tg wt w σ QN l [] μ := by
  have q := i_fp (tg := tg) (wt := wt) (w := w) (σ := σ) (QN := QN) (μ := μ) id p g hl hs hn
  rwa [List.map_id] at q
end
theorem bools_mapF {α : Type} {l : List α} {f : α → Bool} : bools (l.map fun a => PyData.bool (f a)) = some (l.map f) := by
  induction l with
  | nil => rfl
  | cons a r ih =>
    show (bools (r.map fun a => PyData.bool (f a))).map (f a :: ·) = _
    rw [ih]
    rfl
theorem all_map_id {α : Type} {l : List α} {f : α → Bool} : (l.map f).all id = l.all f := by
  rw [List.all_map]
  rfl

/-- a choice of values whose two ways are said by one P -/
theorem c_ifP {a : Prop} [Decidable a] {wa wb : DE} {σ : Sl} {Q : KD} {μ : Mu} (P : SV → Mu → Prop) (h1 : a → ∀ K : KD, (∀ x ν, P x ν → K x ν) → wa σ μ K) (h2 : ¬a → ∀ K : KD, (∀ x ν, P x ν → K x ν) → wb σ μ K) (h : ∀ x ν, P x ν → Q x ν) : kIfE wa wb σ Q (decide a) μ :=
  c_ifE (fun g => h1 g Q h) fun g => h2 g Q h
/-- a choice of values by two tests, joined by one predicate -/
theorem c_andP {a b : Prop} [Decidable a] [Decidable b] {wa wb : DE} {wu : DT} {σ : Sl} {Q : KD} {μ : Mu} (P : SV → Mu → Prop) (hw : a → ∀ K : Bool → Mu → Prop, K (decide b) μ → wu σ μ K) (h1 : a ∧ b → ∀ K : KD, (∀ x ν, P x ν → K x ν) → wa σ μ K) (h2 : ¬(a ∧ b) → ∀ K : KD, (∀ x ν, P x ν → K x ν) → wb σ μ K) (h : ∀ x ν, P x ν → Q x ν) : kAnd wu σ (kIfE wa wb σ Q) (decide a) μ :=
  c_and (fun ga => hw ga _ (c_ifE (fun gb => h1 ⟨ga, gb⟩ Q h) fun gb => h2 (fun z => gb z.2) Q h)) fun ga => by
    rw [k_ifEf]
    exact h2 (fun z => ga z.1) Q h

/-! in, not in: a tuple of any data -/
section
open PySem.Spec PyProof.Rows
def rInDT (K : PySem.W.Frag) : R2 := fun x y H Q => ∃ d ds, Dp K H x d ∧ Dp K H y (.tuple ds) ∧ SeqAt.shaped d = true ∧ SeqAt.shaped (.tuple ds) = true ∧ Q (.bl (ds.any fun z => PyData.eqv z d)) H
def rNotInDT (K : PySem.W.Frag) : R2 := fun x y H Q => ∃ d ds, Dp K H x d ∧ Dp K H y (.tuple ds) ∧ SeqAt.shaped d = true ∧ SeqAt.shaped (.tuple ds) = true ∧ Q (.bl (!(ds.any fun z => PyData.eqv z d))) H
theorem op_inDT {X : Cx} (hu : X.A.units + 65 < cLine) : OpR X (compareOp .In) (rInDT X.K) := fun pins s σ H x y v u Q I rx ry h => by
  obtain ⟨d, ds, hd, he, sd, se, q⟩ := h
  obtain ⟨as, r1⟩ := Dp.reads I d x v hd rx
  obtain ⟨bs, r2⟩ := Dp.reads I (.tuple ds) y u he ry
  exact SeqAt.in_tuple_reads r2 r1 (SeqAt.canLay_of_shaped se) (SeqAt.canLay_of_shaped sd) (room_in_shaped sd hu) ⟨.bl (ds.any fun y => y.eqv d), H, I, rfl, q⟩
theorem op_notInDT {X : Cx} (hu : X.A.units + 65 < cLine) : OpR X (compareOp .NotIn) (rNotInDT X.K) := fun pins s σ H x y v u Q I rx ry h => by
  obtain ⟨d, ds, hd, he, sd, se, q⟩ := h
  obtain ⟨as, r1⟩ := Dp.reads I d x v hd rx
  obtain ⟨bs, r2⟩ := Dp.reads I (.tuple ds) y u he ry
  exact SeqAt.notIn_tuple_reads r2 r1 (SeqAt.canLay_of_shaped se) (SeqAt.canLay_of_shaped sd) (room_in_shaped sd hu) ⟨.bl (!(ds.any fun y => y.eqv d)), H, I, rfl, q⟩
def gInTT : GO := fun x y μ Q => match asD μ x, asD μ y with
  | some d, some (.tuple xs) => (SeqAt.shaped d = true ∧ SeqAt.shaped (.tuple xs) = true) ∧ Q (.d (.bool (xs.any fun z => PyData.eqv z d))) μ
  | _, _ => False
def gNotInTT : GO := fun x y μ Q => match asD μ x, asD μ y with
  | some d, some (.tuple xs) => (SeqAt.shaped d = true ∧ SeqAt.shaped (.tuple xs) = true) ∧ Q (.d (.bool (!(xs.any fun z => PyData.eqv z d)))) μ
  | _, _ => False
theorem do_inTT {K : PySem.W.Frag} {X : Cx} (hu : X.A.units + 65 < cLine) (hK : X.K = K := by rfl) : DO K X (compareOp .In) (rInDT K) gInTT := by
  subst hK
  refine ⟨op_inDT hu, fun F α μ H v u x y Q Q' R r1 r2 h k => ?_⟩
  unfold gInTT at h
  split at h
  · rename_i d xs e1 e2
    exact ⟨d, xs, asD_ok R r1 e1, asD_ok R r2 e2, h.1.1, h.1.2, k.same R (.ofD (.bl _)) h.2⟩
  · cases h
theorem do_notinTT {K : PySem.W.Frag} {X : Cx} (hu : X.A.units + 65 < cLine) (hK : X.K = K := by rfl) : DO K X (compareOp .NotIn) (rNotInDT K) gNotInTT := by
  subst hK
  refine ⟨op_notInDT hu, fun F α μ H v u x y Q Q' R r1 r2 h k => ?_⟩
  unfold gNotInTT at h
  split at h
  · rename_i d xs e1 e2
    exact ⟨d, xs, asD_ok R r1 e1, asD_ok R r2 e2, h.1.1, h.1.2, k.same R (.ofD (.bl _)) h.2⟩
  · cases h
theorem g_inTT {d : PyData} {xs : List PyData} {μ : Mu} {Q : KD} : gInTT (.d d) (.d (.tuple xs)) μ Q = ((SeqAt.shaped d = true ∧ SeqAt.shaped (.tuple xs) = true) ∧ Q (.d (.bool (xs.any fun z => PyData.eqv z d))) μ) := rfl
theorem g_niTT {d : PyData} {xs : List PyData} {μ : Mu} {Q : KD} : gNotInTT (.d d) (.d (.tuple xs)) μ Q = ((SeqAt.shaped d = true ∧ SeqAt.shaped (.tuple xs) = true) ∧ Q (.d (.bool (!(xs.any fun z => PyData.eqv z d)))) μ) := rfl
end
end DL
/-! DLv: names of a module for texts and for tuples of texts and numbers. -/
namespace DL
open PySem PySem.Spec PyProof.Rows L2
def IsGDat (K : PySem.W.Frag) (mg : Str → Option Value) (x : Str) (d : PyData) (v : L2.V) : Prop := ∃ u, mg x = some u ∧ L2.RelV v u ∧ ∀ F : Hp, Dq K F v d
theorem dx_gdat {K : PySem.W.Frag} {X : Cx} {pos : Pos} {x : Str} {d : PyData} {v : L2.V} (hm : IsGDat K X.mg x d v) (hg : Gl X x := by rfl) (hd : (x == ("__debug__" : Str)) = false := by decide) : DX K X (.Name x pos) (tC v) (dC d) :=
  ⟨let ⟨_, e, r, _⟩ := hm; pe_glob hg e r hd, fun F _ _ _ _ _ _ _ S h k => by
    obtain ⟨_, _, _, q⟩ := hm
    exact k.same S.rel (show RW K F _ _ (.d d) from q F) h⟩
def itemB : Value → PyData → Bool
  | .none, .none => true
  | .bool b, .bool c => decide (b = c)
  | .int i _, .int j => decide (i = j)
  | .str s _, .str t => decide (s = t)
  | _, _ => false
theorem itemB_ok {u : Value} {d : PyData} (h : itemB u d = true) : ∃ v, L2.RelV v u ∧ ∀ (K : PySem.W.Frag) (F : Hp), Dq K F v d := by
  unfold itemB at h
  split at h
  · exact ⟨.non, rfl, fun _ _ => .non⟩
  · rw [decide_eq_true_eq] at h
    subst h
    exact ⟨.bl _, rfl, fun _ _ => .bl _⟩
  · rw [decide_eq_true_eq] at h
    subst h
    exact ⟨.int _, ⟨_, rfl⟩, fun _ _ => .int _⟩
  · rw [decide_eq_true_eq] at h
    subst h
    exact ⟨.str _, ⟨_, rfl⟩, fun _ _ => .str _⟩
  · cases h
def itemsB : List Value → List PyData → Bool
  | [], [] => true
  | u :: us, d :: ds => itemB u d && itemsB us ds
  | _, _ => false
theorem itemsB_ok : ∀ {us : List Value} {ds : List PyData}, itemsB us ds = true → ∃ vs, L2.Vals vs us ∧ ∀ (K : PySem.W.Frag) (F : Hp), DqAll K F vs ds
  | [], [], _ => ⟨[], .nil, fun _ _ => .nil⟩
  | u :: us, d :: ds, h => by
    have h : (itemB u d && itemsB us ds) = true := h
    rw [Bool.and_eq_true] at h
    obtain ⟨v, r, q⟩ := itemB_ok h.1
    obtain ⟨vs, rs, qs⟩ := itemsB_ok h.2
    exact ⟨v :: vs, .cons r rs, fun K F => .cons (q K F) (qs K F)⟩
  | [], _ :: _, h => by cases h
  | _ :: _, [], h => by cases h
def tupB : Obj → List PyData → Bool
  | ⟨.type n, _, .seq its _, _⟩, ds => decide (n = "tuple") && (decide (its.size ≤ sizeLine) && itemsB its.toList ds)
  | _, _ => false
theorem gdat_str {K : PySem.W.Frag} {mg : Str → Option Value} {h : Heap} {x : Str} {s : Str} {t : Tok} (X : K.In h) (G : h.Ns mainGlobals mg) (a : PySem.W.nsIn K mainGlobals x = some (some (.str s t))) : IsGDat K mg x (.str s) (.str s) := ⟨_, PySem.W.mg_of X G a, ⟨t, rfl⟩, fun _ => .str s⟩
theorem gdat_tup {K : PySem.W.Frag} {mg : Str → Option Value} {h : Heap} {x : Str} {p : Addr} {o : Obj} {ds : List PyData} (X : K.In h) (G : h.Ns mainGlobals mg) (a : PySem.W.nsIn K mainGlobals x = some (some (.ref p))) (b : List.lookup p K = some o) (c : tupB o ds = true) : IsGDat K mg x (.tuple ds) (.ref p) := by
  unfold tupB at c
  split at c
  · rename_i n _ its ep _
    rw [Bool.and_eq_true, Bool.and_eq_true, decide_eq_true_eq, decide_eq_true_eq] at c
    obtain ⟨c1, c2, c3⟩ := c
    subst c1
    obtain ⟨vs, rs, qs⟩ := itemsB_ok c3
    exact ⟨_, PySem.W.mg_of X G a, rfl, fun F => .tup (.inr ⟨_, its, ep, b, rfl, rfl, c2, rs⟩) (qs K F)⟩
  · cases c
end DL
/-! PuGcd: common divisors, units, Euler. -/
namespace PM
theorem gcd_step {a b : Nat} : Nat.gcd b (a % b) = Nat.gcd a b := by
  rw [Nat.gcd_comm a b, Nat.gcd_rec b a, Nat.gcd_comm]
theorem bez (a b : Nat) : ∃ x y : Int, (a : Int) * x + (b : Int) * y = (Nat.gcd a b : Nat) := by
  induction a, b using Nat.gcd.induction with
  | H0 n => exact ⟨0, 1, by rw [Nat.gcd_zero_left]; omega⟩
  | H1 m n hm ih =>
    obtain ⟨x, y, h⟩ := ih
    refine ⟨y - (n / m : Nat) * x, x, ?_⟩
    rw [Nat.gcd_rec m n, ← h]
    have e : ((n % m : Nat) : Int) = (n : Int) - (m : Int) * (n / m : Nat) := by
      have := Nat.div_add_mod n m
      have h2 : ((m * (n / m) + n % m : Nat) : Int) = n := by rw [this]
      rw [Int.natCast_add, Int.natCast_mul] at h2
      omega
    rw [e]
    grind
/-- what undoes a unit -/
theorem inv_ex {a n : Nat} (hn : 1 ≤ n) (h : Nat.gcd a n = 1) : ∃ b : Nat, b < n ∧ a * b % n = 1 % n := by
  obtain ⟨x, y, e⟩ := bez a n
  rw [h] at e
  have n0 : (n : Int) ≠ 0 := by omega
  refine ⟨(x % n).toNat, ?_, ?_⟩
  · have := Int.emod_lt_of_pos x (show (0 : Int) < n by omega)
    have := Int.emod_nonneg x n0
    omega
  · have h1 : (((x % n).toNat : Nat) : Int) = x % n := Int.toNat_of_nonneg (Int.emod_nonneg x n0)
    have h2 : ((a * (x % n).toNat % n : Nat) : Int) = ((1 % n : Nat) : Int) := by
      rw [Int.natCast_emod, Int.natCast_mul, h1, Int.natCast_emod, Int.mul_emod, Int.emod_emod_of_dvd _ (Int.dvd_refl _), ← Int.mul_emod]
      have : (a : Int) * x = 1 + n * (-y) := by
        have : ((1 : Nat) : Int) = 1 := rfl
        grind
      rw [this, Int.add_mul_emod_self_left]
      rfl
    exact Int.ofNat.inj h2
theorem unit_mul {a b n : Nat} (ha : Nat.gcd a n = 1) (hb : Nat.gcd b n = 1) : Nat.gcd (a * b % n) n = 1 := by
  have h : Nat.gcd (a * b) n = 1 := Nat.Coprime.mul_left ha hb
  exact (Nat.gcd_rec n (a * b)).symm.trans ((Nat.gcd_comm _ _).trans h)
theorem gcd_mod {a n : Nat} : Nat.gcd (a % n) n = Nat.gcd a n := (Nat.gcd_rec n a).symm.trans (Nat.gcd_comm _ _)
/-- the units of n, from 0 up -/
def units (n : Nat) : List Nat := (List.range n).filter fun x => Nat.gcd x n == 1
theorem mem_units {n x : Nat} : x ∈ units n ↔ x < n ∧ Nat.gcd x n = 1 := by simp [units]
theorem units_nodup {n : Nat} : (units n).Nodup := List.Pairwise.filter _ List.nodup_range
theorem cancel {a x y n : Nat} (hn : 1 ≤ n) (ha : Nat.gcd a n = 1) (h : a * x % n = a * y % n) : x % n = y % n := by
  obtain ⟨b, _, hb⟩ := inv_ex hn ha
  have key : ∀ z, b * (a * z % n) % n = z % n := fun z => by
    rw [Nat.mul_mod, Nat.mod_mod, ← Nat.mul_mod, ← Nat.mul_assoc, Nat.mul_comm b a, Nat.mul_mod, hb, ← Nat.mul_mod, Nat.one_mul]
  rw [← key x, ← key y, h]
theorem nodup_map {l : List Nat} {f : Nat → Nat} (h : l.Nodup) (hf : ∀ x ∈ l, ∀ y ∈ l, f x = f y → x = y) : (l.map f).Nodup := by
  induction l with
  | nil => exact List.nodup_nil
  | cons a r ih =>
    rw [List.map_cons, List.nodup_cons]
    rw [List.nodup_cons] at h
    refine ⟨fun hm => ?_, ih h.2 fun x hx y hy => hf x (List.mem_cons_of_mem _ hx) y (List.mem_cons_of_mem _ hy)⟩
    obtain ⟨y, hy, e⟩ := List.mem_map.mp hm
    have := hf y (List.mem_cons_of_mem _ hy) a List.mem_cons_self e
    subst this
    exact h.1 hy
theorem units_perm {a n : Nat} (hn : 1 ≤ n) (ha : Nat.gcd a n = 1) : ((units n).map fun x => a * x % n).Perm (units n) := by
  refine (List.perm_ext_iff_of_nodup (nodup_map units_nodup fun x hx y hy e => ?_) units_nodup).mpr fun y => ?_
  · have hx := (mem_units.mp hx).1
    have hy := (mem_units.mp hy).1
    have := cancel hn ha e
    rwa [Nat.mod_eq_of_lt hx, Nat.mod_eq_of_lt hy] at this
  · rw [List.mem_map, mem_units]
    constructor
    · rintro ⟨x, hx, rfl⟩
      exact ⟨Nat.mod_lt _ hn, unit_mul ha (mem_units.mp hx).2⟩
    · rintro ⟨h1, h2⟩
      obtain ⟨b, hb1, hb2⟩ := inv_ex hn ha
      have hbu : Nat.gcd b n = 1 := by
        have h3 : Nat.gcd (a * b) n = 1 := by
          rw [← gcd_mod, hb2, gcd_mod]
          exact Nat.gcd_one_left n
        exact Nat.Coprime.coprime_mul_left h3
      refine ⟨b * y % n, mem_units.mpr ⟨Nat.mod_lt _ hn, unit_mul hbu h2⟩, ?_⟩
      show a * (b * y % n) % n = y
      rw [Nat.mul_mod, Nat.mod_mod, ← Nat.mul_mod, ← Nat.mul_assoc, Nat.mul_mod, hb2, ← Nat.mul_mod, Nat.one_mul, Nat.mod_eq_of_lt h1]
theorem prod_map {a n : Nat} (l : List Nat) : (l.map fun x => a * x % n).prod % n = a ^ l.length * l.prod % n := by
  induction l with
  | nil => rfl
  | cons x r ih =>
    rw [List.map_cons, List.prod_cons, List.prod_cons, Nat.mul_mod, ih, ← Nat.mul_mod, List.length_cons, Nat.pow_succ, Nat.mul_mod, Nat.mod_mod, ← Nat.mul_mod]
    congr 1
    grind
theorem prod_unit {n : Nat} (l : List Nat) (h : ∀ x ∈ l, Nat.gcd x n = 1) : Nat.gcd l.prod n = 1 := by
  induction l with
  | nil => exact Nat.gcd_one_left n
  | cons x r ih =>
    rw [List.prod_cons]
    exact Nat.Coprime.mul_left (h x List.mem_cons_self) (ih fun y hy => h y (List.mem_cons_of_mem _ hy))
/-- Euler: a unit to the number of units leaves 1 -/
theorem euler {a n : Nat} (hn : 1 ≤ n) (ha : Nat.gcd a n = 1) : a ^ (units n).length % n = 1 % n := by
  have h1 := prod_map (a := a) (n := n) (units n)
  rw [(units_perm hn ha).prod_nat] at h1
  have h2 : Nat.gcd (units n).prod n = 1 := prod_unit _ fun x hx => (mem_units.mp hx).2
  refine cancel hn h2 ?_
  rw [Nat.mul_one, Nat.mul_comm, ← h1]
end PM
/-! PuPrime: primes, factor lists. -/
namespace PM
def Prm (p : Nat) : Prop := 2 ≤ p ∧ ∀ d, d ∣ p → d = 1 ∨ d = p
/-- no divisor from 2 to below k -/
def Rough (n k : Nat) : Prop := ∀ d, 2 ≤ d → d < k → ¬d ∣ n
theorem rough_prm {n p : Nat} (hp : 2 ≤ p) (hr : Rough n p) (hd : p ∣ n) : Prm p := by
  refine ⟨hp, fun d h => ?_⟩
  have hpos : 0 < d := Nat.pos_of_dvd_of_pos h (by omega)
  have hle : d ≤ p := Nat.le_of_dvd (by omega) h
  rcases Nat.lt_or_ge d p with g | g
  · rcases Nat.lt_or_ge d 2 with g2 | g2
    · left; omega
    · exact absurd (Nat.dvd_trans h hd) (hr d g2 g)
  · right; omega
theorem rough_self {n k : Nat} (hn : 2 ≤ n) (hr : Rough n k) (h : n < k * k) : Prm n := by
  refine ⟨hn, fun d hd => ?_⟩
  have hpos : 0 < d := Nat.pos_of_dvd_of_pos hd (by omega)
  obtain ⟨e, he⟩ := hd
  have hepos : 0 < e := by
    rcases Nat.eq_zero_or_pos e with z | z
    · subst z; omega
    · exact z
  rcases Nat.lt_or_ge d 2 with g | g
  · left; omega
  · rcases Nat.lt_or_ge e 2 with g2 | g2
    · right
      have : e = 1 := by omega
      subst this
      omega
    · exfalso
      have h1 : k ≤ d := by
        rcases Nat.lt_or_ge d k with q | q
        · exact absurd ⟨e, he⟩ (hr d g q)
        · exact q
      have h2 : k ≤ e := by
        rcases Nat.lt_or_ge e k with q | q
        · exact absurd ⟨d, by rw [he, Nat.mul_comm]⟩ (hr e g2 q)
        · exact q
      have := Nat.mul_le_mul h1 h2
      omega
theorem rough_dvd {n m k : Nat} (h : Rough n k) (hd : m ∣ n) : Rough m k := fun d d1 d2 hm => h d d1 d2 (Nat.dvd_trans hm hd)
theorem rough_next {n k : Nat} (h : Rough n k) (hk : ¬k ∣ n) : Rough n (k + 1) := fun d d1 d2 => by
  rcases Nat.lt_or_ge d k with g | g
  · exact h d d1 g
  · have : d = k := by omega
    subst this
    exact hk
theorem rough_two {n k : Nat} (h : Rough n k) (hk : ¬k ∣ n) (h3 : 3 ≤ k) (ho : k % 2 = 1) : Rough n (k + 2) := by
  refine rough_next (rough_next h hk) fun hd => h 2 (by omega) (by omega) (Nat.dvd_trans ?_ hd)
  exact ⟨(k + 1) / 2, by omega⟩
/-- what a list of primes with powers multiplies to -/
def prodF : List (Nat × Nat) → Nat
  | [] => 1
  | (p, k) :: r => p ^ k * prodF r
theorem prodF_app (fs : List (Nat × Nat)) (p k : Nat) : prodF (fs ++ [(p, k)]) = prodF fs * p ^ k := by
  induction fs with
  | nil => show p ^ k * 1 = 1 * p ^ k; omega
  | cons a r ih =>
    obtain ⟨q, j⟩ := a
    show q ^ j * prodF (r ++ [(p, k)]) = q ^ j * prodF r * p ^ k
    rw [ih, Nat.mul_assoc]
structure FacOk (fs : List (Nat × Nat)) : Prop where
  pr : ∀ a ∈ fs, Prm a.1 ∧ 1 ≤ a.2
  up : fs.Pairwise fun a b => a.1 < b.1
def IsFac (fs : List (Nat × Nat)) (n : Nat) : Prop := FacOk fs ∧ prodF fs = n
theorem facOk_app {fs : List (Nat × Nat)} {p k : Nat} (h : FacOk fs) (hp : Prm p) (hk : 1 ≤ k) (hl : ∀ a ∈ fs, a.1 < p) : FacOk (fs ++ [(p, k)]) := by
  refine ⟨fun a ha => ?_, List.pairwise_append.mpr ⟨h.up, List.pairwise_singleton _ _, fun a ha b hb => ?_⟩⟩
  · rcases List.mem_append.mp ha with q | q
    · exact h.pr a q
    · rw [List.mem_singleton] at q
      subst q
      exact ⟨hp, hk⟩
  · rw [List.mem_singleton] at hb
    subst hb
    exact hl a ha
theorem facOk_nil : FacOk [] := ⟨fun _ h => (List.not_mem_nil h).elim, .nil⟩
theorem prm_iff {n : Nat} : Prm n ↔ 2 ≤ n ∧ ∀ d, d < n → 2 ≤ d → ¬d ∣ n := by
  constructor
  · exact fun h => ⟨h.1, fun d d1 d2 hd => (h.2 d hd).elim (fun e => by omega) fun e => by omega⟩
  · exact fun h => rough_prm h.1 (fun d d1 d2 => h.2 d d2 d1) (Nat.dvd_refl n)
instance {n : Nat} : Decidable (Prm n) := decidable_of_iff _ prm_iff.symm
theorem prm_rough {n : Nat} (h : Prm n) {k : Nat} (hk : k ≤ n) : Rough n k := fun d d1 d2 hd => (h.2 d hd).elim (fun e => by omega) fun e => by omega
theorem not_prm {n d : Nat} (h2 : 2 ≤ d) (hd : d ∣ n) (hn : d < n) : ¬Prm n := fun h => (h.2 d hd).elim (fun e => by omega) fun e => by omega
end PM
/-! PuFac: one way only to factor; divisors. -/
namespace PM
theorem prm_gcd {p a : Nat} (hp : Prm p) (h : ¬p ∣ a) : Nat.gcd p a = 1 := by
  rcases hp.2 _ (Nat.gcd_dvd_left p a) with e | e
  · exact e
  · exact absurd (by rw [← e]; exact Nat.gcd_dvd_right p a) h
theorem prm_mul {p a b : Nat} (hp : Prm p) (h : p ∣ a * b) : p ∣ a ∨ p ∣ b := by
  by_cases ha : p ∣ a
  · exact .inl ha
  · exact .inr (Nat.Coprime.dvd_of_dvd_mul_left (prm_gcd hp ha) h)
theorem prm_pow {p a k : Nat} (hp : Prm p) (h : p ∣ a ^ k) : p ∣ a := by
  induction k with
  | zero =>
    rw [Nat.pow_zero] at h
    have := Nat.le_of_dvd (by decide) h
    have := hp.1
    omega
  | succ k ih =>
    rw [Nat.pow_succ] at h
    exact (prm_mul hp h).elim ih id
theorem prm_eq {p q : Nat} (hp : Prm p) (hq : Prm q) (h : p ∣ q) : p = q := by
  rcases hq.2 p h with e | e
  · have := hp.1; omega
  · exact e
theorem prm_not_prod {fs : List (Nat × Nat)} {p : Nat} (hp : Prm p) (hf : ∀ a ∈ fs, Prm a.1) (hn : ∀ a ∈ fs, a.1 ≠ p) : ¬p ∣ prodF fs := by
  induction fs with
  | nil =>
    intro h
    have h' : p ∣ 1 := h
    have := Nat.le_of_dvd (by decide) h'
    have := hp.1
    omega
  | cons a r ih =>
    obtain ⟨q, k⟩ := a
    intro h
    rcases prm_mul hp (show p ∣ q ^ k * prodF r from h) with g | g
    · exact hn (q, k) List.mem_cons_self (prm_eq hp (hf (q, k) List.mem_cons_self) (prm_pow hp g)).symm
    · exact ih (fun a ha => hf a (List.mem_cons_of_mem _ ha)) (fun a ha => hn a (List.mem_cons_of_mem _ ha)) g
theorem cop_pow {p q : Nat} (hp : Prm p) (hq : Prm q) (h : p ≠ q) (i j : Nat) : Nat.gcd (p ^ i) (q ^ j) = 1 := Nat.Coprime.pow i j (prm_gcd hp fun z => h (prm_eq hp hq z))
theorem FacOk.tail {a : Nat × Nat} {r : List (Nat × Nat)} (h : FacOk (a :: r)) : FacOk r := ⟨fun b hb => h.pr b (List.mem_cons_of_mem _ hb), (List.pairwise_cons.mp h.up).2⟩
theorem fac_mem {fs : List (Nat × Nat)} (h : FacOk fs) {p k : Nat} (hm : (p, k) ∈ fs) : p ^ k ∣ prodF fs ∧ ¬p ^ (k + 1) ∣ prodF fs := by
  induction fs with
  | nil => cases hm
  | cons a r ih =>
    obtain ⟨q, j⟩ := a
    have hu := List.pairwise_cons.mp h.up
    have hpp : Prm p := (h.pr _ hm).1
    have hq : Prm q := (h.pr (q, j) List.mem_cons_self).1
    show p ^ k ∣ q ^ j * prodF r ∧ ¬p ^ (k + 1) ∣ q ^ j * prodF r
    rcases List.mem_cons.mp hm with e | e
    · cases e
      refine ⟨⟨_, rfl⟩, fun z => ?_⟩
      rw [Nat.pow_succ] at z
      have := Nat.dvd_of_mul_dvd_mul_left (Nat.pow_pos (by have := hpp.1; omega)) z
      exact prm_not_prod hpp (fun a ha => (h.tail.pr a ha).1) (fun a ha => by have := hu.1 a ha; show a.1 ≠ p; have h3 : p < a.1 := this; omega) this
    · obtain ⟨i1, i2⟩ := ih h.tail e
      have hne : p ≠ q := by have h3 : q < p := hu.1 _ e; omega
      refine ⟨Nat.dvd_trans i1 ⟨_, Nat.mul_comm _ _⟩, fun z => i2 ?_⟩
      exact Nat.Coprime.dvd_of_dvd_mul_left (cop_pow hpp hq hne _ _) z
theorem fac_in {fs : List (Nat × Nat)} (h : FacOk fs) {p : Nat} (hp : Prm p) (hd : p ∣ prodF fs) : ∃ k, (p, k) ∈ fs := by
  refine Classical.byContradiction fun hn => prm_not_prod hp (fun a ha => (h.pr a ha).1) (fun a ha e => hn ⟨a.2, ?_⟩) hd
  rw [← e]
  exact ha
theorem fac_sub {fs gs : List (Nat × Nat)} {n : Nat} (hf : IsFac fs n) (hg : IsFac gs n) : ∀ a ∈ fs, a ∈ gs := by
  rintro ⟨p, k⟩ ha
  have hp := hf.1.pr _ ha
  obtain ⟨h1, h2⟩ := fac_mem hf.1 ha
  rw [hf.2] at h1 h2
  have hpk : p ∣ p ^ k := by
    obtain ⟨j, rfl⟩ : ∃ j, k = j + 1 := ⟨k - 1, by have h3 : 1 ≤ k := hp.2; omega⟩
    exact ⟨p ^ j, by rw [Nat.pow_succ, Nat.mul_comm]⟩
  have hd : p ∣ n := Nat.dvd_trans hpk h1
  obtain ⟨j, hj⟩ := fac_in hg.1 hp.1 (by rw [hg.2]; exact hd)
  obtain ⟨g1, g2⟩ := fac_mem hg.1 hj
  rw [hg.2] at g1 g2
  have : k = j := by
    rcases Nat.lt_trichotomy k j with q | q | q
    · exact absurd (Nat.dvd_trans (Nat.pow_dvd_pow p q) g1) h2
    · exact q
    · exact absurd (Nat.dvd_trans (Nat.pow_dvd_pow p q) h1) g2
  subst this
  exact hj
theorem up_uniq : ∀ {fs gs : List (Nat × Nat)}, fs.Pairwise (fun a b => a.1 < b.1) → gs.Pairwise (fun a b => a.1 < b.1) → (∀ a, a ∈ fs ↔ a ∈ gs) → fs = gs
  | [], [], _, _, _ => rfl
  | [], b :: t, _, _, h => absurd ((h b).mpr List.mem_cons_self) List.not_mem_nil
  | a :: r, [], _, _, h => absurd ((h a).mp List.mem_cons_self) List.not_mem_nil
  | a :: r, b :: t, hf, hg, h => by
    have hf' := List.pairwise_cons.mp hf
    have hg' := List.pairwise_cons.mp hg
    have e : a = b := by
      rcases List.mem_cons.mp ((h a).mp List.mem_cons_self) with e | e
      · exact e
      · rcases List.mem_cons.mp ((h b).mpr List.mem_cons_self) with e' | e'
        · exact e'.symm
        · have := hf'.1 b e'
          have := hg'.1 a e
          omega
    subst e
    rw [up_uniq hf'.2 hg'.2 fun c => ?_]
    constructor
    · intro hc
      rcases List.mem_cons.mp ((h c).mp (List.mem_cons_of_mem _ hc)) with e | e
      · subst e
        have := hf'.1 _ hc
        omega
      · exact e
    · intro hc
      rcases List.mem_cons.mp ((h c).mpr (List.mem_cons_of_mem _ hc)) with e | e
      · subst e
        have := hg'.1 _ hc
        omega
      · exact e
/-- one way only -/
theorem fac_uniq {fs gs : List (Nat × Nat)} {n : Nat} (hf : IsFac fs n) (hg : IsFac gs n) : fs = gs :=
  up_uniq hf.1.up hg.1.up fun a => ⟨fac_sub hf hg a, fac_sub hg hf a⟩
/-- all divisors, from 1 up -/
def divs (n : Nat) : List Nat := (List.range (n + 1)).filter fun d => decide (1 ≤ d ∧ d ∣ n)
theorem mem_divs {n d : Nat} (h : 1 ≤ n) : d ∈ divs n ↔ d ∣ n := by
  simp only [divs, List.mem_filter, List.mem_range, decide_eq_true_eq]
  constructor
  · exact fun z => z.2.2
  · intro z
    have := Nat.le_of_dvd (by omega) z
    exact ⟨by omega, Nat.pos_of_dvd_of_pos z (by omega), z⟩
theorem divs_nodup {n : Nat} : (divs n).Nodup := List.Pairwise.filter _ List.nodup_range
theorem divs_up {n : Nat} : (divs n).Pairwise (· < ·) := List.Pairwise.filter _ List.pairwise_lt_range
/-- what the program gathers: products with all powers -/
def stepD (xs : List Nat) (p : Nat) : Nat → List Nat
  | 0 => []
  | k + 1 => stepD xs p k ++ xs.map fun x => x * p ^ k
def gath : List Nat → List (Nat × Nat) → List Nat
  | xs, [] => xs
  | xs, (p, k) :: r => gath (stepD xs p (k + 1)) r
theorem mem_stepD {xs : List Nat} {p y k : Nat} : y ∈ stepD xs p k ↔ ∃ j, j < k ∧ ∃ x ∈ xs, y = x * p ^ j := by
  induction k with
  | zero => exact ⟨fun h => (List.not_mem_nil h).elim, fun ⟨j, h, _⟩ => absurd h (Nat.not_lt_zero j)⟩
  | succ k ih =>
    show y ∈ stepD xs p k ++ xs.map (fun x => x * p ^ k) ↔ _
    rw [List.mem_append, ih, List.mem_map]
    constructor
    · rintro (⟨j, h, x, hx, e⟩ | ⟨x, hx, e⟩)
      · exact ⟨j, by omega, x, hx, e⟩
      · exact ⟨k, by omega, x, hx, e.symm⟩
    · rintro ⟨j, h, x, hx, e⟩
      rcases Nat.lt_or_ge j k with g | g
      · exact .inl ⟨j, g, x, hx, e⟩
      · have : j = k := by omega
        subst this
        exact .inr ⟨x, hx, e.symm⟩
/-- divisors of m * p ^ k, p prime and no divisor of m -/
theorem dvd_split {m p k y : Nat} (hp : Prm p) (hm : ¬p ∣ m) : y ∣ m * p ^ k ↔ ∃ j, j < k + 1 ∧ ∃ x, x ∣ m ∧ y = x * p ^ j := by
  have p0 : 0 < p := by have := hp.1; omega
  constructor
  · intro h
    induction k generalizing y with
    | zero => exact ⟨0, by omega, y, by simpa using h, by simp⟩
    | succ k ih =>
      by_cases hd : p ∣ y
      · obtain ⟨z, rfl⟩ := hd
        have h2 : z ∣ m * p ^ k := by
          rw [Nat.pow_succ, ← Nat.mul_assoc, Nat.mul_comm (m * p ^ k)] at h
          exact Nat.dvd_of_mul_dvd_mul_left p0 h
        obtain ⟨j, hj, x, hx, rfl⟩ := ih h2
        exact ⟨j + 1, by omega, x, hx, by rw [Nat.pow_succ]; grind⟩
      · have hc : Nat.gcd y (p ^ (k + 1)) = 1 := by
          have := Nat.Coprime.pow 1 (k + 1) (show Nat.gcd y p = 1 by rw [Nat.gcd_comm]; exact prm_gcd hp hd)
          rwa [Nat.pow_one] at this
        exact ⟨0, by omega, y, Nat.Coprime.dvd_of_dvd_mul_right hc h, by simp⟩
  · rintro ⟨j, hj, x, hx, rfl⟩
    exact Nat.mul_dvd_mul hx (Nat.pow_dvd_pow p (by omega))
theorem nodup_stepD {xs : List Nat} {p k : Nat} (hp : 1 < p) (hx : xs.Nodup) (hn : ∀ x ∈ xs, ¬p ∣ x) : (stepD xs p k).Nodup := by
  have inj : ∀ (i j x y : Nat), ¬p ∣ x → ¬p ∣ y → x * p ^ i = y * p ^ j → i = j ∧ x = y := by
    intro i
    induction i with
    | zero =>
      intro j x y h1 h2 e
      cases j with
      | zero => exact ⟨rfl, by simpa using e⟩
      | succ j =>
        rw [Nat.pow_zero, Nat.mul_one, Nat.pow_succ, ← Nat.mul_assoc] at e
        exact absurd ⟨y * p ^ j, by rw [e, Nat.mul_comm]⟩ h1
    | succ i ih =>
      intro j x y h1 h2 e
      cases j with
      | zero =>
        rw [Nat.pow_zero, Nat.mul_one, Nat.pow_succ, ← Nat.mul_assoc] at e
        exact absurd ⟨x * p ^ i, by rw [← e, Nat.mul_comm]⟩ h2
      | succ j =>
        rw [Nat.pow_succ, Nat.pow_succ, ← Nat.mul_assoc, ← Nat.mul_assoc] at e
        obtain ⟨a, b⟩ := ih j x y h1 h2 (Nat.eq_of_mul_eq_mul_right (by omega) e)
        exact ⟨by omega, b⟩
  induction k with
  | zero => exact List.nodup_nil
  | succ k ih =>
    show (stepD xs p k ++ xs.map fun x => x * p ^ k).Nodup
    refine List.nodup_append.mpr ⟨ih, ?_, ?_⟩
    · refine List.pairwise_map.mpr (hx.imp fun h e => h (Nat.eq_of_mul_eq_mul_right (Nat.pow_pos (by omega)) e))
    · intro a ha b hb e
      obtain ⟨j, hj, x, hx', e1⟩ := mem_stepD.mp ha
      obtain ⟨y, hy, e2⟩ := List.mem_map.mp hb
      have := (inj j k x y (hn x hx') (hn y hy) (by rw [← e1, e]; exact e2.symm)).1
      omega
theorem gath_ok {fs : List (Nat × Nat)} (hf : FacOk fs) : ∀ (xs : List Nat) (m : Nat), 1 ≤ m → xs.Nodup → (∀ y, y ∈ xs ↔ y ∣ m) → (∀ a ∈ fs, ¬a.1 ∣ m) → (gath xs fs).Nodup ∧ ∀ y, y ∈ gath xs fs ↔ y ∣ m * prodF fs := by
  induction fs with
  | nil => exact fun xs m h1 hx hy _ => ⟨hx, fun y => by show y ∈ xs ↔ y ∣ m * 1; rw [Nat.mul_one]; exact hy y⟩
  | cons a r ih =>
    obtain ⟨p, k⟩ := a
    intro xs m h1 hx hy hn
    have hp := (hf.pr (p, k) List.mem_cons_self).1
    have hu := List.pairwise_cons.mp hf.up
    have hpm := hn (p, k) List.mem_cons_self
    have q := ih hf.tail (stepD xs p (k + 1)) (m * p ^ k) (Nat.mul_pos h1 (Nat.pow_pos (by have := hp.1; omega))) (nodup_stepD (by have := hp.1; omega) hx fun x hx' z => hpm (Nat.dvd_trans z ((hy x).mp hx'))) (fun y => by
      rw [mem_stepD, dvd_split hp hpm]
      constructor
      · rintro ⟨j, hj, x, hx', e⟩
        exact ⟨j, hj, x, (hy x).mp hx', e⟩
      · rintro ⟨j, hj, x, hx', e⟩
        exact ⟨j, hj, x, (hy x).mpr hx', e⟩) (fun a ha z => by
      have ha2 := hf.tail.pr a ha
      rcases prm_mul ha2.1 z with g | g
      · exact hn a (List.mem_cons_of_mem _ ha) g
      · have := prm_eq ha2.1 hp (prm_pow ha2.1 g)
        have h3 : p < a.1 := hu.1 a ha
        omega)
    refine ⟨q.1, fun y => ?_⟩
    show y ∈ gath (stepD xs p (k + 1)) r ↔ y ∣ m * (p ^ k * prodF r)
    rw [q.2 y, Nat.mul_assoc]
/-- the products are all divisors, each once -/
theorem gath_divs {fs : List (Nat × Nat)} {n : Nat} (h1 : 1 ≤ n) (hf : IsFac fs n) : (gath [1] fs).Perm (divs n) := by
  have q := gath_ok hf.1 [1] 1 (Nat.le_refl 1) (by simp) (fun y => by simp) (fun a ha z => by
    have := Nat.le_of_dvd (by decide) z
    have := (hf.1.pr a ha).1.1
    omega)
  refine (List.perm_ext_iff_of_nodup q.1 divs_nodup).mpr fun y => ?_
  rw [q.2 y, mem_divs h1, Nat.one_mul, hf.2]
end PM
/-! PuDiv: lists of all divisors, how long they are. -/
namespace PM
def DivL (xs : List Nat) (m : Nat) : Prop := xs.Nodup ∧ ∀ y, y ∈ xs ↔ y ∣ m
theorem divL_one : DivL [1] 1 := ⟨by simp, fun y => by simp⟩
theorem divL_step {xs : List Nat} {m p k : Nat} (h : DivL xs m) (hp : Prm p) (hm : ¬p ∣ m) : DivL (stepD xs p (k + 1)) (m * p ^ k) := by
  refine ⟨nodup_stepD (by have := hp.1; omega) h.1 fun x hx z => hm (Nat.dvd_trans z ((h.2 x).mp hx)), fun y => ?_⟩
  rw [mem_stepD, dvd_split hp hm]
  constructor
  · rintro ⟨j, hj, x, hx, e⟩
    exact ⟨j, hj, x, (h.2 x).mp hx, e⟩
  · rintro ⟨j, hj, x, hx, e⟩
    exact ⟨j, hj, x, (h.2 x).mpr hx, e⟩
theorem divL_divs {xs : List Nat} {n : Nat} (h1 : 1 ≤ n) (h : DivL xs n) : xs.Perm (divs n) :=
  (List.perm_ext_iff_of_nodup h.1 divs_nodup).mpr fun y => by rw [h.2 y, mem_divs h1]
theorem nodup_bound {xs : List Nat} {B : Nat} (h : xs.Nodup) (hb : ∀ x ∈ xs, x < B) : xs.length ≤ B := by
  have hp : xs.Perm ((List.range B).filter fun x => decide (x ∈ xs)) := by
    refine (List.perm_ext_iff_of_nodup h (List.Pairwise.filter _ List.nodup_range)).mpr fun y => ?_
    simp only [List.mem_filter, List.mem_range, decide_eq_true_eq]
    exact ⟨fun z => ⟨hb y z, z⟩, fun z => z.2⟩
  rw [hp.length_eq]
  have := List.length_filter_le (fun x => decide (x ∈ xs)) (List.range B)
  rw [List.length_range] at this
  exact this
theorem filter_two {xs : List Nat} (f : Nat → Bool) : xs.length = (xs.filter f).length + (xs.filter fun x => !f x).length := by
  induction xs with
  | nil => rfl
  | cons a r ih =>
    simp only [List.filter_cons]
    cases f a <;> simp [ih] <;> omega
/-- divisors of m, each once: at most twice the root -/
theorem div_few {xs : List Nat} {m s : Nat} (h1 : 1 ≤ m) (hs : m < s * s) (h : xs.Nodup) (hd : ∀ x ∈ xs, x ∣ m) : xs.length ≤ s + s := by
  rw [filter_two fun x => decide (x < s)]
  have a : (xs.filter fun x => decide (x < s)).length ≤ s := nodup_bound (List.Pairwise.filter _ h) fun x hx => by
    simp only [List.mem_filter, decide_eq_true_eq] at hx
    exact hx.2
  have b : (xs.filter fun x => !decide (x < s)).length ≤ s := by
    have q : ((xs.filter fun x => !decide (x < s)).map fun x => m / x).length ≤ s := by
      refine nodup_bound (List.pairwise_map.mpr ?_) fun y hy => ?_
      · refine List.Pairwise.imp_of_mem ?_ (List.Pairwise.filter (fun x => !decide (x < s)) h)
        intro x y hx hy hne e
        have dx := hd x (List.mem_filter.mp hx).1
        have dy := hd y (List.mem_filter.mp hy).1
        apply hne
        have e1 := Nat.div_mul_cancel dx
        have e2 := Nat.div_mul_cancel dy
        have hx0 : 0 < m / x := Nat.div_pos (Nat.le_of_dvd h1 dx) (Nat.pos_of_dvd_of_pos dx h1)
        rw [← e] at e2
        exact Nat.eq_of_mul_eq_mul_left hx0 (by rw [e1, e2])
      · obtain ⟨x, hx, rfl⟩ := List.mem_map.mp hy
        obtain ⟨hx1, hx2⟩ := List.mem_filter.mp hx
        simp at hx2
        rcases Nat.lt_or_ge (m / x) s with z | z
        · exact z
        · exfalso
          have e1 := Nat.div_mul_cancel (hd x hx1)
          have := Nat.mul_le_mul z hx2
          omega
    rw [List.length_map] at q
    exact q
  omega
end PM
/-! PuPow: rests of powers. -/
namespace PM
theorem mul_l {a b g : Int} : a % g * b % g = a * b % g := by rw [Int.mul_emod, Int.emod_emod_of_dvd _ (Int.dvd_refl g), ← Int.mul_emod]
theorem mul_r {a b g : Int} : a * (b % g) % g = a * b % g := by rw [Int.mul_comm, mul_l, Int.mul_comm]
theorem pow_m {a g : Int} {n : Nat} : (a % g) ^ n % g = a ^ n % g := by
  induction n with
  | zero => rw [Int.pow_zero, Int.pow_zero]
  | succ n ih => rw [Int.pow_succ, Int.pow_succ, mul_r, ← mul_l, ih, mul_l]
theorem pow_sq {a : Int} {n : Nat} : (a * a) ^ n = a ^ (2 * n) := by
  induction n with
  | zero => simp
  | succ n ih =>
    rw [Int.pow_succ, ih, show 2 * (n + 1) = 2 * n + 1 + 1 from by omega, Int.pow_succ, Int.pow_succ, Int.mul_assoc]
/-- one step of square and multiply, the last figure 1 -/
theorem step1 {f h g : Int} {n : Nat} : (f * h % g) * (h * h % g) ^ n % g = f * h ^ (2 * n + 1) % g := by
  rw [mul_l, ← mul_r, pow_m, mul_r, pow_sq, Int.pow_succ, Int.mul_assoc, Int.mul_comm h]
theorem step0 {f h g : Int} {n : Nat} : f * (h * h % g) ^ n % g = f * h ^ (2 * n) % g := by
  rw [← mul_r, pow_m, mul_r, pow_sq]
theorem two_cast {n : Nat} : (2 : Int) ^ n = ((2 ^ n : Nat) : Int) := by
  induction n with
  | zero => rfl
  | succ n ih => rw [Int.pow_succ, ih, Nat.pow_succ]; omega
theorem two_pos {n : Nat} : (0 : Int) < 2 ^ n := by
  rw [two_cast]
  have := Nat.two_pow_pos n
  omega
theorem two_mono {m n : Nat} (h : m ≤ n) : (2 : Int) ^ m ≤ 2 ^ n := by
  rw [two_cast, two_cast]
  have := Nat.pow_le_pow_right (show 0 < 2 by decide) h
  omega
theorem two_dbl {f : Int} {k : Nat} : 2 * (f * 2 ^ k) = f * 2 ^ (k + 1) := by rw [Int.pow_succ, Int.mul_comm 2, Int.mul_assoc]
end PM
/-! PuPhi: how many units a number has, by its factors. -/
namespace PM
def cop (m x : Nat) : Bool := Nat.gcd x m == 1
def phi (m : Nat) : Nat := (List.range m).countP (cop m)
theorem phi_units {m : Nat} : (units m).length = phi m := by
  unfold units phi
  rw [List.countP_eq_length_filter]
  rfl
theorem cnt_shift {m : Nat} (f : Nat → Bool) (hf : ∀ x, f (x + m) = f x) : ∀ k, (List.range (m * k)).countP f = k * (List.range m).countP f
  | 0 => by simp
  | k + 1 => by
    rw [Nat.mul_succ, List.range_add, List.countP_append, cnt_shift f hf k, List.countP_map, Nat.succ_mul]
    congr 1
    have : ∀ k x, f (m * k + x) = f x := fun k x => by
      induction k with
      | zero => simp
      | succ k ih => rw [Nat.mul_succ, show m * k + m + x = (m * k + x) + m by omega, hf, ih]
    apply List.countP_congr
    intro x _
    show f (m * k + x) = true ↔ _
    rw [this]
theorem cop_add {m x : Nat} : cop m (x + m) = cop m x := by
  unfold cop
  rw [← gcd_mod, Nat.add_mod_right, gcd_mod]
theorem dvd_cnt {p : Nat} (hp : 1 ≤ p) (g : Nat → Bool) : ∀ m, (List.range (m * p)).countP (fun x => decide (p ∣ x) && g x) = (List.range m).countP fun y => g (p * y)
  | 0 => by simp
  | m + 1 => by
    rw [Nat.succ_mul, List.range_add, List.countP_append, dvd_cnt hp g m, List.range_succ, List.countP_append, List.countP_map]
    congr 1
    obtain ⟨q, rfl⟩ : ∃ q, p = q + 1 := ⟨p - 1, by omega⟩
    rw [List.range_succ_eq_map, List.countP_cons, List.countP_map]
    have z : (List.range q).countP (((fun x => decide ((q + 1) ∣ x) && g x) ∘ fun x => m * (q + 1) + x) ∘ Nat.succ) = 0 := by
      rw [List.countP_eq_zero]
      intro x hx
      have hx := List.mem_range.mp hx
      simp only [Function.comp_apply, Bool.and_eq_true, decide_eq_true_eq, not_and]
      intro h
      have h2 := (Nat.dvd_add_right (Nat.dvd_mul_left (q + 1) m)).mp h
      have := Nat.le_of_dvd (by omega) h2
      omega
    rw [z]
    simp only [Function.comp_apply, Nat.add_zero, Nat.zero_add, List.countP_singleton, Nat.dvd_mul_left, decide_true, Bool.true_and, Nat.mul_comm]
theorem gcd_mul_one {x a b : Nat} : Nat.gcd x (a * b) = 1 ↔ Nat.gcd x a = 1 ∧ Nat.gcd x b = 1 := by
  constructor
  · intro h
    exact ⟨Nat.Coprime.coprime_mul_right_right h, Nat.Coprime.coprime_mul_left_right h⟩
  · rintro ⟨h1, h2⟩
    exact Nat.Coprime.mul_right h1 h2
theorem cop_mul {m p x : Nat} : cop (m * p) x = (cop m x && cop p x) := by
  unfold cop
  rw [Bool.eq_iff_iff]
  simp only [beq_iff_eq, Bool.and_eq_true]
  exact gcd_mul_one
theorem cop_prm {p x : Nat} (hp : Prm p) : cop p x = !decide (p ∣ x) := by
  unfold cop
  by_cases h : p ∣ x
  · rw [Nat.gcd_eq_right h]
    have := hp.1
    simp only [h, decide_true, Bool.not_true, beq_eq_false_iff_ne]
    omega
  · rw [Nat.gcd_comm, prm_gcd hp h]
    simp [h]
theorem phi_in {m p : Nat} (hp : Prm p) (h : p ∣ m) : phi (m * p) = phi m * p := by
  unfold phi
  rw [Nat.mul_comm (List.countP _ _) p, ← cnt_shift (cop m) (fun x => cop_add) p]
  apply List.countP_congr
  intro x _
  rw [cop_mul]
  obtain ⟨k, rfl⟩ := h
  simp only [Bool.and_eq_true, Nat.mul_comm p k, cop_mul]
  constructor
  · exact fun z => z.1
  · exact fun z => ⟨z, z.2⟩
theorem countP_split (l : List Nat) (f g : Nat → Bool) : l.countP f = l.countP (fun x => f x && !g x) + l.countP (fun x => g x && f x) := by
  induction l with
  | nil => rfl
  | cons a r ih =>
    simp only [List.countP_cons, ih]
    cases f a <;> cases g a <;> simp <;> omega
theorem phi_out {m p : Nat} (hp : Prm p) (h : ¬p ∣ m) : phi (m * p) = phi m * (p - 1) := by
  have h1 := hp.1
  have e1 := cnt_shift (m := m) (cop m) (fun x => cop_add) p
  rw [countP_split _ (cop m) fun x => decide (p ∣ x), dvd_cnt (by omega)] at e1
  have e2 : (List.range m).countP (fun y => cop m (p * y)) = phi m := by
    unfold phi
    apply List.countP_congr
    intro x _
    unfold cop
    simp only [beq_iff_eq]
    rw [Nat.gcd_comm, Nat.gcd_comm x, gcd_mul_one]
    exact ⟨fun z => z.2, fun z => ⟨by rw [Nat.gcd_comm]; exact prm_gcd hp h, z⟩⟩
  have e3 : (List.range (m * p)).countP (fun x => cop m x && !decide (p ∣ x)) = phi (m * p) := by
    unfold phi
    apply List.countP_congr
    intro x _
    rw [cop_mul, cop_prm hp]
  rw [e2, e3] at e1
  have e4 : p * (List.range m).countP (cop m) = phi m * (p - 1) + phi m := by
    show p * phi m = _
    rw [← Nat.mul_succ, Nat.mul_comm]
    congr 1
    omega
  omega
theorem phi_one : phi 1 = 1 := by decide
theorem phi_pp {m p : Nat} (hp : Prm p) (h : ¬p ∣ m) : ∀ k, phi (m * p ^ (k + 1)) = phi m * (p ^ k * (p - 1))
  | 0 => by rw [Nat.pow_one, Nat.pow_zero, Nat.one_mul, phi_out hp h]
  | k + 1 => by
    rw [Nat.pow_succ, ← Nat.mul_assoc, phi_in hp (Nat.dvd_mul_left_of_dvd (Nat.dvd_of_pow_dvd (k := k + 1) (by omega) (Nat.dvd_refl _)) m), phi_pp hp h k]
    rw [Nat.pow_succ]
    simp only [Nat.mul_assoc, Nat.mul_comm, Nat.mul_left_comm]
/-- the product over the factors -/
def phiF : List (Nat × Nat) → Nat
  | [] => 1
  | (p, k) :: r => phiF r * (p ^ (k - 1) * (p - 1))
theorem phi_fac {fs : List (Nat × Nat)} (h : FacOk fs) : phi (prodF fs) = phiF fs := by
  induction fs with
  | nil => exact phi_one
  | cons a r ih =>
    obtain ⟨p, k⟩ := a
    have hp := h.pr _ (List.mem_cons_self)
    have hn : ¬p ∣ prodF r := prm_not_prod hp.1 (fun b hb => (h.tail.pr b hb).1) fun b hb e => by
      have := (List.pairwise_cons.mp h.up).1 b hb
      omega
    obtain ⟨j, rfl⟩ : ∃ j, k = j + 1 := ⟨k - 1, by have := hp.2; simp only at this; omega⟩
    show phi (p ^ (j + 1) * prodF r) = _
    rw [Nat.mul_comm, phi_pp hp.1 hn, ih h.tail]
    rfl
theorem phi_pos {n : Nat} (h : 1 ≤ n) : 1 ≤ phi n := by
  unfold phi
  rw [List.one_le_countP_iff]
  rcases Nat.lt_or_ge n 2 with g | g
  · exact ⟨0, List.mem_range.mpr (by omega), by rw [show n = 1 by omega]; decide⟩
  · exact ⟨1, List.mem_range.mpr (by omega), by simp [cop]⟩
theorem phi_le {n : Nat} : phi n ≤ n := by
  have := List.countP_le_length (p := cop n) (l := List.range n)
  rwa [List.length_range] at this
theorem euler_phi {a n : Nat} (hn : 1 ≤ n) (ha : Nat.gcd a n = 1) : a ^ phi n % n = 1 % n := by
  rw [← phi_units]
  exact euler hn ha
end PM
/-! PuTow: powers by rests of their exponents; towers. -/
namespace PM
theorem pull {p m : Nat} (hp : 2 ≤ p) (hm : 1 ≤ m) : ∃ k r, m = p ^ k * r ∧ ¬p ∣ r := by
  induction m using Nat.strongRecOn with
  | ind m ih =>
    by_cases h : p ∣ m
    · obtain ⟨q, rfl⟩ := h
      have q1 : 1 ≤ q := Nat.pos_of_mul_pos_left hm
      have q2 : q < p * q := by
        have := Nat.mul_le_mul_right q hp
        omega
      obtain ⟨k, r, e, hr⟩ := ih q q2 q1
      exact ⟨k + 1, r, by rw [Nat.pow_succ, Nat.mul_comm (p ^ k) p, Nat.mul_assoc, ← e], hr⟩
    · exact ⟨0, m, by simp, h⟩
theorem prm_ex {n : Nat} (h : 2 ≤ n) : ∃ p, Prm p ∧ p ∣ n := by
  induction n using Nat.strongRecOn with
  | ind n ih =>
    by_cases hp : Prm n
    · exact ⟨n, hp, Nat.dvd_refl n⟩
    · have : ∃ d, d ∣ n ∧ d ≠ 1 ∧ d ≠ n := by
        refine Classical.byContradiction fun z => hp ⟨h, fun d hd => ?_⟩
        refine Classical.byContradiction fun y => z ⟨d, hd, fun e => y (Or.inl e), fun e => y (Or.inr e)⟩
      obtain ⟨d, hd, d1, d2⟩ := this
      have d3 := Nat.le_of_dvd (by omega) hd
      have d0 : 0 < d := Nat.pos_of_dvd_of_pos hd (by omega)
      obtain ⟨p, hp, hq⟩ := ih d (by omega) (by omega)
      exact ⟨p, hp, Nat.dvd_trans hq hd⟩
theorem pp_dvd {m p j : Nat} (hm : 1 ≤ m) (hp : Prm p) (h : p ^ (j + 1) ∣ m) : p ^ j * (p - 1) ∣ phi m := by
  obtain ⟨k, r, rfl, hr⟩ := pull hp.1 hm
  have hk : j + 1 ≤ k := by
    have c : Nat.gcd (p ^ (j + 1)) r = 1 := Nat.Coprime.pow_left _ (prm_gcd hp hr)
    have := Nat.Coprime.dvd_of_dvd_mul_right c h
    exact (Nat.pow_dvd_pow_iff_le_right hp.1).mp this
  obtain ⟨i, rfl⟩ : ∃ i, k = i + 1 := ⟨k - 1, by omega⟩
  rw [Nat.mul_comm (p ^ (i + 1)), phi_pp hp hr]
  exact Nat.dvd_mul_left_of_dvd (Nat.mul_dvd_mul_right (Nat.pow_dvd_pow p (by omega)) _) _
theorem all_pp {m x : Nat} (hm : 1 ≤ m) (h : ∀ p j, Prm p → p ^ (j + 1) ∣ m → p ^ (j + 1) ∣ x) : m ∣ x := by
  induction m using Nat.strongRecOn with
  | ind m ih =>
    rcases Nat.lt_or_ge m 2 with g | g
    · rw [show m = 1 by omega]; exact Nat.one_dvd x
    · obtain ⟨p, hp, hd⟩ := prm_ex g
      obtain ⟨k, r, rfl, hr⟩ := pull hp.1 hm
      have r1 : 1 ≤ r := by
        rcases Nat.eq_zero_or_pos r with e | e
        · subst e; exact absurd (Nat.dvd_zero p) hr
        · exact e
      have k1 : 1 ≤ k := by
        rcases Nat.eq_zero_or_pos k with e | e
        · subst e; rw [Nat.pow_zero, Nat.one_mul] at hd; exact absurd hd hr
        · exact e
      obtain ⟨i, rfl⟩ : ∃ i, k = i + 1 := ⟨k - 1, by omega⟩
      have hlt : r < p ^ (i + 1) * r := by
        have : 2 ≤ p ^ (i + 1) := Nat.le_trans hp.1 (Nat.le_pow (by omega))
        have := Nat.mul_le_mul_right r this
        omega
      have h1 := ih r hlt r1 fun q j hq hj => h q j hq (Nat.dvd_mul_left_of_dvd hj _)
      have h2 := h p i hp (Nat.dvd_mul_right _ _)
      exact Nat.Coprime.mul_dvd_of_dvd_of_dvd (Nat.Coprime.pow_left _ (prm_gcd hp hr)) h2 h1
/-- v is great enough to be an exponent by a number with c units -/
def Amp (c v : Nat) : Prop := ∀ p j, Prm p → p ^ j * (p - 1) ∣ c → j + 1 ≤ v
theorem Amp.up {c v w : Nat} (h : Amp c v) (l : v ≤ w) : Amp c w := fun p j hp hd => Nat.le_trans (h p j hp hd) l
theorem two_gt : ∀ j, j + 1 ≤ 2 ^ j
  | 0 => by decide
  | j + 1 => by have := two_gt j; rw [Nat.pow_succ]; omega
theorem amp_self {c v : Nat} (hc : 1 ≤ c) (h : c ≤ v) : Amp c v := fun p j hp hd => by
  have h1 := Nat.le_of_dvd hc hd
  have h2 : p ^ j ≤ p ^ j * (p - 1) := Nat.le_mul_of_pos_right _ (by have := hp.1; omega)
  have h3 : 2 ^ j ≤ p ^ j := Nat.pow_le_pow_left hp.1 j
  have := two_gt j
  omega
theorem amp_pow {a c v : Nat} (hc : 1 ≤ c) (ha : 2 ≤ a) (h : Amp (phi c) v) : Amp c (a ^ v) := fun p j hp hd => by
  rcases Nat.eq_zero_or_pos j with e | e
  · subst e
    exact Nat.pow_pos (by omega)
  · obtain ⟨i, rfl⟩ : ∃ i, j = i + 1 := ⟨j - 1, by omega⟩
    have h1 := h p i hp (pp_dvd hc hp (Nat.dvd_trans (Nat.dvd_mul_right _ _) hd))
    have h2 : 2 ^ (i + 1) ≤ a ^ v := Nat.le_trans (Nat.pow_le_pow_right (by decide) h1) (Nat.pow_le_pow_left ha v)
    have := two_gt (i + 1)
    omega
theorem dvd_sub_of {m x y : Nat} (h : x % m = y % m) : m ∣ x - y := Nat.dvd_of_mod_eq_zero (Nat.sub_mod_eq_zero_of_mod_eq h)
theorem mod_of_sub {m x y : Nat} (l : y ≤ x) (h : m ∣ x - y) : x % m = y % m := by
  obtain ⟨t, ht⟩ := h
  rw [show x = y + m * t by omega, Nat.add_mul_mod_self_left]
theorem pow_add_mul {a n v k : Nat} (h : a ^ k % n = 1 % n) : ∀ t, a ^ (v + k * t) % n = a ^ v % n
  | 0 => by simp
  | t + 1 => by
    rw [Nat.mul_succ, ← Nat.add_assoc, Nat.pow_add, Nat.mul_mod, pow_add_mul h t, h, ← Nat.mul_mod, Nat.mul_one]
theorem gen_euler {a m v w : Nat} (hm : 1 ≤ m) (hv : Amp (phi m) v) (hw : Amp (phi m) w) (h : v % phi m = w % phi m) : a ^ v % m = a ^ w % m := by
  have main : ∀ v w, Amp (phi m) w → w ≤ v → v % phi m = w % phi m → a ^ v % m = a ^ w % m := by
    intro v w hw l h
    have hd : phi m ∣ v - w := dvd_sub_of h
    rcases Nat.eq_zero_or_pos a with e | e
    · subst e
      have w1 : 1 ≤ w := by
        have := hw 2 0 (by decide +kernel) (by simp)
        omega
      rw [Nat.zero_pow (by omega), Nat.zero_pow (by omega)]
    have hle : a ^ w ≤ a ^ v := Nat.pow_le_pow_right e l
    refine mod_of_sub hle ?_
    refine all_pp hm fun p j hp hj => ?_
    have h1 := pp_dvd hm hp hj
    have h2 := hw p j hp h1
    by_cases hpa : p ∣ a
    · have h3 : p ^ (j + 1) ∣ a ^ w := Nat.dvd_trans (Nat.pow_dvd_pow_iff (by omega : j + 1 ≠ 0) |>.mpr hpa) (Nat.pow_dvd_pow a h2)
      have h4 : p ^ (j + 1) ∣ a ^ v := Nat.dvd_trans h3 (Nat.pow_dvd_pow a l)
      exact Nat.dvd_sub h4 h3
    · have c : Nat.gcd a (p ^ (j + 1)) = 1 := by
        rw [Nat.gcd_comm]
        exact Nat.Coprime.pow_left _ (prm_gcd hp hpa)
      have e1 := euler_phi (Nat.pow_pos (by have := hp.1; omega)) c
      have e2 : phi (p ^ (j + 1)) = p ^ j * (p - 1) := by
        have := phi_pp (m := 1) hp (fun z => by have := Nat.le_of_dvd (by omega) z; have := hp.1; omega) j
        rwa [Nat.one_mul, phi_one, Nat.one_mul] at this
      rw [e2] at e1
      obtain ⟨t, ht⟩ := Nat.dvd_trans h1 hd
      have ev : v = w + p ^ j * (p - 1) * t := by omega
      refine dvd_sub_of ?_
      rw [ev, pow_add_mul e1]
  rcases Nat.le_total w v with l | l
  · exact main v w hw l h
  · exact (main w v hv l h.symm).symm
/-- folded by a number: itself, or its rest and the number -/
def fold (x m : Nat) : Nat := if x < m then x else x % m + m
theorem fold_mod {x m : Nat} : fold x m % m = x % m := by
  unfold fold
  split
  · rfl
  · rw [Nat.add_mod_right, Nat.mod_mod]
theorem fold_lt {x m : Nat} (h : x < m) : fold x m = x := if_pos h
theorem fold_ge {x m : Nat} (h : m ≤ x) : m ≤ fold x m := by
  unfold fold
  rw [if_neg (by omega)]
  omega
theorem fold_pos {x m : Nat} (h : 1 ≤ x) (hm : 1 ≤ m) : 1 ≤ fold x m := by
  unfold fold
  split <;> omega
theorem fold_lt2 {x m : Nat} (hm : 1 ≤ m) : fold x m < 2 * m := by
  unfold fold
  have := Nat.mod_lt x hm
  split <;> omega
theorem fold_of {x y m : Nat} (h : x % m = y % m) (hx : m ≤ x) (hy : m ≤ y) : fold x m = fold y m := by
  unfold fold
  rw [if_neg (by omega), if_neg (by omega), h]
theorem fold_mul {x y m : Nat} (hm : 1 ≤ m) (hx : 1 ≤ x) (hy : 1 ≤ y) : fold (fold x m * fold y m) m = fold (x * y) m := by
  rcases Nat.lt_or_ge x m with gx | gx
  · rcases Nat.lt_or_ge y m with gy | gy
    · rw [fold_lt gx, fold_lt gy]
    · have h1 := fold_ge gy
      rw [fold_lt gx]
      refine fold_of ?_ ?_ ?_
      · rw [Nat.mul_mod, fold_mod, ← Nat.mul_mod]
      · exact Nat.le_trans h1 (Nat.le_mul_of_pos_left _ hx)
      · exact Nat.le_trans gy (Nat.le_mul_of_pos_left _ hx)
  · have h1 := fold_ge gx
    refine fold_of ?_ ?_ ?_
    · rw [Nat.mul_mod, fold_mod, fold_mod, ← Nat.mul_mod]
    · exact Nat.le_trans h1 (Nat.le_mul_of_pos_right _ (fold_pos hy hm))
    · exact Nat.le_trans gx (Nat.le_mul_of_pos_right _ hy)
/-- a chain of units, down to 1 -/
inductive Chain : List Nat → Prop
  | one : Chain [1]
  | more {c : Nat} {cs : List Nat} : 1 < c → Chain (phi c :: cs) → Chain (c :: phi c :: cs)
def foldT : List Nat → List Nat → Nat
  | a :: r, c :: cs => fold (a ^ foldT r cs) c
  | _, _ => 1
def tow : List Nat → Nat
  | [] => 1
  | a :: r => a ^ tow r
theorem tow_pos {row : List Nat} (h : ∀ a ∈ row, 1 ≤ a) : 1 ≤ tow row := by
  cases row with
  | nil => decide
  | cons a r => exact Nat.pow_pos (h a List.mem_cons_self)
theorem tow_fold : ∀ {cs : List Nat} {c : Nat} {row : List Nat}, Chain (c :: cs) → (∀ a ∈ row, 1 ≤ a) → foldT row (c :: cs) % c = tow row % c ∧ (foldT row (c :: cs) = tow row ∨ (Amp c (foldT row (c :: cs)) ∧ Amp c (tow row)))
  | _, _, [], _, _ => ⟨rfl, .inl rfl⟩
  | _, _, a :: r, .one, hr => by
    have h1 : foldT (a :: r) [1] = fold (a ^ 1) 1 := by cases r <;> rfl
    refine ⟨by rw [Nat.mod_one, Nat.mod_one], .inr ⟨?_, amp_self (by decide) (tow_pos hr)⟩⟩
    rw [h1]
    exact amp_self (by decide) (fold_pos (by rw [Nat.pow_one]; exact hr a List.mem_cons_self) (by decide))
  | _, c, a :: r, .more (cs := cs) h1 hc, hr => by
    have ih := tow_fold (row := r) hc fun b hb => hr b (List.mem_cons_of_mem _ hb)
    have ha := hr a List.mem_cons_self
    show fold (a ^ foldT r (phi c :: cs)) c % c = a ^ tow r % c ∧ (fold (a ^ foldT r (phi c :: cs)) c = a ^ tow r ∨ (Amp c (fold (a ^ foldT r (phi c :: cs)) c) ∧ Amp c (a ^ tow r)))
    generalize foldT r (phi c :: cs) = v at ih
    generalize tow r = T at ih
    rcases Nat.lt_or_ge a 2 with a2 | a2
    · have e : a = 1 := by omega
      subst e
      rw [Nat.one_pow, Nat.one_pow, fold_lt h1]
      exact ⟨rfl, .inl rfl⟩
    · have key : a ^ v % c = a ^ T % c := by
        rcases ih.2 with e | ⟨e1, e2⟩
        · rw [e]
        · exact gen_euler (by omega) e1 e2 ih.1
      refine ⟨by rw [fold_mod, key], ?_⟩
      rcases ih.2 with e | ⟨e1, e2⟩
      · subst e
        rcases Nat.lt_or_ge (a ^ v) c with g | g
        · exact .inl (fold_lt g)
        · exact .inr ⟨amp_self (by omega) (fold_ge g), amp_self (by omega) g⟩
      · refine .inr ⟨?_, amp_pow (by omega) a2 e2⟩
        rcases Nat.lt_or_ge (a ^ v) c with g | g
        · rw [fold_lt g]; exact amp_pow (by omega) a2 e1
        · exact amp_self (by omega) (fold_ge g)
/-- units over the factors, as the program counts them -/
theorem phi_step {fs : List (Nat × Nat)} {n : Nat} (h : IsFac fs n) : phi n = phiF fs := by rw [← h.2, phi_fac h.1]
theorem chain_pos {l : List Nat} (h : Chain l) : ∀ c ∈ l, 1 ≤ c := by
  induction h with
  | one => intro c hc; rw [List.mem_singleton.mp hc]; exact Nat.le_refl 1
  | more h1 _ ih =>
    intro c hc
    rcases List.mem_cons.mp hc with e | e
    · omega
    · exact ih c e
theorem phi_lt {n : Nat} (h : 2 ≤ n) : phi n < n := by
  unfold phi
  have h1 : (List.range n).countP (cop n) < (List.range n).length := by
    refine Nat.lt_of_le_of_ne List.countP_le_length fun e => ?_
    have := List.countP_eq_length.mp e 0 (List.mem_range.mpr (by omega))
    unfold cop at this
    rw [Nat.gcd_zero_left, beq_iff_eq] at this
    omega
  rwa [List.length_range] at h1
theorem phi_half {n : Nat} (h1 : 1 ≤ n) (h : 2 ∣ n) : 2 * phi n ≤ n := by
  obtain ⟨k, r, rfl, hr⟩ := pull (p := 2) (by decide) h1
  rcases Nat.eq_zero_or_pos k with e | e
  · subst e; rw [Nat.pow_zero, Nat.one_mul] at h; exact absurd h hr
  · obtain ⟨i, rfl⟩ : ∃ i, k = i + 1 := ⟨k - 1, by omega⟩
    have h2 : Prm 2 := by decide +kernel
    rw [Nat.mul_comm (2 ^ (i + 1)), phi_pp h2 hr, Nat.pow_succ]
    have := Nat.mul_le_mul_right (2 ^ i) (phi_le (n := r))
    have e1 : 2 * (phi r * (2 ^ i * (2 - 1))) = 2 * (phi r * 2 ^ i) := by simp
    rw [e1, ← Nat.mul_assoc r, Nat.mul_comm _ 2]
    exact Nat.mul_le_mul_left 2 this
theorem phi_even {n : Nat} (h : 3 ≤ n) : 2 ∣ phi n := by
  obtain ⟨k, r, rfl, hr⟩ := pull (m := n) (p := 2) (by decide) (by omega)
  have r1 : 1 ≤ r := by
    rcases Nat.eq_zero_or_pos r with e | e
    · subst e; exact absurd (Nat.dvd_zero 2) hr
    · exact e
  rcases Nat.lt_or_ge r 2 with g | g
  · have er : r = 1 := by omega
    subst er
    rw [Nat.mul_one] at h ⊢
    obtain ⟨i, rfl⟩ : ∃ i, k = i + 2 := ⟨k - 2, by
      rcases Nat.lt_or_ge k 2 with z | z
      · have := Nat.pow_le_pow_right (show 0 < 2 by decide) (show k ≤ 1 by omega)
        omega
      · omega⟩
    have := pp_dvd (j := i + 1) (Nat.pow_pos (n := i + 2) (show 0 < 2 by decide)) (by decide +kernel : Prm 2) (Nat.dvd_refl _)
    exact Nat.dvd_trans (Nat.dvd_trans (Nat.dvd_of_pow_dvd (k := i + 1) (by omega) (Nat.dvd_refl _)) (Nat.dvd_mul_right _ _)) this
  · obtain ⟨p, hp, hd⟩ := prm_ex g
    have po : p % 2 = 1 := by
      rcases Nat.mod_two_eq_zero_or_one p with z | z
      · exact absurd (Nat.dvd_trans (Nat.dvd_of_mod_eq_zero z) hd) hr
      · exact z
    have h2 := pp_dvd (j := 0) (m := 2 ^ k * r) (Nat.mul_pos (Nat.pow_pos (by decide)) r1) hp (by rw [Nat.pow_one]; exact Nat.dvd_mul_left_of_dvd hd _)
    rw [Nat.pow_zero, Nat.one_mul] at h2
    exact Nat.dvd_trans ⟨(p - 1) / 2, by omega⟩ h2
theorem chain_uniq : ∀ {l m : List Nat}, Chain l → Chain m → l.head? = m.head? → l = m
  | _, _, .one, .one, _ => rfl
  | _, _, .one, .more h _, e => by simp at e; omega
  | _, _, .more h _, .one, e => by simp at e; omega
  | _, _, .more (c := c) (cs := cs) h1 h2, .more (c := c') (cs := cs') h3 h4, e => by
    simp at e
    subst e
    have := chain_uniq h2 h4 rfl
    rw [this]
theorem chain_le : ∀ {l : List Nat} {c : Nat}, Chain (c :: l) → ∀ x ∈ c :: l, x ≤ c
  | _, _, .one, x, hx => by rw [List.mem_singleton.mp hx]; exact Nat.le_refl 1
  | _, c, .more h1 h2, x, hx => by
    rcases List.mem_cons.mp hx with e | e
    · omega
    · have := chain_le h2 x e
      have := phi_le (n := c)
      omega
/-- both ways to fold a chain of alike ones -/
theorem amp_fold {a : Nat} (ha : 2 ≤ a) : ∀ {cs : List Nat} {c : Nat}, Chain (c :: cs) → ∀ row : List Nat, (∀ b ∈ row, b = a) → row.length = cs.length + 1 → Amp c (foldT row (c :: cs))
  | _, _, .one, [b], hb, _ => by
    rw [hb b List.mem_cons_self]
    exact amp_self (by decide) (fold_pos (Nat.pow_pos (by omega)) (by decide))
  | _, _, .one, [], _, h => by simp at h
  | _, _, .one, _ :: _ :: _, _, h => by simp at h
  | _, c, .more (cs := cs) h1 hc, [], _, h => by simp at h
  | _, c, .more (cs := cs) h1 hc, b :: r, hb, h => by
    have ih := amp_fold ha hc r (fun x hx => hb x (List.mem_cons_of_mem _ hx)) (by simpa using h)
    rw [hb b List.mem_cons_self]
    show Amp c (fold (a ^ foldT r (phi c :: cs)) c)
    generalize foldT r (phi c :: cs) = v at ih
    rcases Nat.lt_or_ge (a ^ v) c with g | g
    · rw [fold_lt g]; exact amp_pow (by omega) ha ih
    · exact amp_self (by omega) (fold_ge g)
/-- with twenty times the number added -/
def stepW (a : Nat) : List Nat → Nat
  | [] => 1
  | c :: cs => a ^ stepW a cs % c + 20 * c
theorem stepW_eq {a : Nat} (ha : 2 ≤ a) : ∀ {cs : List Nat} {c : Nat}, Chain (c :: cs) → ∀ row : List Nat, (∀ b ∈ row, b = a) → row.length = cs.length + 1 → foldT row (c :: cs) % c = stepW a (c :: cs) % c
  | _, _, .one, _, _, _ => by rw [Nat.mod_one, Nat.mod_one]
  | _, c, .more (cs := cs) h1 hc, [], _, h => by simp at h
  | _, c, .more (cs := cs) h1 hc, b :: r, hb, h => by
    have hb' : ∀ x ∈ r, x = a := fun x hx => hb x (List.mem_cons_of_mem _ hx)
    have hl : r.length = cs.length + 1 := by simpa using h
    have ih := stepW_eq ha hc r hb' hl
    have am := amp_fold ha hc r hb' hl
    rw [hb b List.mem_cons_self]
    show fold (a ^ foldT r (phi c :: cs)) c % c = (a ^ stepW a (phi c :: cs) % c + 20 * c) % c
    rw [fold_mod, Nat.add_mul_mod_self_right, Nat.mod_mod]
    have p1 := phi_pos (n := c) (by omega)
    refine gen_euler (by omega) am (amp_self p1 ?_) ih
    show phi c ≤ a ^ stepW a cs % phi c + 20 * phi c
    omega
end PM
/-! PuChk: primes shown by a count that the kernel runs. -/
namespace PM
def noDiv (n : Nat) : Nat → Nat → Bool
  | 0, d => decide (n < d * d)
  | f + 1, d => decide (n < d * d) || (decide (n % d ≠ 0) && noDiv n f (d + 1))
theorem noDiv_prm {n : Nat} (hn : 2 ≤ n) : ∀ f d, Rough n d → noDiv n f d = true → Prm n
  | 0, d, hr, h => rough_self hn hr (of_decide_eq_true h)
  | f + 1, d, hr, h => by
    simp only [noDiv, Bool.or_eq_true, Bool.and_eq_true, decide_eq_true_eq] at h
    rcases h with h | ⟨h1, h2⟩
    · exact rough_self hn hr h
    · exact noDiv_prm hn f (d + 1) (rough_next hr fun z => h1 (Nat.mod_eq_zero_of_dvd z)) h2
theorem prm_chk {n : Nat} (h : (decide (2 ≤ n) && noDiv n n 2) = true) : Prm n := by
  simp only [Bool.and_eq_true, decide_eq_true_eq] at h
  exact noDiv_prm h.1 n 2 (fun d d1 d2 => by omega) h.2
theorem noDiv_of {n : Nat} (h : Prm n) : ∀ f d, 2 ≤ d → n < (d + f) * (d + f) → noDiv n f d = true
  | 0, d, h2, h3 => decide_eq_true h3
  | f + 1, d, h2, h3 => by
    simp only [noDiv, Bool.or_eq_true, Bool.and_eq_true, decide_eq_true_eq]
    by_cases c : n < d * d
    · exact .inl c
    · refine .inr ⟨fun z => ?_, noDiv_of h f (d + 1) (by omega) (by rw [show d + 1 + f = d + (f + 1) by omega]; exact h3)⟩
      rcases h.2 d (Nat.dvd_of_mod_eq_zero z) with e | e
      · omega
      · subst e
        have := Nat.mul_le_mul_right d h2
        omega
theorem chk_prm {n : Nat} (h : Prm n) : (decide (2 ≤ n) && noDiv n n 2) = true := by
  rw [decide_eq_true h.1, Bool.true_and]
  exact noDiv_of h n 2 (Nat.le_refl 2) (by
    have := Nat.mul_le_mul_right (2 + n) (show 1 ≤ 2 + n by omega)
    omega)
def upChk : List (Nat × Nat) → Bool
  | [] => true
  | a :: r => r.all (fun b => decide (a.1 < b.1)) && upChk r
theorem upChk_pw : ∀ {fs : List (Nat × Nat)}, upChk fs = true → fs.Pairwise fun a b => a.1 < b.1
  | [], _ => .nil
  | a :: r, h => by
    simp only [upChk, Bool.and_eq_true, List.all_eq_true, decide_eq_true_eq] at h
    exact List.pairwise_cons.mpr ⟨h.1, upChk_pw h.2⟩
def facChk (fs : List (Nat × Nat)) : Bool := fs.all (fun a => (decide (2 ≤ a.1) && noDiv a.1 a.1 2) && decide (1 ≤ a.2)) && upChk fs
theorem facOk_chk {fs : List (Nat × Nat)} (h : facChk fs = true) : FacOk fs := by
  unfold facChk at h
  rw [Bool.and_eq_true, List.all_eq_true] at h
  refine ⟨fun a ha => ?_, upChk_pw h.2⟩
  have := h.1 a ha
  rw [Bool.and_eq_true, decide_eq_true_eq] at this
  exact ⟨prm_chk this.1, this.2⟩
theorem isFac_chk {fs : List (Nat × Nat)} {n : Nat} (h : (facChk fs && decide (prodF fs = n)) = true) : IsFac fs n := by
  rw [Bool.and_eq_true, decide_eq_true_eq] at h
  exact ⟨facOk_chk h.1, h.2⟩
end PM
namespace PM
/-! how many primes there are to 10 ^ 5: by common divisors with the product of the primes to 316 -/
def lowP : List (Nat × Nat) := [(2, 1), (3, 1), (5, 1), (7, 1), (11, 1), (13, 1), (17, 1), (19, 1), (23, 1), (29, 1), (31, 1), (37, 1), (41, 1), (43, 1), (47, 1), (53, 1), (59, 1), (61, 1), (67, 1), (71, 1), (73, 1), (79, 1), (83, 1), (89, 1), (97, 1), (101, 1), (103, 1), (107, 1), (109, 1), (113, 1), (127, 1), (131, 1), (137, 1), (139, 1), (149, 1), (151, 1), (157, 1), (163, 1), (167, 1), (173, 1), (179, 1), (181, 1), (191, 1), (193, 1), (197, 1), (199, 1), (211, 1), (223, 1), (227, 1), (229, 1), (233, 1), (239, 1), (241, 1), (251, 1), (257, 1), (263, 1), (269, 1), (271, 1), (277, 1), (281, 1), (283, 1), (293, 1), (307, 1), (311, 1), (313, 1)]
def lowM : Nat := 61076929465933196099278943388997855150356143888238371488665496574810764573680243467182799164806563626522181311132959748531230210
theorem lowP_ok : FacOk lowP := facOk_chk (by decide +kernel)
theorem lowP_prod : prodF lowP = lowM := by decide +kernel
theorem lowP_small : lowP.all (fun a => decide (a.1 < 317)) = true := by decide +kernel
theorem low_all : (List.range' 2 315).all (fun d => decide (Nat.gcd d lowM ≠ 1)) = true := by decide +kernel
theorem low_rough {j : Nat} (h : Nat.gcd j lowM = 1) : Rough j 317 := fun d d1 d2 hd => by
  have h1 := List.all_eq_true.mp low_all d (List.mem_range'_1.mpr ⟨d1, by omega⟩)
  rw [decide_eq_true_eq] at h1
  have h2 : Nat.gcd d lowM ∣ Nat.gcd j lowM := Nat.dvd_gcd (Nat.dvd_trans (Nat.gcd_dvd_left _ _) hd) (Nat.gcd_dvd_right _ _)
  rw [h] at h2
  exact h1 (Nat.dvd_one.mp h2)
theorem low_iff {j : Nat} (h1 : 317 ≤ j) (h2 : j ≤ 100000) : Prm j ↔ Nat.gcd j lowM = 1 := by
  constructor
  · intro h
    refine prm_gcd h fun hd => ?_
    rw [← lowP_prod] at hd
    refine prm_not_prod h (fun a ha => (lowP_ok.pr a ha).1) (fun a ha e => ?_) hd
    have := List.all_eq_true.mp lowP_small a ha
    rw [decide_eq_true_eq] at this
    omega
  · intro h
    exact rough_self (by omega) (low_rough h) (by omega)
def lowT (d : Nat) : Bool := Nat.ble d 100000 && Nat.beq (Nat.gcd d lowM) 1
def cntB : Nat → Nat → Nat
  | 0, d => bif lowT d then 1 else 0
  | k + 1, d => cntB k d + cntB k (d + 2 ^ k)
theorem cntB_eq : ∀ k d, cntB k d = ((List.range' d (2 ^ k)).filter lowT).length
  | 0, d => by
    show (bif lowT d then 1 else 0) = _
    rw [show List.range' d (2 ^ 0) = [d] from rfl]
    cases e : lowT d
    · rw [List.filter_cons_of_neg (by rw [e]; decide)]; rfl
    · rw [List.filter_cons_of_pos e]; rfl
  | k + 1, d => by
    show cntB k d + cntB k (d + 2 ^ k) = _
    rw [cntB_eq k d, cntB_eq k (d + 2 ^ k), ← List.length_append, ← List.filter_append, List.range'_append_1, show 2 ^ k + 2 ^ k = 2 ^ (k + 1) by rw [Nat.pow_succ]; omega]
theorem cnt_all : cntB 17 317 = 9527 := by decide +kernel
theorem cnt_low : ((List.range' 2 315).filter fun j => decide (2 ≤ j) && noDiv j j 2).length = 65 := by decide +kernel
theorem primes_many [∀ n, Decidable (Prm n)] : ((List.range' 2 99999).filter fun j => decide (Prm j)).length = 9592 := by
  rw [show List.range' 2 99999 = List.range' 2 315 ++ List.range' 317 99684 from (List.range'_append_1 (s := 2) (m := 315) (n := 99684)).symm, List.filter_append, List.length_append]
  have e1 : (List.range' 2 315).filter (fun j => decide (Prm j)) = (List.range' 2 315).filter fun j => decide (2 ≤ j) && noDiv j j 2 := by
    refine List.filter_congr fun j _ => ?_
    rw [Bool.eq_iff_iff, decide_eq_true_eq]
    exact ⟨chk_prm, prm_chk⟩
  have e2 : (List.range' 317 99684).filter (fun j => decide (Prm j)) = (List.range' 317 99684).filter lowT := by
    refine List.filter_congr fun j hj => ?_
    rw [List.mem_range'_1] at hj
    rw [Bool.eq_iff_iff, decide_eq_true_eq, low_iff hj.1 (by omega)]
    unfold lowT
    rw [Bool.and_eq_true, Nat.beq_eq, Nat.ble_eq]
    exact ⟨fun h => ⟨by omega, h⟩, fun h => h.2⟩
  have e3 : (List.range' 100001 31388).filter lowT = [] := by
    rw [List.filter_eq_nil_iff]
    intro j hj
    rw [List.mem_range'_1] at hj
    unfold lowT
    rw [Bool.and_eq_true, Nat.ble_eq]
    omega
  have e4 := cntB_eq 17 317
  rw [cnt_all, show List.range' 317 (2 ^ 17) = List.range' 317 99684 ++ List.range' 100001 31388 from (List.range'_append_1 (s := 317) (m := 99684) (n := 31388)).symm, List.filter_append, e3, List.append_nil] at e4
  rw [e1, e2, cnt_low, ← e4]
theorem primes_last [∀ n, Decidable (Prm n)] : ∃ l, ((List.range' 2 99999).filter fun j => decide (Prm j)) = l ++ [99991] := by
  rw [show List.range' 2 99999 = List.range' 2 99989 ++ List.range' 99991 10 from (List.range'_append_1 (s := 2) (m := 99989) (n := 10)).symm, List.filter_append]
  refine ⟨_, congrArg _ ?_⟩
  have e2 : (List.range' 99991 10).filter (fun j => decide (Prm j)) = (List.range' 99991 10).filter lowT := by
    refine List.filter_congr fun j hj => ?_
    rw [List.mem_range'_1] at hj
    rw [Bool.eq_iff_iff, decide_eq_true_eq, low_iff (by omega) (by omega)]
    unfold lowT
    rw [Bool.and_eq_true, Nat.beq_eq, Nat.ble_eq]
    exact ⟨fun h => ⟨by omega, h⟩, fun h => h.2⟩
  rw [e2]
  decide +kernel
/-! great primes: by halves, so that no count grows long in the kernel -/
def noDivB (n : Nat) : Nat → Nat → Bool
  | 0, d => Nat.blt 0 (n % d)
  | k + 1, d => noDivB n k d && noDivB n k (d + 2 ^ k)
theorem noDivB_ok {n : Nat} : ∀ k d, noDivB n k d = true → ∀ e, d ≤ e → e < d + 2 ^ k → ¬e ∣ n
  | 0, d, h, e, e1, e2 => by
    rw [Nat.pow_zero] at e2
    cases (show e = d by omega)
    intro z
    have h : Nat.blt 0 (n % d) = true := h
    rw [Nat.mod_eq_zero_of_dvd z] at h
    cases h
  | k + 1, d, h, e, e1, e2 => by
    have h : (noDivB n k d && noDivB n k (d + 2 ^ k)) = true := h
    rw [Bool.and_eq_true] at h
    rw [Nat.pow_succ] at e2
    rcases Nat.lt_or_ge e (d + 2 ^ k) with g | g
    · exact noDivB_ok k d h.1 e e1 g
    · exact noDivB_ok k _ h.2 e g (by omega)
theorem prm_big {n : Nat} (k : Nat) (h2 : 2 ≤ n) (hn : n < (2 + 2 ^ k) * (2 + 2 ^ k)) (h : noDivB n k 2 = true) : Prm n := rough_self h2 (fun d d1 d2 => noDivB_ok k 2 h d d1 d2) hn
end PM
namespace P05
open PySem PySem.Spec PyProof.Rows L2 DL
def top (i : Nat) : Stmt := PySem.Challenge.pw_primessure_k05_whole_papers_against.main.body.getD i (.Pass ⟨0, 0, 0, 0⟩)
section
variable {P : Program} {w : World} {K : PySem.W.Frag} {mg : Str → Option Value} {base : Heap}
/-! ### is_integer -/
abbrev s_is_integer : Stmt := top 6
abbrev N_is_integer : List Str := ["value"]
theorem sc_is_integer : FnScope N_is_integer ["value"] (defScope s_is_integer) := ⟨rfl, rfl, rfl, by decide +kernel, rfl, by decide +kernel, by decide +kernel⟩
abbrev B_is_integer : DS := dRet (dAndV (dIsi .int (dVar 0)) (dNotV (dIsi .bool (dVar 0))))
def w_is_integer : DFn := fnW false 1 1 B_is_integer
theorem i_is_integer {x0 : SV} {μ : Mu} {Q : KD} (h : B_is_integer (fnEnds false μ.length Q) [some x0] μ) : w_is_integer [x0] μ Q := ⟨rfl, h⟩
theorem ok_is_integer (h : HasFn K mg "is_integer" s_is_integer) (b_isinstance : mg "isinstance" = none) (b_int : mg "int" = none) (b_bool : mg "bool" = none) : DefOk P w K mg base "is_integer" 1 ["value"] w_is_integer :=
  ok_of (P := P) (w := w) (base := base) (keep := false) h sc_is_integer (fun _ _ _ _ _ _ us hl => match us, hl with | [_], _ => rfl)
    (fun f cdv A outer s H E hr => ⟨_, dss_one (ds_ret (dx_and (dx_isi .int b_isinstance b_int (dx_var 0)) (dx_one (dx_not (dx_isi .bool b_isinstance b_bool (dx_var 0))))))⟩)
/-! ### is_whole -/
abbrev s_is_whole : Stmt := top 7
abbrev N_is_whole : List Str := ["value", "low", "high"]
theorem sc_is_whole : FnScope N_is_whole ["value", "low", "high"] (defScope s_is_whole) := ⟨rfl, rfl, rfl, by decide +kernel, rfl, by decide +kernel, by decide +kernel⟩
abbrev B_is_whole : DS := dRet (dAndV (dCall w_is_integer (dCons (dVar 0) dNil)) (dChain gLe gLe (dVar 1) (dVar 0) (dVar 2)))
def w_is_whole : DFn := fnW false 3 3 B_is_whole
theorem i_is_whole {x0 x1 x2 : SV} {μ : Mu} {Q : KD} (h : B_is_whole (fnEnds false μ.length Q) [some x0, some x1, some x2] μ) : w_is_whole [x0, x1, x2] μ Q := ⟨rfl, h⟩
theorem ok_is_whole (h : HasFn K mg "is_whole" s_is_whole) (d_is_integer : DefOk P w K mg base "is_integer" 1 ["value"] w_is_integer) : DefOk P w K mg base "is_whole" 2 ["value", "low", "high"] w_is_whole :=
  ok_of (P := P) (w := w) (base := base) (keep := false) h sc_is_whole (fun _ _ _ _ _ _ us hl => match us, hl with | [_, _, _], _ => rfl)
    (fun f cdv A outer s H E hr => ⟨_, dss_one (ds_ret (dx_and (dx_call d_is_integer (hr.mono (by decide)) (da_cons (dx_var 0) da_nil)) (dx_one (dx_chain do_le do_le (dx_var 1) (dx_var 0) (dx_var 2)))))⟩)
/-! ### need_whole -/
abbrev s_need_whole : Stmt := top 8
abbrev N_need_whole : List Str := ["value", "low", "high"]
theorem sc_need_whole : FnScope N_need_whole ["value", "low", "high"] (defScope s_need_whole) := ⟨rfl, rfl, rfl, by decide +kernel, rfl, by decide +kernel, by decide +kernel⟩
abbrev B_need_whole : DS := dIfS (dNot (dB (dCall w_is_whole (dCons (dVar 0) (dCons (dVar 1) (dCons (dVar 2) dNil)))))) dNever dNext
def w_need_whole : DFn := fnW false 3 3 B_need_whole
theorem i_need_whole {x0 x1 x2 : SV} {μ : Mu} {Q : KD} (h : B_need_whole (fnEnds false μ.length Q) [some x0, some x1, some x2] μ) : w_need_whole [x0, x1, x2] μ Q := ⟨rfl, h⟩
theorem ok_need_whole (h : HasFn K mg "need_whole" s_need_whole) (d_is_whole : DefOk P w K mg base "is_whole" 2 ["value", "low", "high"] w_is_whole) : DefOk P w K mg base "need_whole" 3 ["value", "low", "high"] w_need_whole :=
  ok_of (P := P) (w := w) (base := base) (keep := false) h sc_need_whole (fun _ _ _ _ _ _ us hl => match us, hl with | [_, _, _], _ => rfl)
    (fun f cdv A outer s H E hr => ⟨_, dss_one (ds_if (dt_not (dt_val (dx_call d_is_whole (hr.mono (by decide)) (da_cons (dx_var 0) (da_cons (dx_var 1) (da_cons (dx_var 2) da_nil)))))) (dss_one ds_never) dss_nil)⟩)
/-! ### is_tuple_of -/
abbrev s_is_tuple_of : Stmt := top 9
abbrev N_is_tuple_of : List Str := ["value", "low", "high"]
theorem sc_is_tuple_of : FnScope N_is_tuple_of ["value", "low", "high"] (defScope s_is_tuple_of) := ⟨rfl, rfl, rfl, by decide +kernel, rfl, by decide +kernel, by decide +kernel⟩
abbrev B_is_tuple_of : DS := dRet (dAndV (dIsi .tuple (dVar 0)) (dChain gLe gLe (dVar 1) (dCb gLen (dCons (dVar 0) dNil)) (dVar 2)))
def w_is_tuple_of : DFn := fnW false 3 3 B_is_tuple_of
theorem i_is_tuple_of {x0 x1 x2 : SV} {μ : Mu} {Q : KD} (h : B_is_tuple_of (fnEnds false μ.length Q) [some x0, some x1, some x2] μ) : w_is_tuple_of [x0, x1, x2] μ Q := ⟨rfl, h⟩
theorem ok_is_tuple_of (h : HasFn K mg "is_tuple_of" s_is_tuple_of) (b_isinstance : mg "isinstance" = none) (b_tuple : mg "tuple" = none) (b_len : mg "len" = none) : DefOk P w K mg base "is_tuple_of" 1 ["value", "low", "high"] w_is_tuple_of :=
  ok_of (P := P) (w := w) (base := base) (keep := false) h sc_is_tuple_of (fun _ _ _ _ _ _ us hl => match us, hl with | [_, _, _], _ => rfl)
    (fun f cdv A outer s H E hr => ⟨_, dss_one (ds_ret (dx_and (dx_isi .tuple b_isinstance b_tuple (dx_var 0)) (dx_one (dx_chain do_le do_le (dx_var 1) (dx_cb dc_len b_len (da_cons (dx_var 0) da_nil)) (dx_var 2)))))⟩)
/-! ### need_number -/
abbrev s_need_number : Stmt := top 10
abbrev N_need_number : List Str := ["value"]
theorem sc_need_number : FnScope N_need_number ["value"] (defScope s_need_number) := ⟨rfl, rfl, rfl, by decide +kernel, rfl, by decide +kernel, by decide +kernel⟩
abbrev B_need_number : DS := dDrop (dCall w_need_whole (dCons (dVar 0) (dCons (dC (.int 1)) (dCons (dC (.int 10000000000)) dNil))))
def w_need_number : DFn := fnW false 1 1 B_need_number
theorem i_need_number {x0 : SV} {μ : Mu} {Q : KD} (h : B_need_number (fnEnds false μ.length Q) [some x0] μ) : w_need_number [x0] μ Q := ⟨rfl, h⟩
theorem ok_need_number (h : HasFn K mg "need_number" s_need_number) (d_need_whole : DefOk P w K mg base "need_whole" 3 ["value", "low", "high"] w_need_whole) (g_MOST : IsGInt mg "MOST" 10000000000) : DefOk P w K mg base "need_number" 4 ["value"] w_need_number :=
  ok_of (P := P) (w := w) (base := base) (keep := false) h sc_need_number (fun _ _ _ _ _ _ us hl => match us, hl with | [_], _ => rfl)
    (fun f cdv A outer s H E hr => ⟨_, dss_one (ds_expr (dx_call d_need_whole (hr.mono (by decide)) (da_cons (dx_var 0) (da_cons dx_int (da_cons (dx_gint g_MOST) da_nil)))))⟩)
/-! ### need_great -/
abbrev s_need_great : Stmt := top 11
abbrev N_need_great : List Str := ["value"]
theorem sc_need_great : FnScope N_need_great ["value"] (defScope s_need_great) := ⟨rfl, rfl, rfl, by decide +kernel, rfl, by decide +kernel, by decide +kernel⟩
abbrev B_need_great : DS := dDrop (dCall w_need_whole (dCons (dVar 0) (dCons (dC (.int 1)) (dCons (dC (.int 10000000000000000000000000000000000000000)) dNil))))
def w_need_great : DFn := fnW false 1 1 B_need_great
theorem i_need_great {x0 : SV} {μ : Mu} {Q : KD} (h : B_need_great (fnEnds false μ.length Q) [some x0] μ) : w_need_great [x0] μ Q := ⟨rfl, h⟩
theorem ok_need_great (h : HasFn K mg "need_great" s_need_great) (d_need_whole : DefOk P w K mg base "need_whole" 3 ["value", "low", "high"] w_need_whole) (g_GREAT : IsGInt mg "GREAT" 10000000000000000000000000000000000000000) : DefOk P w K mg base "need_great" 4 ["value"] w_need_great :=
  ok_of (P := P) (w := w) (base := base) (keep := false) h sc_need_great (fun _ _ _ _ _ _ us hl => match us, hl with | [_], _ => rfl)
    (fun f cdv A outer s H E hr => ⟨_, dss_one (ds_expr (dx_call d_need_whole (hr.mono (by decide)) (da_cons (dx_var 0) (da_cons dx_int (da_cons (dx_gint g_GREAT) da_nil)))))⟩)
/-! ### least_factor -/
abbrev s_least_factor : Stmt := top 12
abbrev N_least_factor : List Str := ["number", "prime", "part"]
theorem sc_least_factor : FnScope N_least_factor ["number"] (defScope s_least_factor) := ⟨rfl, rfl, rfl, by decide +kernel, rfl, by decide +kernel, by decide +kernel⟩
abbrev B_least_factor : DS := dSeq (dFor (dIt (dTup (dCons (dC (.int 2)) (dCons (dC (.int 3)) dNil)))) (dgName 1) (dIfS (dB (dOp gEq (dOp gMod (dVar 0) (dVar 1)) (dC (.int 0)))) (dRet (dVar 1)) dNext)) (dSeq (dSet (dC (.int 5)) 2) (dSeq (dWhile (dB (dOp gLe (dOp gMul (dVar 2) (dVar 2)) (dVar 0))) (dSeq (dIfS (dB (dOp gEq (dOp gMod (dVar 0) (dVar 2)) (dC (.int 0)))) (dRet (dVar 2)) dNext) (dSeq (dIfS (dB (dOp gEq (dOp gMod (dVar 0) (dOp gAdd (dVar 2) (dC (.int 2)))) (dC (.int 0)))) (dRet (dOp gAdd (dVar 2) (dC (.int 2)))) dNext) (dSet (dOp gAdd (dVar 2) (dC (.int 6))) 2)))) (dRet (dVar 0))))
def w_least_factor : DFn := fnW false 3 1 B_least_factor
theorem i_least_factor {x0 : SV} {μ : Mu} {Q : KD} (h : B_least_factor (fnEnds false μ.length Q) [some x0, none, none] μ) : w_least_factor [x0] μ Q := ⟨rfl, h⟩
theorem ok_least_factor (h : HasFn K mg "least_factor" s_least_factor) : DefOk P w K mg base "least_factor" 1 ["number"] w_least_factor :=
  ok_of (P := P) (w := w) (base := base) (keep := false) h sc_least_factor (fun _ _ _ _ _ _ us hl => match us, hl with | [_], _ => rfl)
    (fun f cdv A outer s H E hr => ⟨_, dss_cons (ds_for PassesOwn.never (di_any (dx_tup (da_cons dx_int (da_cons dx_int da_nil)))) (dg_name 1 sc_least_factor.nd) (dss_one (ds_if (dt_cmp (do_eq hr.units) (dx_bin do_mod (dx_var 0) (dx_var 1)) dx_int) (dss_one (ds_ret (dx_var 1))) dss_nil))) (dss_cons (ds_set 2 sc_least_factor.nd dx_int) (dss_cons (ds_while PassesOwn.never (dt_cmp do_le (dx_bin do_mul (dx_var 2) (dx_var 2)) (dx_var 0)) (dss_cons (ds_if (dt_cmp (do_eq hr.units) (dx_bin do_mod (dx_var 0) (dx_var 2)) dx_int) (dss_one (ds_ret (dx_var 2))) dss_nil) (dss_cons (ds_if (dt_cmp (do_eq hr.units) (dx_bin do_mod (dx_var 0) (dx_bin do_add (dx_var 2) dx_int)) dx_int) (dss_one (ds_ret (dx_bin do_add (dx_var 2) dx_int))) dss_nil) (dss_one (ds_set 2 sc_least_factor.nd (dx_bin do_add (dx_var 2) dx_int)))))) (dss_one (ds_ret (dx_var 0)))))⟩)
/-! ### is_prime_in -/
abbrev s_is_prime_in : Stmt := top 13
abbrev N_is_prime_in : List Str := ["number"]
theorem sc_is_prime_in : FnScope N_is_prime_in ["number"] (defScope s_is_prime_in) := ⟨rfl, rfl, rfl, by decide +kernel, rfl, by decide +kernel, by decide +kernel⟩
abbrev B_is_prime_in : DS := dRet (dAndV (dOp gGt (dVar 0) (dC (.int 1))) (dOp gEq (dCall w_least_factor (dCons (dVar 0) dNil)) (dVar 0)))
def w_is_prime_in : DFn := fnW false 1 1 B_is_prime_in
theorem i_is_prime_in {x0 : SV} {μ : Mu} {Q : KD} (h : B_is_prime_in (fnEnds false μ.length Q) [some x0] μ) : w_is_prime_in [x0] μ Q := ⟨rfl, h⟩
theorem ok_is_prime_in (h : HasFn K mg "is_prime_in" s_is_prime_in) (d_least_factor : DefOk P w K mg base "least_factor" 1 ["number"] w_least_factor) : DefOk P w K mg base "is_prime_in" 2 ["number"] w_is_prime_in :=
  ok_of (P := P) (w := w) (base := base) (keep := false) h sc_is_prime_in (fun _ _ _ _ _ _ us hl => match us, hl with | [_], _ => rfl)
    (fun f cdv A outer s H E hr => ⟨_, dss_one (ds_ret (dx_and (dx_cmp do_gt (dx_var 0) dx_int) (dx_one (dx_cmp (do_eq hr.units) (dx_call d_least_factor (hr.mono (by decide)) (da_cons (dx_var 0) da_nil)) (dx_var 0)))))⟩)
/-! ### factors_in -/
abbrev s_factors_in : Stmt := top 14
abbrev N_factors_in : List Str := ["number", "found", "left", "part", "power"]
theorem sc_factors_in : FnScope N_factors_in ["number"] (defScope s_factors_in) := ⟨rfl, rfl, rfl, by decide +kernel, rfl, by decide +kernel, by decide +kernel⟩
abbrev B_factors_in : DS := dSeq (dPar3 1 2 3 (dCons (dLoc (dLst dNil)) (dCons (dVar 0) (dCons (dC (.int 2)) dNil)))) (dSeq (dWhile (dB (dOp gLe (dOp gMul (dVar 3) (dVar 3)) (dVar 2))) (dSeq (dSet (dC (.int 0)) 4) (dSeq (dWhile (dB (dOp gEq (dOp gMod (dVar 2) (dVar 3)) (dC (.int 0)))) (dPar 2 4 (dCons (dOp gDiv (dVar 2) (dVar 3)) (dCons (dOp gAdd (dVar 4) (dC (.int 1))) dNil)))) (dSeq (dIfS (dB (dOp gGt (dVar 4) (dC (.int 0)))) (dDrop (dAppend (dVar 1) (dCons (dTup (dCons (dVar 3) (dCons (dVar 4) dNil))) dNil))) dNext) (dSet (dOp gAdd (dVar 3) (dIf (dB (dOp gEq (dVar 3) (dC (.int 2)))) (dC (.int 1)) (dC (.int 2)))) 3))))) (dSeq (dIfS (dB (dOp gGt (dVar 2) (dC (.int 1)))) (dDrop (dAppend (dVar 1) (dCons (dTup (dCons (dVar 2) (dCons (dC (.int 1)) dNil))) dNil))) dNext) (dRet (dCb gTuple (dCons (dVar 1) dNil)))))
def w_factors_in : DFn := fnW false 5 1 B_factors_in
theorem i_factors_in {x0 : SV} {μ : Mu} {Q : KD} (h : B_factors_in (fnEnds false μ.length Q) [some x0, none, none, none, none] μ) : w_factors_in [x0] μ Q := ⟨rfl, h⟩
theorem ok_factors_in (h : HasFn K mg "factors_in" s_factors_in) (b_tuple : mg "tuple" = none) : DefOk P w K mg base "factors_in" 1 ["number"] w_factors_in :=
  ok_of (P := P) (w := w) (base := base) (keep := false) h sc_factors_in (fun _ _ _ _ _ _ us hl => match us, hl with | [_], _ => rfl)
    (fun f cdv A outer s H E hr => ⟨_, dss_cons (ds_par3 1 2 3 sc_factors_in.nd (da_cons (DNn.loc (dn_lst da_nil)) (da_cons (dx_var 0) (da_cons dx_int da_nil)))) (dss_cons (ds_while PassesOwn.never (dt_cmp do_le (dx_bin do_mul (dx_var 3) (dx_var 3)) (dx_var 2)) (dss_cons (ds_set 4 sc_factors_in.nd dx_int) (dss_cons (ds_while PassesOwn.never (dt_cmp (do_eq hr.units) (dx_bin do_mod (dx_var 2) (dx_var 3)) dx_int) (dss_one (ds_par 2 4 sc_factors_in.nd (da_cons (dx_bin do_div (dx_var 2) (dx_var 3)) (da_cons (dx_bin do_add (dx_var 4) dx_int) da_nil))))) (dss_cons (ds_if (dt_cmp do_gt (dx_var 4) dx_int) (dss_one (ds_expr (dx_append (dx_var 1) (da_cons (dx_tup (da_cons (dx_var 3) (da_cons (dx_var 4) da_nil))) da_nil)))) dss_nil) (dss_one (ds_set 3 sc_factors_in.nd (dx_bin do_add (dx_var 3) (dx_if (dt_cmp (do_eq hr.units) (dx_var 3) dx_int) dx_int dx_int)))))))) (dss_cons (ds_if (dt_cmp do_gt (dx_var 2) dx_int) (dss_one (ds_expr (dx_append (dx_var 1) (da_cons (dx_tup (da_cons (dx_var 2) (da_cons dx_int da_nil))) da_nil)))) dss_nil) (dss_one (ds_ret (dx_cty dc_tuple b_tuple (da_cons (dx_var 1) da_nil))))))⟩)
/-! ### divisors_in -/
abbrev s_divisors_in : Stmt := top 15
abbrev N_divisors_in : List Str := ["factors", "found", "prime", "power", "more", "part", "turn", "one"]
theorem sc_divisors_in : FnScope N_divisors_in ["factors"] (defScope s_divisors_in) := ⟨rfl, rfl, rfl, by decide +kernel, rfl, by decide +kernel, by decide +kernel⟩
abbrev B_divisors_in : DS := dSeq (dSet (dSnap (dLst (dCons (dC (.int 1)) dNil))) 1) (dSeq (dFor (dIt (dVar 0)) (dgTup 2 (dgCons (dgName 2) (dgCons (dgName 3) dgNil))) (dSeq (dAsg (dTup (dCons (dSnap (dLst dNil)) (dCons (dC (.int 1)) dNil))) (dgTup 2 (dgCons (dgName 4) (dgCons (dgName 5) dgNil)))) (dSeq (dFor (dRng1 (dCons (dOp gAdd (dVar 3) (dC (.int 1))) dNil)) (dgName 6) (dSeq (dSet (dOp gAdd (dVar 4) (dSnap (dLc (dIt (dVar 1)) (dgName 7) dYes (dOp gMul (dVar 7) (dVar 5)) [7]))) 4) (dSet (dOp gMul (dVar 5) (dVar 2)) 5))) (dSet (dVar 4) 1)))) (dRet (dCb gSorted (dCons (dVar 1) dNil))))
def w_divisors_in : DFn := fnW false 8 1 B_divisors_in
theorem i_divisors_in {x0 : SV} {μ : Mu} {Q : KD} (h : B_divisors_in (fnEnds false μ.length Q) [some x0, none, none, none, none, none, none, none] μ) : w_divisors_in [x0] μ Q := ⟨rfl, h⟩
theorem ok_divisors_in (h : HasFn K mg "divisors_in" s_divisors_in) (b_range : mg "range" = none) (b_sorted : mg "sorted" = none) : DefOk P w K mg base "divisors_in" 1 ["factors"] w_divisors_in :=
  ok_of (P := P) (w := w) (base := base) (keep := false) h sc_divisors_in (fun _ _ _ _ _ _ us hl => match us, hl with | [_], _ => rfl)
    (fun f cdv A outer s H E hr => ⟨_, dss_cons (ds_set 1 sc_divisors_in.nd (DNn.snap (dn_lst (da_cons dx_int da_nil)))) (dss_cons (ds_for PassesOwn.never (di_any (dx_var 0)) (dg_tup (dgs_cons (dg_name 2 sc_divisors_in.nd) (dgs_cons (dg_name 3 sc_divisors_in.nd) dgs_nil))) (dss_cons (ds_asg (dx_tup (da_cons (DNn.snap (dn_lst da_nil)) (da_cons dx_int da_nil))) (dg_tup (dgs_cons (dg_name 4 sc_divisors_in.nd) (dgs_cons (dg_name 5 sc_divisors_in.nd) dgs_nil)))) (dss_cons (ds_for PassesOwn.never (di_rng1 b_range (da_cons (dx_bin do_add (dx_var 3) dx_int) da_nil)) (dg_name 6 sc_divisors_in.nd) (dss_cons (ds_set 4 sc_divisors_in.nd (dx_bin do_add (dx_var 4) (DNn.snap (dn_lc [("one", 7)] sc_divisors_in.nd (di_any (dx_var 1)) (blkOk_by (own := [("one", 7)]) (N := N_divisors_in) (sc := defScope s_divisors_in) (by decide +kernel)) (fun _ _ _ _ _ => dg_name 7 sc_divisors_in.nd) (fun _ _ _ _ _ => dts_nil) (fun _ _ _ _ _ => dx_bin do_mul (dx_var 7) (dx_var 5)))))) (dss_one (ds_set 5 sc_divisors_in.nd (dx_bin do_mul (dx_var 5) (dx_var 2)))))) (dss_one (ds_set 1 sc_divisors_in.nd (dx_var 4)))))) (dss_one (ds_ret (dx_cb dc_sorted b_sorted (da_cons (dx_var 1) da_nil)))))⟩)
/-! ### power_in -/
abbrev s_power_in : Stmt := top 16
abbrev N_power_in : List Str := ["one", "times", "great", "found", "here", "left"]
theorem sc_power_in : FnScope N_power_in ["one", "times", "great"] (defScope s_power_in) := ⟨rfl, rfl, rfl, by decide +kernel, rfl, by decide +kernel, by decide +kernel⟩
abbrev B_power_in : DS := dSeq (dPar3 3 4 5 (dCons (dC (.int 1)) (dCons (dOp gMod (dVar 0) (dVar 2)) (dCons (dVar 1) dNil)))) (dSeq (dWhile (dB (dOp gGt (dVar 5) (dC (.int 0)))) (dSeq (dIfS (dB (dOp gEq (dOp gMod (dVar 5) (dC (.int 2))) (dC (.int 1)))) (dSet (dOp gMod (dOp gMul (dVar 3) (dVar 4)) (dVar 2)) 3) dNext) (dPar 4 5 (dCons (dOp gMod (dOp gMul (dVar 4) (dVar 4)) (dVar 2)) (dCons (dOp gDiv (dVar 5) (dC (.int 2))) dNil))))) (dRet (dOp gMod (dVar 3) (dVar 2))))
def w_power_in : DFn := fnW false 6 3 B_power_in
theorem i_power_in {x0 x1 x2 : SV} {μ : Mu} {Q : KD} (h : B_power_in (fnEnds false μ.length Q) [some x0, some x1, some x2, none, none, none] μ) : w_power_in [x0, x1, x2] μ Q := ⟨rfl, h⟩
theorem ok_power_in (h : HasFn K mg "power_in" s_power_in) : DefOk P w K mg base "power_in" 1 ["one", "times", "great"] w_power_in :=
  ok_of (P := P) (w := w) (base := base) (keep := false) h sc_power_in (fun _ _ _ _ _ _ us hl => match us, hl with | [_, _, _], _ => rfl)
    (fun f cdv A outer s H E hr => ⟨_, dss_cons (ds_par3 3 4 5 sc_power_in.nd (da_cons dx_int (da_cons (dx_bin do_mod (dx_var 0) (dx_var 2)) (da_cons (dx_var 1) da_nil)))) (dss_cons (ds_while PassesOwn.never (dt_cmp do_gt (dx_var 5) dx_int) (dss_cons (ds_if (dt_cmp (do_eq hr.units) (dx_bin do_mod (dx_var 5) dx_int) dx_int) (dss_one (ds_set 3 sc_power_in.nd (dx_bin do_mod (dx_bin do_mul (dx_var 3) (dx_var 4)) (dx_var 2)))) dss_nil) (dss_one (ds_par 4 5 sc_power_in.nd (da_cons (dx_bin do_mod (dx_bin do_mul (dx_var 4) (dx_var 4)) (dx_var 2)) (da_cons (dx_bin do_div (dx_var 5) dx_int) da_nil)))))) (dss_one (ds_ret (dx_bin do_mod (dx_var 3) (dx_var 2)))))⟩)
/-! ### is_prime -/
abbrev s_is_prime : Stmt := top 17
abbrev N_is_prime : List Str := ["number"]
theorem sc_is_prime : FnScope N_is_prime ["number"] (defScope s_is_prime) := ⟨rfl, rfl, rfl, by decide +kernel, rfl, by decide +kernel, by decide +kernel⟩
abbrev B_is_prime : DS := dSeq (dDrop (dCall w_need_number (dCons (dVar 0) dNil))) (dRet (dCall w_is_prime_in (dCons (dVar 0) dNil)))
def w_is_prime : DFn := fnW false 1 1 B_is_prime
theorem i_is_prime {x0 : SV} {μ : Mu} {Q : KD} (h : B_is_prime (fnEnds false μ.length Q) [some x0] μ) : w_is_prime [x0] μ Q := ⟨rfl, h⟩
theorem ok_is_prime (h : HasFn K mg "is_prime" s_is_prime) (d_need_number : DefOk P w K mg base "need_number" 4 ["value"] w_need_number) (d_is_prime_in : DefOk P w K mg base "is_prime_in" 2 ["number"] w_is_prime_in) : DefOk P w K mg base "is_prime" 5 ["number"] w_is_prime :=
  ok_of (P := P) (w := w) (base := base) (keep := false) h sc_is_prime (fun _ _ _ _ _ _ us hl => match us, hl with | [_], _ => rfl)
    (fun f cdv A outer s H E hr => ⟨_, dss_cons (ds_expr (dx_call d_need_number (hr.mono (by decide)) (da_cons (dx_var 0) da_nil))) (dss_one (ds_ret (dx_call d_is_prime_in (hr.mono (by decide)) (da_cons (dx_var 0) da_nil))))⟩)
/-! ### divisors_of -/
abbrev s_divisors_of : Stmt := top 18
abbrev N_divisors_of : List Str := ["number"]
theorem sc_divisors_of : FnScope N_divisors_of ["number"] (defScope s_divisors_of) := ⟨rfl, rfl, rfl, by decide +kernel, rfl, by decide +kernel, by decide +kernel⟩
abbrev B_divisors_of : DS := dSeq (dDrop (dCall w_need_number (dCons (dVar 0) dNil))) (dRet (dCb gTuple (dCons (dCall w_divisors_in (dCons (dCall w_factors_in (dCons (dVar 0) dNil)) dNil)) dNil)))
def w_divisors_of : DFn := fnW false 1 1 B_divisors_of
theorem i_divisors_of {x0 : SV} {μ : Mu} {Q : KD} (h : B_divisors_of (fnEnds false μ.length Q) [some x0] μ) : w_divisors_of [x0] μ Q := ⟨rfl, h⟩
theorem ok_divisors_of (h : HasFn K mg "divisors_of" s_divisors_of) (d_need_number : DefOk P w K mg base "need_number" 4 ["value"] w_need_number) (d_divisors_in : DefOk P w K mg base "divisors_in" 1 ["factors"] w_divisors_in) (d_factors_in : DefOk P w K mg base "factors_in" 1 ["number"] w_factors_in) (b_tuple : mg "tuple" = none) : DefOk P w K mg base "divisors_of" 5 ["number"] w_divisors_of :=
  ok_of (P := P) (w := w) (base := base) (keep := false) h sc_divisors_of (fun _ _ _ _ _ _ us hl => match us, hl with | [_], _ => rfl)
    (fun f cdv A outer s H E hr => ⟨_, dss_cons (ds_expr (dx_call d_need_number (hr.mono (by decide)) (da_cons (dx_var 0) da_nil))) (dss_one (ds_ret (dx_cty dc_tuple b_tuple (da_cons (dx_call d_divisors_in (hr.mono (by decide)) (da_cons (dx_call d_factors_in (hr.mono (by decide)) (da_cons (dx_var 0) da_nil)) da_nil)) da_nil))))⟩)
/-! ### is_against -/
abbrev s_is_against : Stmt := top 21
abbrev N_is_against : List Str := ["great", "value", "word", "own"]
theorem sc_is_against : FnScope N_is_against ["great", "value"] (defScope s_is_against) := ⟨rfl, rfl, rfl, by decide +kernel, rfl, by decide +kernel, by decide +kernel⟩
abbrev B_is_against : DS := dSeq (dIfS (dOr (dNot (dB (dCall w_is_tuple_of (dCons (dVar 1) (dCons (dC (.int 2)) (dCons (dC (.int 2)) dNil)))))) (dNot (dB (dIsi .str (dOp gIx (dVar 1) (dC (.int 0))))))) (dRet (dC (.bool false))) dNext) (dSeq (dAsg (dVar 1) (dgTup 2 (dgCons (dgName 2) (dgCons (dgName 3) dgNil)))) (dSeq (dIfS (dB (dOp gEq (dVar 2) (dC (.str "divisor")))) (dRet (dAndV (dCall w_is_whole (dCons (dVar 3) (dCons (dC (.int 2)) (dCons (dOp gMinus (dVar 0) (dC (.int 1))) dNil)))) (dOp gEq (dOp gMod (dVar 0) (dVar 3)) (dC (.int 0))))) dNext) (dSeq (dIfS (dNot (dB (dCall w_is_whole (dCons (dVar 3) (dCons (dC (.int 2)) (dCons (dOp gMinus (dVar 0) (dC (.int 2))) dNil)))))) (dRet (dC (.bool false))) dNext) (dSeq (dIfS (dB (dOp gEq (dVar 2) (dC (.str "power")))) (dRet (dOp gNe (dCall w_power_in (dCons (dVar 3) (dCons (dOp gMinus (dVar 0) (dC (.int 1))) (dCons (dVar 0) dNil)))) (dC (.int 1)))) dNext) (dRet (dAndV (dOp gEq (dVar 2) (dC (.str "square"))) (dOp gEq (dOp gMod (dOp gMul (dVar 3) (dVar 3)) (dVar 0)) (dC (.int 1)))))))))
def w_is_against : DFn := fnW false 4 2 B_is_against
theorem i_is_against {x0 x1 : SV} {μ : Mu} {Q : KD} (h : B_is_against (fnEnds false μ.length Q) [some x0, some x1, none, none] μ) : w_is_against [x0, x1] μ Q := ⟨rfl, h⟩
theorem ok_is_against (h : HasFn K mg "is_against" s_is_against) (d_is_tuple_of : DefOk P w K mg base "is_tuple_of" 1 ["value", "low", "high"] w_is_tuple_of) (d_is_whole : DefOk P w K mg base "is_whole" 2 ["value", "low", "high"] w_is_whole) (d_power_in : DefOk P w K mg base "power_in" 1 ["one", "times", "great"] w_power_in) (b_isinstance : mg "isinstance" = none) (b_str : mg "str" = none) : DefOk P w K mg base "is_against" 3 ["great", "value"] w_is_against :=
  ok_of (P := P) (w := w) (base := base) (keep := false) h sc_is_against (fun _ _ _ _ _ _ us hl => match us, hl with | [_, _], _ => rfl)
    (fun f cdv A outer s H E hr => ⟨_, dss_cons (ds_if (DW.dt (dw_or (dt_not (dt_val (dx_call d_is_tuple_of (hr.mono (by decide)) (da_cons (dx_var 1) (da_cons dx_int (da_cons dx_int da_nil)))))) (dw_or1 (dt_not (dt_val (dx_isi .str b_isinstance b_str (dx_ix (dx_var 1) dx_int))))))) (dss_one (ds_ret dx_bl)) dss_nil) (dss_cons (ds_asg (dx_var 1) (dg_tup (dgs_cons (dg_name 2 sc_is_against.nd) (dgs_cons (dg_name 3 sc_is_against.nd) dgs_nil)))) (dss_cons (ds_if (dt_cmp (do_eq hr.units) (dx_var 2) dx_str) (dss_one (ds_ret (dx_and (dx_call d_is_whole (hr.mono (by decide)) (da_cons (dx_var 3) (da_cons dx_int (da_cons (dx_bin do_sub (dx_var 0) dx_int) da_nil)))) (dx_one (dx_cmp (do_eq hr.units) (dx_bin do_mod (dx_var 0) (dx_var 3)) dx_int))))) dss_nil) (dss_cons (ds_if (dt_not (dt_val (dx_call d_is_whole (hr.mono (by decide)) (da_cons (dx_var 3) (da_cons dx_int (da_cons (dx_bin do_sub (dx_var 0) dx_int) da_nil)))))) (dss_one (ds_ret dx_bl)) dss_nil) (dss_cons (ds_if (dt_cmp (do_eq hr.units) (dx_var 2) dx_str) (dss_one (ds_ret (dx_cmp (do_ne hr.units) (dx_call d_power_in (hr.mono (by decide)) (da_cons (dx_var 3) (da_cons (dx_bin do_sub (dx_var 0) dx_int) (da_cons (dx_var 0) da_nil)))) dx_int))) dss_nil) (dss_one (ds_ret (dx_and (dx_cmp (do_eq hr.units) (dx_var 2) dx_str) (dx_one (dx_cmp (do_eq hr.units) (dx_bin do_mod (dx_bin do_mul (dx_var 3) (dx_var 3)) (dx_var 0)) dx_int)))))))))⟩)
/-! ### paper_against -/
abbrev s_paper_against : Stmt := top 22
abbrev N_paper_against : List Str := ["number"]
theorem sc_paper_against : FnScope N_paper_against ["number"] (defScope s_paper_against) := ⟨rfl, rfl, rfl, by decide +kernel, rfl, by decide +kernel, by decide +kernel⟩
abbrev B_paper_against : DS := dSeq (dDrop (dCall w_need_number (dCons (dVar 0) dNil))) (dSeq (dIfS (dOr (dB (dOp gEq (dVar 0) (dC (.int 1)))) (dB (dCall w_is_prime_in (dCons (dVar 0) dNil)))) (dRet (dC .none)) dNext) (dRet (dTup (dCons (dC (.str "divisor")) (dCons (dCall w_least_factor (dCons (dVar 0) dNil)) dNil)))))
def w_paper_against : DFn := fnW false 1 1 B_paper_against
theorem i_paper_against {x0 : SV} {μ : Mu} {Q : KD} (h : B_paper_against (fnEnds false μ.length Q) [some x0] μ) : w_paper_against [x0] μ Q := ⟨rfl, h⟩
theorem ok_paper_against (h : HasFn K mg "paper_against" s_paper_against) (d_need_number : DefOk P w K mg base "need_number" 4 ["value"] w_need_number) (d_is_prime_in : DefOk P w K mg base "is_prime_in" 2 ["number"] w_is_prime_in) (d_least_factor : DefOk P w K mg base "least_factor" 1 ["number"] w_least_factor) : DefOk P w K mg base "paper_against" 5 ["number"] w_paper_against :=
  ok_of (P := P) (w := w) (base := base) (keep := false) h sc_paper_against (fun _ _ _ _ _ _ us hl => match us, hl with | [_], _ => rfl)
    (fun f cdv A outer s H E hr => ⟨_, dss_cons (ds_expr (dx_call d_need_number (hr.mono (by decide)) (da_cons (dx_var 0) da_nil))) (dss_cons (ds_if (DW.dt (dw_or (dt_cmp (do_eq hr.units) (dx_var 0) dx_int) (dw_or1 (dt_val (dx_call d_is_prime_in (hr.mono (by decide)) (da_cons (dx_var 0) da_nil)))))) (dss_one (ds_ret dx_non)) dss_nil) (dss_one (ds_ret (dx_tup (da_cons dx_str (da_cons (dx_call d_least_factor (hr.mono (by decide)) (da_cons (dx_var 0) da_nil)) da_nil))))))⟩)
/-! ### is_paper_against -/
abbrev s_is_paper_against : Stmt := top 23
abbrev N_is_paper_against : List Str := ["great", "value"]
theorem sc_is_paper_against : FnScope N_is_paper_against ["great", "value"] (defScope s_is_paper_against) := ⟨rfl, rfl, rfl, by decide +kernel, rfl, by decide +kernel, by decide +kernel⟩
abbrev B_is_paper_against : DS := dSeq (dDrop (dCall w_need_great (dCons (dVar 0) dNil))) (dRet (dCall w_is_against (dCons (dVar 0) (dCons (dVar 1) dNil))))
def w_is_paper_against : DFn := fnW false 2 2 B_is_paper_against
theorem i_is_paper_against {x0 x1 : SV} {μ : Mu} {Q : KD} (h : B_is_paper_against (fnEnds false μ.length Q) [some x0, some x1] μ) : w_is_paper_against [x0, x1] μ Q := ⟨rfl, h⟩
theorem ok_is_paper_against (h : HasFn K mg "is_paper_against" s_is_paper_against) (d_need_great : DefOk P w K mg base "need_great" 4 ["value"] w_need_great) (d_is_against : DefOk P w K mg base "is_against" 3 ["great", "value"] w_is_against) : DefOk P w K mg base "is_paper_against" 5 ["great", "value"] w_is_paper_against :=
  ok_of (P := P) (w := w) (base := base) (keep := false) h sc_is_paper_against (fun _ _ _ _ _ _ us hl => match us, hl with | [_, _], _ => rfl)
    (fun f cdv A outer s H E hr => ⟨_, dss_cons (ds_expr (dx_call d_need_great (hr.mono (by decide)) (da_cons (dx_var 0) da_nil))) (dss_one (ds_ret (dx_call d_is_against (hr.mono (by decide)) (da_cons (dx_var 0) (da_cons (dx_var 1) da_nil)))))⟩)
/-! ### against_counts -/
abbrev s_against_counts : Stmt := top 24
abbrev N_against_counts : List Str := ["number", "divisors", "powers", "own"]
theorem sc_against_counts : FnScope N_against_counts ["number"] (defScope s_against_counts) := ⟨rfl, rfl, rfl, by decide +kernel, rfl, by decide +kernel, by decide +kernel⟩
abbrev B_against_counts : DS := dSeq (dDrop (dCall w_need_whole (dCons (dVar 0) (dCons (dC (.int 2)) (dCons (dC (.int 10000)) dNil))))) (dSeq (dSet (dOp gMinus (dCb gLen (dCons (dCall w_divisors_in (dCons (dCall w_factors_in (dCons (dVar 0) dNil)) dNil)) dNil)) (dC (.int 2))) 1) (dSeq (dSet (dCb gLen (dCons (dSnap (dLc (dRng2 (dCons (dC (.int 2)) (dCons (dOp gMinus (dVar 0) (dC (.int 1))) dNil))) (dgName 3) (dB (dOp gNe (dCall w_power_in (dCons (dVar 3) (dCons (dOp gMinus (dVar 0) (dC (.int 1))) (dCons (dVar 0) dNil)))) (dC (.int 1)))) (dC (.int 1)) [3])) dNil)) 2) (dRet (dTup (dCons (dVar 1) (dCons (dVar 2) (dCons (dCb gLen (dCons (dSnap (dLc (dRng2 (dCons (dC (.int 2)) (dCons (dOp gMinus (dVar 0) (dC (.int 1))) dNil))) (dgName 3) (dB (dOp gEq (dOp gMod (dOp gMul (dVar 3) (dVar 3)) (dVar 0)) (dC (.int 1)))) (dC (.int 1)) [3])) dNil)) dNil)))))))
def w_against_counts : DFn := fnW false 4 1 B_against_counts
theorem i_against_counts {x0 : SV} {μ : Mu} {Q : KD} (h : B_against_counts (fnEnds false μ.length Q) [some x0, none, none, none] μ) : w_against_counts [x0] μ Q := ⟨rfl, h⟩
theorem ok_against_counts (h : HasFn K mg "against_counts" s_against_counts) (d_need_whole : DefOk P w K mg base "need_whole" 3 ["value", "low", "high"] w_need_whole) (d_divisors_in : DefOk P w K mg base "divisors_in" 1 ["factors"] w_divisors_in) (d_factors_in : DefOk P w K mg base "factors_in" 1 ["number"] w_factors_in) (d_power_in : DefOk P w K mg base "power_in" 1 ["one", "times", "great"] w_power_in) (b_len : mg "len" = none) (b_range : mg "range" = none) (g_FEW : IsGInt mg "FEW" 10000) : DefOk P w K mg base "against_counts" 4 ["number"] w_against_counts :=
  ok_of (P := P) (w := w) (base := base) (keep := false) h sc_against_counts (fun _ _ _ _ _ _ us hl => match us, hl with | [_], _ => rfl)
    (fun f cdv A outer s H E hr => ⟨_, dss_cons (ds_expr (dx_call d_need_whole (hr.mono (by decide)) (da_cons (dx_var 0) (da_cons dx_int (da_cons (dx_gint g_FEW) da_nil))))) (dss_cons (ds_set 1 sc_against_counts.nd (dx_bin do_sub (dx_cb dc_len b_len (da_cons (dx_call d_divisors_in (hr.mono (by decide)) (da_cons (dx_call d_factors_in (hr.mono (by decide)) (da_cons (dx_var 0) da_nil)) da_nil)) da_nil)) dx_int)) (dss_cons (ds_set 2 sc_against_counts.nd (dx_cb dc_len b_len (da_cons (DNn.snap (dn_lc [("own", 3)] sc_against_counts.nd (di_rng2 b_range (da_cons dx_int (da_cons (dx_bin do_sub (dx_var 0) dx_int) da_nil))) (blkOk_by (own := [("own", 3)]) (N := N_against_counts) (sc := defScope s_against_counts) (by decide +kernel)) (fun _ _ _ _ _ => dg_name 3 sc_against_counts.nd) (fun _ _ _ _ _ => dts_one (dt_cmp (do_ne hr.units) (dx_call d_power_in (hr.mono (by decide)) (da_cons (dx_var 3) (da_cons (dx_bin do_sub (dx_var 0) dx_int) (da_cons (dx_var 0) da_nil)))) dx_int)) (fun _ _ _ _ _ => dx_int))) da_nil))) (dss_one (ds_ret (dx_tup (da_cons (dx_var 1) (da_cons (dx_var 2) (da_cons (dx_cb dc_len b_len (da_cons (DNn.snap (dn_lc [("own", 3)] sc_against_counts.nd (di_rng2 b_range (da_cons dx_int (da_cons (dx_bin do_sub (dx_var 0) dx_int) da_nil))) (blkOk_by (own := [("own", 3)]) (N := N_against_counts) (sc := defScope s_against_counts) (by decide +kernel)) (fun _ _ _ _ _ => dg_name 3 sc_against_counts.nd) (fun _ _ _ _ _ => dts_one (dt_cmp (do_eq hr.units) (dx_bin do_mod (dx_bin do_mul (dx_var 3) (dx_var 3)) (dx_var 0)) dx_int)) (fun _ _ _ _ _ => dx_int))) da_nil)) da_nil))))))))⟩)
/-! ### _law_cup -/
abbrev s_law_cup : Stmt := top 26
abbrev N_law_cup : List Str := ["script", "cell"]
theorem sc_law_cup : FnScope N_law_cup ["script"] (defScope s_law_cup) := ⟨rfl, rfl, rfl, by decide +kernel, rfl, by decide +kernel, by decide +kernel⟩
abbrev B_law_cup : DS := dSeq (dSet (dCb gAbs (dCons (dOp gIx (dOp gAdd (dSnap (dnList (dCons (dVar 0) dNil))) (dSnap (dLst (dCons (dC (.int 0)) dNil)))) (dC (.int 0))) dNil)) 1) (dRet (dLoc (dLst (dCons (dIf (dB (dOp gGe (dVar 1) (dOp gPow (dC (.int 10)) (dC (.int 18))))) (dOp gDiv (dVar 1) (dC (.int 73))) (dC (.int 0))) (dCons (dOp gAdd (dOp gMod (dCb gInt1 (dCons (dOp gAdd (dOp gMul (dVar 1) (dC (.int 283))) (dC (.int 3907))) dNil)) (dC (.int 2077503167))) (dC (.int 167))) dNil)))))
def w_law_cup : DFn := fnW true 2 1 B_law_cup
theorem i_law_cup {x0 : SV} {μ : Mu} {Q : KD} (h : B_law_cup (fnEnds true μ.length Q) [some x0, none] μ) : w_law_cup [x0] μ Q := ⟨rfl, h⟩
theorem ok_law_cup (h : HasFn K mg "_law_cup" s_law_cup) (b_list : mg "list" = none) (b_abs : mg "abs" = none) (b_int : mg "int" = none) : DefOk P w K mg base "_law_cup" 1 ["script"] w_law_cup :=
  ok_of (P := P) (w := w) (base := base) (keep := true) h sc_law_cup (fun _ _ _ _ _ _ us hl => match us, hl with | [_], _ => rfl)
    (fun f cdv A outer s H E hr => ⟨_, dss_cons (ds_set 1 sc_law_cup.nd (dx_cb dc_abs b_abs (da_cons (dx_ix (dx_bin do_add (DNn.snap (dn_list b_list (da_cons (dx_var 0) da_nil))) (DNn.snap (dn_lst (da_cons dx_int da_nil)))) dx_int) da_nil))) (dss_one (ds_ret (DNn.loc (dn_lst (da_cons (dx_if (dt_cmp do_ge (dx_var 1) (dx_bin do_pow dx_int dx_int)) (dx_bin do_div (dx_var 1) dx_int) dx_int) (da_cons (dx_bin do_add (dx_bin do_mod (dx_cty dc_int1 b_int (da_cons (dx_bin do_add (dx_bin do_mul (dx_var 1) dx_int) dx_int) da_nil)) dx_int) dx_int) da_nil))))))⟩)
/-! ### _law_roll -/
abbrev s_law_roll : Stmt := top 27
abbrev N_law_roll : List Str := ["cup", "many", "found", "deep"]
theorem sc_law_roll : FnScope N_law_roll ["cup", "many"] (defScope s_law_roll) := ⟨rfl, rfl, rfl, by decide +kernel, rfl, by decide +kernel, by decide +kernel⟩
abbrev B_law_roll : DS := dSeq (dIfS (dB (dOp gGt (dOp gIx (dVar 0) (dC (.int 0))) (dC (.int 0)))) (dSeq (dSet (dOp gMod (dCb gInt1 (dCons (dOp gIx (dVar 0) (dC (.int 0))) dNil)) (dVar 1)) 2) (dSeq (dStore (dOp gDiv (dOp gIx (dVar 0) (dC (.int 0))) (dVar 1)) (dVar 0) (dC (.int 0))) (dRet (dVar 2)))) dNext) (dSeq (dStore (dOp gMod (dCb gInt1 (dCons (dOp gAdd (dOp gMul (dOp gIx (dVar 0) (dC (.int 1))) (dC (.int 31051))) (dC (.int 7993))) dNil)) (dC (.int 2147483543))) (dVar 0) (dC (.int 1))) (dSeq (dSet (dOp gMod (dCb gInt1 (dCons (dOp gMul (dOp gIx (dVar 0) (dC (.int 1))) (dOp gAdd (dOp gIx (dVar 0) (dC (.int 1))) (dC (.int 229)))) dNil)) (dC (.int 2147483587))) 3) (dRet (dOp gMod (dCb gInt1 (dCons (dOp gDiv (dVar 3) (dC (.int 821))) dNil)) (dVar 1)))))
def w_law_roll : DFn := fnW false 4 2 B_law_roll
theorem i_law_roll {x0 x1 : SV} {μ : Mu} {Q : KD} (h : B_law_roll (fnEnds false μ.length Q) [some x0, some x1, none, none] μ) : w_law_roll [x0, x1] μ Q := ⟨rfl, h⟩
theorem ok_law_roll (h : HasFn K mg "_law_roll" s_law_roll) (b_int : mg "int" = none) : DefOk P w K mg base "_law_roll" 1 ["cup", "many"] w_law_roll :=
  ok_of (P := P) (w := w) (base := base) (keep := false) h sc_law_roll (fun _ _ _ _ _ _ us hl => match us, hl with | [_, _], _ => rfl)
    (fun f cdv A outer s H E hr => ⟨_, dss_cons (ds_if (dt_cmp do_gt (dx_ix (dx_var 0) dx_int) dx_int) (dss_cons (ds_set 2 sc_law_roll.nd (dx_bin do_mod (dx_cty dc_int1 b_int (da_cons (dx_ix (dx_var 0) dx_int) da_nil)) (dx_var 1))) (dss_cons (ds_store (dx_bin do_div (dx_ix (dx_var 0) dx_int) (dx_var 1)) (dx_var 0) dx_int) (dss_one (ds_ret (dx_var 2))))) dss_nil) (dss_cons (ds_store (dx_bin do_mod (dx_cty dc_int1 b_int (da_cons (dx_bin do_add (dx_bin do_mul (dx_ix (dx_var 0) dx_int) dx_int) dx_int) da_nil)) dx_int) (dx_var 0) dx_int) (dss_cons (ds_set 3 sc_law_roll.nd (dx_bin do_mod (dx_cty dc_int1 b_int (da_cons (dx_bin do_mul (dx_ix (dx_var 0) dx_int) (dx_bin do_add (dx_ix (dx_var 0) dx_int) dx_int)) da_nil)) dx_int)) (dss_one (ds_ret (dx_bin do_mod (dx_cty dc_int1 b_int (da_cons (dx_bin do_div (dx_var 3) dx_int) da_nil)) (dx_var 1))))))⟩)
/-! ### _law_some -/
abbrev s_law_some : Stmt := top 28
abbrev N_law_some : List Str := ["cup", "things"]
theorem sc_law_some : FnScope N_law_some ["cup", "things"] (defScope s_law_some) := ⟨rfl, rfl, rfl, by decide +kernel, rfl, by decide +kernel, by decide +kernel⟩
abbrev B_law_some : DS := dRet (dOp gIx (dVar 1) (dCall w_law_roll (dCons (dVar 0) (dCons (dCb gLen (dCons (dVar 1) dNil)) dNil))))
def w_law_some : DFn := fnW false 2 2 B_law_some
theorem i_law_some {x0 x1 : SV} {μ : Mu} {Q : KD} (h : B_law_some (fnEnds false μ.length Q) [some x0, some x1] μ) : w_law_some [x0, x1] μ Q := ⟨rfl, h⟩
theorem ok_law_some (h : HasFn K mg "_law_some" s_law_some) (d_law_roll : DefOk P w K mg base "_law_roll" 1 ["cup", "many"] w_law_roll) (b_len : mg "len" = none) : DefOk P w K mg base "_law_some" 2 ["cup", "things"] w_law_some :=
  ok_of (P := P) (w := w) (base := base) (keep := false) h sc_law_some (fun _ _ _ _ _ _ us hl => match us, hl with | [_, _], _ => rfl)
    (fun f cdv A outer s H E hr => ⟨_, dss_one (ds_ret (dx_ix (dx_var 1) (dx_call d_law_roll (hr.mono (by decide)) (da_cons (dx_var 0) (da_cons (dx_cb dc_len b_len (da_cons (dx_var 1) da_nil)) da_nil)))))⟩)
/-! ### _law_sort -/
abbrev s_law_sort : Stmt := top 29
abbrev N_law_sort : List Str := ["value"]
theorem sc_law_sort : FnScope N_law_sort ["value"] (defScope s_law_sort) := ⟨rfl, rfl, rfl, by decide +kernel, rfl, by decide +kernel, by decide +kernel⟩
abbrev B_law_sort : DS := dSeq (dIfS (dOr (dB (dOp gIs (dVar 0) (dC .none))) (dB (dIsi .bool (dVar 0)))) (dRet (dIf (dB (dOp gIs (dVar 0) (dC .none))) (dC (.int 0)) (dC (.int 1)))) dNext) (dSeq (dIfS (dOr (dB (dIsi .int (dVar 0))) (dB (dIsi .str (dVar 0)))) (dRet (dIf (dB (dIsi .int (dVar 0))) (dC (.int 2)) (dC (.int 3)))) dNext) (dRet (dIf (dB (dIsi .tuple (dVar 0))) (dC (.int 4)) (dIf (dB (dIsi .list (dVar 0))) (dC (.int 5)) (dC (.int 6))))))
def w_law_sort : DFn := fnW false 1 1 B_law_sort
theorem i_law_sort {x0 : SV} {μ : Mu} {Q : KD} (h : B_law_sort (fnEnds false μ.length Q) [some x0] μ) : w_law_sort [x0] μ Q := ⟨rfl, h⟩
theorem ok_law_sort (h : HasFn K mg "_law_sort" s_law_sort) (b_isinstance : mg "isinstance" = none) (b_bool : mg "bool" = none) (b_int : mg "int" = none) (b_str : mg "str" = none) (b_tuple : mg "tuple" = none) (b_list : mg "list" = none) : DefOk P w K mg base "_law_sort" 1 ["value"] w_law_sort :=
  ok_of (P := P) (w := w) (base := base) (keep := false) h sc_law_sort (fun _ _ _ _ _ _ us hl => match us, hl with | [_], _ => rfl)
    (fun f cdv A outer s H E hr => ⟨_, dss_cons (ds_if (DW.dt (dw_or (dt_cmp do_is (dx_var 0) dx_non) (dw_or1 (dt_val (dx_isi .bool b_isinstance b_bool (dx_var 0)))))) (dss_one (ds_ret (dx_if (dt_cmp do_is (dx_var 0) dx_non) dx_int dx_int))) dss_nil) (dss_cons (ds_if (DW.dt (dw_or (dt_val (dx_isi .int b_isinstance b_int (dx_var 0))) (dw_or1 (dt_val (dx_isi .str b_isinstance b_str (dx_var 0)))))) (dss_one (ds_ret (dx_if (dt_val (dx_isi .int b_isinstance b_int (dx_var 0))) dx_int dx_int))) dss_nil) (dss_one (ds_ret (dx_if (dt_val (dx_isi .tuple b_isinstance b_tuple (dx_var 0))) dx_int (dx_if (dt_val (dx_isi .list b_isinstance b_list (dx_var 0))) dx_int dx_int)))))⟩)
/-! ### _law_like -/
abbrev s_law_like : Stmt := top 30
abbrev N_law_like : List Str := ["one", "other", "sort", "first", "second"]
theorem sc_law_like : FnScope N_law_like ["one", "other"] (defScope s_law_like) := ⟨rfl, rfl, rfl, by decide +kernel, rfl, by decide +kernel, by decide +kernel⟩
abbrev B_law_like (w_law_like : DFn) : DS := dSeq (dSet (dCall w_law_sort (dCons (dVar 1) dNil)) 2) (dSeq (dIfS (dOr (dB (dOp gNe (dCall w_law_sort (dCons (dVar 0) dNil)) (dVar 2))) (dB (dOp gEq (dVar 2) (dC (.int 6))))) (dRet (dC (.bool false))) dNext) (dSeq (dIfS (dB (dOp gIn (dVar 2) (dTup (dCons (dC (.int 4)) (dCons (dC (.int 5)) dNil))))) (dRet (dAndV (dOp gEq (dCb gLen (dCons (dVar 0) dNil)) (dCb gLen (dCons (dVar 1) dNil))) (dOp gEq (dSnap (dLc (dZip (dCons (dVar 0) (dCons (dVar 1) dNil))) (dgTup 2 (dgCons (dgName 3) (dgCons (dgName 4) dgNil))) (dNot (dB (dCall w_law_like (dCons (dVar 3) (dCons (dVar 4) dNil))))) (dC (.int 1)) [3, 4])) (dSnap (dLst dNil))))) dNext) (dRet (dOp gEq (dVar 0) (dVar 1)))))
def w_law_like : Nat → DFn
  | 0 => wNone
  | n + 1 => fnW false 5 2 (B_law_like (w_law_like n))
theorem i_law_like {n : Nat} {x0 x1 : SV} {μ : Mu} {Q : KD} (h : B_law_like (w_law_like n) (fnEnds false μ.length Q) [some x0, some x1, none, none, none] μ) : w_law_like (n + 1) [x0, x1] μ Q := ⟨rfl, h⟩
theorem ok_law_like (h : HasFn K mg "_law_like" s_law_like) (d_law_sort : DefOk P w K mg base "_law_sort" 1 ["value"] w_law_sort) (b_len : mg "len" = none) (b_zip : mg "zip" = none) : ∀ n, DefOk P w K mg base "_law_like" (2 + n) ["one", "other"] (w_law_like n)
  | 0 => ok_none h (fun _ _ _ _ _ _ us hl => match us, hl with | [_, _], _ => rfl)
  | n + 1 => by
    have ih := ok_law_like h d_law_sort b_len b_zip n
    exact ok_of (P := P) (w := w) (base := base) (keep := false) h sc_law_like (fun _ _ _ _ _ _ us hl => match us, hl with | [_, _], _ => rfl)
      (fun f cdv A outer s H E hr => ⟨_, dss_cons (ds_set 2 sc_law_like.nd (dx_call d_law_sort (hr.mono (by show _ ≤ 2 + n; omega)) (da_cons (dx_var 1) da_nil))) (dss_cons (ds_if (DW.dt (dw_or (dt_cmp (do_ne hr.units) (dx_call d_law_sort (hr.mono (by show _ ≤ 2 + n; omega)) (da_cons (dx_var 0) da_nil)) (dx_var 2)) (dw_or1 (dt_cmp (do_eq hr.units) (dx_var 2) dx_int)))) (dss_one (ds_ret dx_bl)) dss_nil) (dss_cons (ds_if (dt_cmp (do_in (units65 hr)) (dx_var 2) (dx_tup (da_cons dx_int (da_cons dx_int da_nil)))) (dss_one (ds_ret (dx_and (dx_cmp (do_eq hr.units) (dx_cb dc_len b_len (da_cons (dx_var 0) da_nil)) (dx_cb dc_len b_len (da_cons (dx_var 1) da_nil))) (dx_one (dx_cmp (do_eq hr.units) (DNn.snap (dn_lc [("first", 3), ("second", 4)] sc_law_like.nd (di_zip b_zip (da_cons (dx_var 0) (da_cons (dx_var 1) da_nil))) (blkOk_by (own := [("first", 3), ("second", 4)]) (N := N_law_like) (sc := defScope s_law_like) (by decide +kernel)) (fun _ _ _ _ _ => dg_tup (dgs_cons (dg_name 3 sc_law_like.nd) (dgs_cons (dg_name 4 sc_law_like.nd) dgs_nil))) (fun _ _ _ _ _ => dts_one (dt_not (dt_val (dx_call ih hr (da_cons (dx_var 3) (da_cons (dx_var 4) da_nil)))))) (fun _ _ _ _ _ => dx_int))) (DNn.snap (dn_lst da_nil))))))) dss_nil) (dss_one (ds_ret (dx_cmp (do_eq hr.units) (dx_var 0) (dx_var 1))))))⟩)
/-! ### _law_divisor -/
abbrev s_law_divisor : Stmt := top 31
abbrev N_law_divisor : List Str := ["one", "other"]
theorem sc_law_divisor : FnScope N_law_divisor ["one", "other"] (defScope s_law_divisor) := ⟨rfl, rfl, rfl, by decide +kernel, rfl, by decide +kernel, by decide +kernel⟩
abbrev B_law_divisor : DS := dSeq (dPar 0 1 (dCons (dCb gAbs (dCons (dVar 0) dNil)) (dCons (dCb gAbs (dCons (dVar 1) dNil)) dNil))) (dSeq (dWhile (dB (dOp gNe (dVar 1) (dC (.int 0)))) (dPar 0 1 (dCons (dVar 1) (dCons (dOp gMod (dCb gInt1 (dCons (dVar 0) dNil)) (dVar 1)) dNil)))) (dRet (dVar 0)))
def w_law_divisor : DFn := fnW false 2 2 B_law_divisor
theorem i_law_divisor {x0 x1 : SV} {μ : Mu} {Q : KD} (h : B_law_divisor (fnEnds false μ.length Q) [some x0, some x1] μ) : w_law_divisor [x0, x1] μ Q := ⟨rfl, h⟩
theorem ok_law_divisor (h : HasFn K mg "_law_divisor" s_law_divisor) (b_abs : mg "abs" = none) (b_int : mg "int" = none) : DefOk P w K mg base "_law_divisor" 1 ["one", "other"] w_law_divisor :=
  ok_of (P := P) (w := w) (base := base) (keep := false) h sc_law_divisor (fun _ _ _ _ _ _ us hl => match us, hl with | [_, _], _ => rfl)
    (fun f cdv A outer s H E hr => ⟨_, dss_cons (ds_par 0 1 sc_law_divisor.nd (da_cons (dx_cb dc_abs b_abs (da_cons (dx_var 0) da_nil)) (da_cons (dx_cb dc_abs b_abs (da_cons (dx_var 1) da_nil)) da_nil))) (dss_cons (ds_while PassesOwn.never (dt_cmp (do_ne hr.units) (dx_var 1) dx_int) (dss_one (ds_par 0 1 sc_law_divisor.nd (da_cons (dx_var 1) (da_cons (dx_bin do_mod (dx_cty dc_int1 b_int (da_cons (dx_var 0) da_nil)) (dx_var 1)) da_nil))))) (dss_one (ds_ret (dx_var 0))))⟩)
/-! ### _law_is_prime -/
abbrev s_law_is_prime : Stmt := top 32
abbrev N_law_is_prime : List Str := ["number", "found"]
theorem sc_law_is_prime : FnScope N_law_is_prime ["number"] (defScope s_law_is_prime) := ⟨rfl, rfl, rfl, by decide +kernel, rfl, by decide +kernel, by decide +kernel⟩
abbrev B_law_is_prime : DS := dSeq (dIfS (dB (dOp gLt (dVar 0) (dC (.int 2)))) (dRet (dC (.bool false))) dNext) (dSeq (dSet (dC (.int 2)) 1) (dSeq (dWhile (dB (dOp gLe (dOp gMul (dVar 1) (dVar 1)) (dVar 0))) (dSeq (dIfS (dB (dOp gEq (dOp gMod (dCb gInt1 (dCons (dVar 0) dNil)) (dVar 1)) (dC (.int 0)))) (dRet (dC (.bool false))) dNext) (dSet (dOp gAdd (dVar 1) (dC (.int 1))) 1))) (dRet (dC (.bool true)))))
def w_law_is_prime : DFn := fnW false 2 1 B_law_is_prime
theorem i_law_is_prime {x0 : SV} {μ : Mu} {Q : KD} (h : B_law_is_prime (fnEnds false μ.length Q) [some x0, none] μ) : w_law_is_prime [x0] μ Q := ⟨rfl, h⟩
theorem ok_law_is_prime (h : HasFn K mg "_law_is_prime" s_law_is_prime) (b_int : mg "int" = none) : DefOk P w K mg base "_law_is_prime" 1 ["number"] w_law_is_prime :=
  ok_of (P := P) (w := w) (base := base) (keep := false) h sc_law_is_prime (fun _ _ _ _ _ _ us hl => match us, hl with | [_], _ => rfl)
    (fun f cdv A outer s H E hr => ⟨_, dss_cons (ds_if (dt_cmp do_lt (dx_var 0) dx_int) (dss_one (ds_ret dx_bl)) dss_nil) (dss_cons (ds_set 1 sc_law_is_prime.nd dx_int) (dss_cons (ds_while PassesOwn.never (dt_cmp do_le (dx_bin do_mul (dx_var 1) (dx_var 1)) (dx_var 0)) (dss_cons (ds_if (dt_cmp (do_eq hr.units) (dx_bin do_mod (dx_cty dc_int1 b_int (da_cons (dx_var 0) da_nil)) (dx_var 1)) dx_int) (dss_one (ds_ret dx_bl)) dss_nil) (dss_one (ds_set 1 sc_law_is_prime.nd (dx_bin do_add (dx_var 1) dx_int))))) (dss_one (ds_ret dx_bl))))⟩)
/-! ### _law_factors -/
abbrev s_law_factors : Stmt := top 33
abbrev N_law_factors : List Str := ["number", "found", "prime", "left", "power"]
theorem sc_law_factors : FnScope N_law_factors ["number"] (defScope s_law_factors) := ⟨rfl, rfl, rfl, by decide +kernel, rfl, by decide +kernel, by decide +kernel⟩
abbrev B_law_factors : DS := dSeq (dPar3 1 2 3 (dCons (dSnap (dLst dNil)) (dCons (dC (.int 2)) (dCons (dVar 0) dNil)))) (dSeq (dWhile (dB (dOp gLe (dOp gMul (dVar 2) (dVar 2)) (dVar 3))) (dSeq (dSet (dC (.int 0)) 4) (dSeq (dWhile (dB (dOp gEq (dOp gMod (dCb gInt1 (dCons (dVar 3) dNil)) (dVar 2)) (dC (.int 0)))) (dPar 3 4 (dCons (dCb gInt1 (dCons (dOp gDiv (dVar 3) (dVar 2)) dNil)) (dCons (dOp gAdd (dVar 4) (dC (.int 1))) dNil)))) (dSeq (dSet (dOp gAdd (dVar 1) (dIf (dB (dOp gGt (dVar 4) (dC (.int 0)))) (dSnap (dLst (dCons (dTup (dCons (dVar 2) (dCons (dVar 4) dNil))) dNil))) (dSnap (dLst dNil)))) 1) (dSet (dOp gAdd (dVar 2) (dC (.int 1))) 2))))) (dRet (dCb gTuple (dCons (dOp gAdd (dVar 1) (dIf (dB (dOp gGt (dVar 3) (dC (.int 1)))) (dSnap (dLst (dCons (dTup (dCons (dVar 3) (dCons (dC (.int 1)) dNil))) dNil))) (dSnap (dLst dNil)))) dNil))))
def w_law_factors : DFn := fnW false 5 1 B_law_factors
theorem i_law_factors {x0 : SV} {μ : Mu} {Q : KD} (h : B_law_factors (fnEnds false μ.length Q) [some x0, none, none, none, none] μ) : w_law_factors [x0] μ Q := ⟨rfl, h⟩
theorem ok_law_factors (h : HasFn K mg "_law_factors" s_law_factors) (b_int : mg "int" = none) (b_tuple : mg "tuple" = none) : DefOk P w K mg base "_law_factors" 1 ["number"] w_law_factors :=
  ok_of (P := P) (w := w) (base := base) (keep := false) h sc_law_factors (fun _ _ _ _ _ _ us hl => match us, hl with | [_], _ => rfl)
    (fun f cdv A outer s H E hr => ⟨_, dss_cons (ds_par3 1 2 3 sc_law_factors.nd (da_cons (DNn.snap (dn_lst da_nil)) (da_cons dx_int (da_cons (dx_var 0) da_nil)))) (dss_cons (ds_while PassesOwn.never (dt_cmp do_le (dx_bin do_mul (dx_var 2) (dx_var 2)) (dx_var 3)) (dss_cons (ds_set 4 sc_law_factors.nd dx_int) (dss_cons (ds_while PassesOwn.never (dt_cmp (do_eq hr.units) (dx_bin do_mod (dx_cty dc_int1 b_int (da_cons (dx_var 3) da_nil)) (dx_var 2)) dx_int) (dss_one (ds_par 3 4 sc_law_factors.nd (da_cons (dx_cty dc_int1 b_int (da_cons (dx_bin do_div (dx_var 3) (dx_var 2)) da_nil)) (da_cons (dx_bin do_add (dx_var 4) dx_int) da_nil))))) (dss_cons (ds_set 1 sc_law_factors.nd (dx_bin do_add (dx_var 1) (dx_if (dt_cmp do_gt (dx_var 4) dx_int) (DNn.snap (dn_lst (da_cons (dx_tup (da_cons (dx_var 2) (da_cons (dx_var 4) da_nil))) da_nil))) (DNn.snap (dn_lst da_nil))))) (dss_one (ds_set 2 sc_law_factors.nd (dx_bin do_add (dx_var 2) dx_int))))))) (dss_one (ds_ret (dx_cty dc_tuple b_tuple (da_cons (dx_bin do_add (dx_var 1) (dx_if (dt_cmp do_gt (dx_var 3) dx_int) (DNn.snap (dn_lst (da_cons (dx_tup (da_cons (dx_var 3) (da_cons dx_int da_nil))) da_nil))) (DNn.snap (dn_lst da_nil)))) da_nil)))))⟩)
/-! ### _law_power -/
abbrev s_law_power : Stmt := top 34
abbrev N_law_power : List Str := ["one", "times", "number", "found", "here"]
theorem sc_law_power : FnScope N_law_power ["one", "times", "number"] (defScope s_law_power) := ⟨rfl, rfl, rfl, by decide +kernel, rfl, by decide +kernel, by decide +kernel⟩
abbrev B_law_power : DS := dSeq (dPar 3 4 (dCons (dC (.int 1)) (dCons (dOp gMod (dCb gInt1 (dCons (dVar 0) dNil)) (dVar 2)) dNil))) (dSeq (dWhile (dB (dOp gGt (dVar 1) (dC (.int 0)))) (dSeq (dSet (dIf (dB (dOp gEq (dOp gMod (dCb gInt1 (dCons (dVar 1) dNil)) (dC (.int 2))) (dC (.int 1)))) (dOp gMod (dCb gInt1 (dCons (dOp gMul (dVar 3) (dVar 4)) dNil)) (dVar 2)) (dVar 3)) 3) (dPar 4 1 (dCons (dOp gMod (dCb gInt1 (dCons (dOp gMul (dVar 4) (dVar 4)) dNil)) (dVar 2)) (dCons (dCb gInt1 (dCons (dOp gDiv (dVar 1) (dC (.int 2))) dNil)) dNil))))) (dRet (dOp gMod (dCb gInt1 (dCons (dVar 3) dNil)) (dVar 2))))
def w_law_power : DFn := fnW false 5 3 B_law_power
theorem i_law_power {x0 x1 x2 : SV} {μ : Mu} {Q : KD} (h : B_law_power (fnEnds false μ.length Q) [some x0, some x1, some x2, none, none] μ) : w_law_power [x0, x1, x2] μ Q := ⟨rfl, h⟩
theorem ok_law_power (h : HasFn K mg "_law_power" s_law_power) (b_int : mg "int" = none) : DefOk P w K mg base "_law_power" 1 ["one", "times", "number"] w_law_power :=
  ok_of (P := P) (w := w) (base := base) (keep := false) h sc_law_power (fun _ _ _ _ _ _ us hl => match us, hl with | [_, _, _], _ => rfl)
    (fun f cdv A outer s H E hr => ⟨_, dss_cons (ds_par 3 4 sc_law_power.nd (da_cons dx_int (da_cons (dx_bin do_mod (dx_cty dc_int1 b_int (da_cons (dx_var 0) da_nil)) (dx_var 2)) da_nil))) (dss_cons (ds_while PassesOwn.never (dt_cmp do_gt (dx_var 1) dx_int) (dss_cons (ds_set 3 sc_law_power.nd (dx_if (dt_cmp (do_eq hr.units) (dx_bin do_mod (dx_cty dc_int1 b_int (da_cons (dx_var 1) da_nil)) dx_int) dx_int) (dx_bin do_mod (dx_cty dc_int1 b_int (da_cons (dx_bin do_mul (dx_var 3) (dx_var 4)) da_nil)) (dx_var 2)) (dx_var 3))) (dss_one (ds_par 4 1 sc_law_power.nd (da_cons (dx_bin do_mod (dx_cty dc_int1 b_int (da_cons (dx_bin do_mul (dx_var 4) (dx_var 4)) da_nil)) (dx_var 2)) (da_cons (dx_cty dc_int1 b_int (da_cons (dx_bin do_div (dx_var 1) dx_int) da_nil)) da_nil)))))) (dss_one (ds_ret (dx_bin do_mod (dx_cty dc_int1 b_int (da_cons (dx_var 3) da_nil)) (dx_var 2)))))⟩)
/-! ### _law_number -/
abbrev s_law_number : Stmt := top 35
abbrev N_law_number : List Str := ["cup", "most", "way", "found", "primes", "turn", "prime"]
theorem sc_law_number : FnScope N_law_number ["cup", "most"] (defScope s_law_number) := ⟨rfl, rfl, rfl, by decide +kernel, rfl, by decide +kernel, by decide +kernel⟩
abbrev B_law_number : DS := dSeq (dPar 2 3 (dCons (dCall w_law_roll (dCons (dVar 0) (dCons (dC (.int 4)) dNil))) (dCons (dC (.int 1)) dNil))) (dSeq (dIfS (dB (dOp gLt (dVar 2) (dC (.int 2)))) (dRet (dOp gAdd (dC (.int 1)) (dCall w_law_roll (dCons (dVar 0) (dCons (dVar 1) dNil))))) dNext) (dSeq (dSet (dIf (dB (dOp gEq (dVar 2) (dC (.int 2)))) (dSnap (dLst (dCons (dC (.int 2)) (dCons (dC (.int 3)) (dCons (dC (.int 5)) (dCons (dC (.int 7)) (dCons (dC (.int 11)) (dCons (dC (.int 13)) dNil)))))))) (dSnap (dLst (dCons (dCall w_law_some (dCons (dVar 0) (dCons (dSnap (dLst (dCons (dC (.int 2)) (dCons (dC (.int 3)) (dCons (dC (.int 5)) (dCons (dC (.int 7)) (dCons (dC (.int 11)) dNil))))))) dNil))) dNil)))) 4) (dSeq (dFor (dRng1 (dCons (dC (.int 6)) dNil)) (dgName 5) (dSeq (dSet (dCall w_law_some (dCons (dVar 0) (dCons (dVar 4) dNil))) 6) (dSet (dIf (dB (dOp gLe (dOp gMul (dVar 3) (dVar 6)) (dVar 1))) (dOp gMul (dVar 3) (dVar 6)) (dVar 3)) 3))) (dRet (dVar 3)))))
def w_law_number : DFn := fnW false 7 2 B_law_number
theorem i_law_number {x0 x1 : SV} {μ : Mu} {Q : KD} (h : B_law_number (fnEnds false μ.length Q) [some x0, some x1, none, none, none, none, none] μ) : w_law_number [x0, x1] μ Q := ⟨rfl, h⟩
theorem ok_law_number (h : HasFn K mg "_law_number" s_law_number) (d_law_roll : DefOk P w K mg base "_law_roll" 1 ["cup", "many"] w_law_roll) (d_law_some : DefOk P w K mg base "_law_some" 2 ["cup", "things"] w_law_some) (b_range : mg "range" = none) : DefOk P w K mg base "_law_number" 3 ["cup", "most"] w_law_number :=
  ok_of (P := P) (w := w) (base := base) (keep := false) h sc_law_number (fun _ _ _ _ _ _ us hl => match us, hl with | [_, _], _ => rfl)
    (fun f cdv A outer s H E hr => ⟨_, dss_cons (ds_par 2 3 sc_law_number.nd (da_cons (dx_call d_law_roll (hr.mono (by decide)) (da_cons (dx_var 0) (da_cons dx_int da_nil))) (da_cons dx_int da_nil))) (dss_cons (ds_if (dt_cmp do_lt (dx_var 2) dx_int) (dss_one (ds_ret (dx_bin do_add dx_int (dx_call d_law_roll (hr.mono (by decide)) (da_cons (dx_var 0) (da_cons (dx_var 1) da_nil)))))) dss_nil) (dss_cons (ds_set 4 sc_law_number.nd (dx_if (dt_cmp (do_eq hr.units) (dx_var 2) dx_int) (DNn.snap (dn_lst (da_cons dx_int (da_cons dx_int (da_cons dx_int (da_cons dx_int (da_cons dx_int (da_cons dx_int da_nil)))))))) (DNn.snap (dn_lst (da_cons (dx_call d_law_some (hr.mono (by decide)) (da_cons (dx_var 0) (da_cons (DNn.snap (dn_lst (da_cons dx_int (da_cons dx_int (da_cons dx_int (da_cons dx_int (da_cons dx_int da_nil))))))) da_nil))) da_nil))))) (dss_cons (ds_for PassesOwn.never (di_rng1 b_range (da_cons dx_int da_nil)) (dg_name 5 sc_law_number.nd) (dss_cons (ds_set 6 sc_law_number.nd (dx_call d_law_some (hr.mono (by decide)) (da_cons (dx_var 0) (da_cons (dx_var 4) da_nil)))) (dss_one (ds_set 3 sc_law_number.nd (dx_if (dt_cmp do_le (dx_bin do_mul (dx_var 3) (dx_var 6)) (dx_var 1)) (dx_bin do_mul (dx_var 3) (dx_var 6)) (dx_var 3)))))) (dss_one (ds_ret (dx_var 3))))))⟩)
/-! ### _law_bent -/
abbrev s_law_bent : Stmt := top 36
abbrev N_law_bent : List Str := ["cup", "value", "some", "at", "way"]
theorem sc_law_bent : FnScope N_law_bent ["cup", "value"] (defScope s_law_bent) := ⟨rfl, rfl, rfl, by decide +kernel, rfl, by decide +kernel, by decide +kernel⟩
abbrev B_law_bent (w_law_bent : DFn) : DS := dSeq (dIfS (dOr (dNot (dB (dIsi .tuple (dVar 1)))) (dOr (dB (dOp gEq (dVar 1) (dTup dNil))) (dB (dOp gEq (dCall w_law_roll (dCons (dVar 0) (dCons (dC (.int 8)) dNil))) (dC (.int 0)))))) (dSeq (dSet (dSnap (dLst (dCons (dC .none) (dCons (dC (.bool true)) (dCons (dC (.bool false)) (dCons (dC (.int 0)) (dCons (dC (.int 1)) (dCons (dC (.int 2)) (dCons (dC (.int 5)) (dCons (dUn (fun i => -i) (dC (.int 1))) (dCons (dC (.str "")) (dCons (dC (.str "divisor")) (dCons (dTup dNil) (dCons (dSnap (dLst dNil)) (dCons (dTup (dCons (dC (.int 0)) (dCons (dC (.int 1)) dNil))) (dCons (dTup (dCons (dC (.int 2)) dNil)) dNil)))))))))))))))) 2) (dSeq (dIfS (dB (dOp gEq (dCall w_law_sort (dCons (dVar 1) dNil)) (dC (.int 2)))) (dSet (dOp gAdd (dVar 2) (dSnap (dLst (dCons (dOp gAdd (dVar 1) (dC (.int 1))) (dCons (dOp gAdd (dVar 1) (dC (.int 1))) (dCons (dOp gMinus (dVar 1) (dC (.int 1))) dNil)))))) 2) dNext) (dRet (dCall w_law_some (dCons (dVar 0) (dCons (dVar 2) dNil)))))) dNext) (dSeq (dPar 3 4 (dCons (dCall w_law_roll (dCons (dVar 0) (dCons (dCb gLen (dCons (dVar 1) dNil)) dNil))) (dCons (dCall w_law_roll (dCons (dVar 0) (dCons (dC (.int 12)) dNil))) dNil))) (dSeq (dIfS (dB (dOp gLt (dVar 4) (dC (.int 4)))) (dRet (dOp gIx (dSnap (dLst (dCons (dOp gAdd (dSlice (dVar 1) dNoPart (dPart (dVar 3))) (dSlice (dVar 1) (dPart (dOp gAdd (dVar 3) (dC (.int 1)))) dNoPart)) (dCons (dOp gAdd (dSlice (dVar 1) dNoPart (dPart (dOp gAdd (dVar 3) (dC (.int 1))))) (dSlice (dVar 1) (dPart (dVar 3)) dNoPart)) (dCons (dSnap (dnList (dCons (dVar 1) dNil))) (dCons (dRev (dVar 1)) dNil)))))) (dVar 4))) dNext) (dRet (dOp gAdd (dOp gAdd (dSlice (dVar 1) dNoPart (dPart (dVar 3))) (dTup (dCons (dCall w_law_bent (dCons (dVar 0) (dCons (dOp gIx (dVar 1) (dVar 3)) dNil))) dNil))) (dSlice (dVar 1) (dPart (dOp gAdd (dVar 3) (dC (.int 1)))) dNoPart)))))
def w_law_bent : Nat → DFn
  | 0 => wNone
  | n + 1 => fnW false 5 2 (B_law_bent (w_law_bent n))
theorem i_law_bent {n : Nat} {x0 x1 : SV} {μ : Mu} {Q : KD} (h : B_law_bent (w_law_bent n) (fnEnds false μ.length Q) [some x0, some x1, none, none, none] μ) : w_law_bent (n + 1) [x0, x1] μ Q := ⟨rfl, h⟩
theorem ok_law_bent (h : HasFn K mg "_law_bent" s_law_bent) (d_law_roll : DefOk P w K mg base "_law_roll" 1 ["cup", "many"] w_law_roll) (d_law_sort : DefOk P w K mg base "_law_sort" 1 ["value"] w_law_sort) (d_law_some : DefOk P w K mg base "_law_some" 2 ["cup", "things"] w_law_some) (b_isinstance : mg "isinstance" = none) (b_tuple : mg "tuple" = none) (b_len : mg "len" = none) (b_list : mg "list" = none) : ∀ n, DefOk P w K mg base "_law_bent" (3 + n) ["cup", "value"] (w_law_bent n)
  | 0 => ok_none h (fun _ _ _ _ _ _ us hl => match us, hl with | [_, _], _ => rfl)
  | n + 1 => by
    have ih := ok_law_bent h d_law_roll d_law_sort d_law_some b_isinstance b_tuple b_len b_list n
    exact ok_of (P := P) (w := w) (base := base) (keep := false) h sc_law_bent (fun _ _ _ _ _ _ us hl => match us, hl with | [_, _], _ => rfl)
      (fun f cdv A outer s H E hr => ⟨_, dss_cons (ds_if (DW.dt (dw_or (dt_not (dt_val (dx_isi .tuple b_isinstance b_tuple (dx_var 1)))) (dw_or (dt_cmp (do_eq hr.units) (dx_var 1) (dx_tup da_nil)) (dw_or1 (dt_cmp (do_eq hr.units) (dx_call d_law_roll (hr.mono (by show _ ≤ 3 + n; omega)) (da_cons (dx_var 0) (da_cons dx_int da_nil))) dx_int))))) (dss_cons (ds_set 2 sc_law_bent.nd (DNn.snap (dn_lst (da_cons dx_non (da_cons dx_bl (da_cons dx_bl (da_cons dx_int (da_cons dx_int (da_cons dx_int (da_cons dx_int (da_cons (dx_neg dx_int) (da_cons dx_str (da_cons dx_str (da_cons (dx_tup da_nil) (da_cons (DNn.snap (dn_lst da_nil)) (da_cons (dx_tup (da_cons dx_int (da_cons dx_int da_nil))) (da_cons (dx_tup (da_cons dx_int da_nil)) da_nil))))))))))))))))) (dss_cons (ds_if (dt_cmp (do_eq hr.units) (dx_call d_law_sort (hr.mono (by show _ ≤ 3 + n; omega)) (da_cons (dx_var 1) da_nil)) dx_int) (dss_one (ds_set 2 sc_law_bent.nd (dx_bin do_add (dx_var 2) (DNn.snap (dn_lst (da_cons (dx_bin do_add (dx_var 1) dx_int) (da_cons (dx_bin do_add (dx_var 1) dx_int) (da_cons (dx_bin do_sub (dx_var 1) dx_int) da_nil)))))))) dss_nil) (dss_one (ds_ret (dx_call d_law_some (hr.mono (by show _ ≤ 3 + n; omega)) (da_cons (dx_var 0) (da_cons (dx_var 2) da_nil))))))) dss_nil) (dss_cons (ds_par 3 4 sc_law_bent.nd (da_cons (dx_call d_law_roll (hr.mono (by show _ ≤ 3 + n; omega)) (da_cons (dx_var 0) (da_cons (dx_cb dc_len b_len (da_cons (dx_var 1) da_nil)) da_nil))) (da_cons (dx_call d_law_roll (hr.mono (by show _ ≤ 3 + n; omega)) (da_cons (dx_var 0) (da_cons dx_int da_nil))) da_nil))) (dss_cons (ds_if (dt_cmp do_lt (dx_var 4) dx_int) (dss_one (ds_ret (dx_ix (DNn.snap (dn_lst (da_cons (dx_bin do_add (dx_slice (dx_var 1) dpo_none (dpo_some (dx_var 3))) (dx_slice (dx_var 1) (dpo_some (dx_bin do_add (dx_var 3) dx_int)) dpo_none)) (da_cons (dx_bin do_add (dx_slice (dx_var 1) dpo_none (dpo_some (dx_bin do_add (dx_var 3) dx_int))) (dx_slice (dx_var 1) (dpo_some (dx_var 3)) dpo_none)) (da_cons (DNn.snap (dn_list b_list (da_cons (dx_var 1) da_nil))) (da_cons (dx_rev (dx_var 1)) da_nil)))))) (dx_var 4)))) dss_nil) (dss_one (ds_ret (dx_bin do_add (dx_bin do_add (dx_slice (dx_var 1) dpo_none (dpo_some (dx_var 3))) (dx_tup (da_cons (dx_call ih hr (da_cons (dx_var 0) (da_cons (dx_ix (dx_var 1) (dx_var 3)) da_nil))) da_nil))) (dx_slice (dx_var 1) (dpo_some (dx_bin do_add (dx_var 3) dx_int)) dpo_none))))))⟩)
/-! ### _law_is_against -/
abbrev s_law_is_against : Stmt := top 37
abbrev N_law_is_against : List Str := ["great", "value", "word", "own"]
theorem sc_law_is_against : FnScope N_law_is_against ["great", "value"] (defScope s_law_is_against) := ⟨rfl, rfl, rfl, by decide +kernel, rfl, by decide +kernel, by decide +kernel⟩
abbrev B_law_is_against : DS := dSeq (dIfS (dOr (dNot (dB (dIsi .tuple (dVar 1)))) (dOr (dB (dOp gNe (dCb gLen (dCons (dVar 1) dNil)) (dC (.int 2)))) (dOr (dB (dOp gNe (dCall w_law_sort (dCons (dOp gIx (dVar 1) (dC (.int 0))) dNil)) (dC (.int 3)))) (dB (dOp gNe (dCall w_law_sort (dCons (dOp gIx (dVar 1) (dC (.int 1))) dNil)) (dC (.int 2))))))) (dRet (dC (.bool false))) dNext) (dSeq (dAsg (dVar 1) (dgTup 2 (dgCons (dgName 2) (dgCons (dgName 3) dgNil)))) (dSeq (dIfS (dB (dOp gEq (dVar 2) (dC (.str "divisor")))) (dRet (dAndV (dChain gLt gLt (dC (.int 1)) (dVar 3) (dVar 0)) (dOp gEq (dOp gMod (dCb gInt1 (dCons (dVar 0) dNil)) (dVar 3)) (dC (.int 0))))) dNext) (dSeq (dIfS (dB (dOp gEq (dVar 2) (dC (.str "power")))) (dRet (dAndV (dChain gLt gLt (dC (.int 1)) (dVar 3) (dOp gMinus (dVar 0) (dC (.int 1)))) (dOp gNe (dCall w_law_power (dCons (dVar 3) (dCons (dOp gMinus (dVar 0) (dC (.int 1))) (dCons (dVar 0) dNil)))) (dC (.int 1))))) dNext) (dRet (dAndV (dOp gEq (dVar 2) (dC (.str "square"))) (dAndV (dChain gLt gLt (dC (.int 1)) (dVar 3) (dOp gMinus (dVar 0) (dC (.int 1)))) (dOp gEq (dOp gMod (dCb gInt1 (dCons (dOp gMinus (dOp gMul (dVar 3) (dVar 3)) (dC (.int 1))) dNil)) (dVar 0)) (dC (.int 0)))))))))
def w_law_is_against : DFn := fnW false 4 2 B_law_is_against
theorem i_law_is_against {x0 x1 : SV} {μ : Mu} {Q : KD} (h : B_law_is_against (fnEnds false μ.length Q) [some x0, some x1, none, none] μ) : w_law_is_against [x0, x1] μ Q := ⟨rfl, h⟩
theorem ok_law_is_against (h : HasFn K mg "_law_is_against" s_law_is_against) (d_law_sort : DefOk P w K mg base "_law_sort" 1 ["value"] w_law_sort) (d_law_power : DefOk P w K mg base "_law_power" 1 ["one", "times", "number"] w_law_power) (b_isinstance : mg "isinstance" = none) (b_tuple : mg "tuple" = none) (b_len : mg "len" = none) (b_int : mg "int" = none) : DefOk P w K mg base "_law_is_against" 2 ["great", "value"] w_law_is_against :=
  ok_of (P := P) (w := w) (base := base) (keep := false) h sc_law_is_against (fun _ _ _ _ _ _ us hl => match us, hl with | [_, _], _ => rfl)
    (fun f cdv A outer s H E hr => ⟨_, dss_cons (ds_if (DW.dt (dw_or (dt_not (dt_val (dx_isi .tuple b_isinstance b_tuple (dx_var 1)))) (dw_or (dt_cmp (do_ne hr.units) (dx_cb dc_len b_len (da_cons (dx_var 1) da_nil)) dx_int) (dw_or (dt_cmp (do_ne hr.units) (dx_call d_law_sort (hr.mono (by decide)) (da_cons (dx_ix (dx_var 1) dx_int) da_nil)) dx_int) (dw_or1 (dt_cmp (do_ne hr.units) (dx_call d_law_sort (hr.mono (by decide)) (da_cons (dx_ix (dx_var 1) dx_int) da_nil)) dx_int)))))) (dss_one (ds_ret dx_bl)) dss_nil) (dss_cons (ds_asg (dx_var 1) (dg_tup (dgs_cons (dg_name 2 sc_law_is_against.nd) (dgs_cons (dg_name 3 sc_law_is_against.nd) dgs_nil)))) (dss_cons (ds_if (dt_cmp (do_eq hr.units) (dx_var 2) dx_str) (dss_one (ds_ret (dx_and (dx_chain do_lt do_lt dx_int (dx_var 3) (dx_var 0)) (dx_one (dx_cmp (do_eq hr.units) (dx_bin do_mod (dx_cty dc_int1 b_int (da_cons (dx_var 0) da_nil)) (dx_var 3)) dx_int))))) dss_nil) (dss_cons (ds_if (dt_cmp (do_eq hr.units) (dx_var 2) dx_str) (dss_one (ds_ret (dx_and (dx_chain do_lt do_lt dx_int (dx_var 3) (dx_bin do_sub (dx_var 0) dx_int)) (dx_one (dx_cmp (do_ne hr.units) (dx_call d_law_power (hr.mono (by decide)) (da_cons (dx_var 3) (da_cons (dx_bin do_sub (dx_var 0) dx_int) (da_cons (dx_var 0) da_nil)))) dx_int))))) dss_nil) (dss_one (ds_ret (dx_and (dx_cmp (do_eq hr.units) (dx_var 2) dx_str) (dx_and (dx_chain do_lt do_lt dx_int (dx_var 3) (dx_bin do_sub (dx_var 0) dx_int)) (dx_one (dx_cmp (do_eq hr.units) (dx_bin do_mod (dx_cty dc_int1 b_int (da_cons (dx_bin do_sub (dx_bin do_mul (dx_var 3) (dx_var 3)) dx_int) da_nil)) (dx_var 0)) dx_int)))))))))⟩)
/-! ### _law_right -/
abbrev s_law_right : Stmt := top 38
abbrev N_law_right : List Str := ["cup", "number", "told", "prime", "some", "odds", "word", "turn", "own", "prime_power", "other", "odd", "part", "one"]
theorem sc_law_right : FnScope N_law_right ["cup", "number"] (defScope s_law_right) := ⟨rfl, rfl, rfl, by decide +kernel, rfl, by decide +kernel, by decide +kernel⟩
abbrev B_law_right : DS := dSeq (dPar 2 3 (dCons (dCall w_paper_against (dCons (dVar 1) dNil)) (dCons (dCall w_law_is_prime (dCons (dVar 1) dNil)) dNil))) (dSeq (dIfS (dOr (dB (dOp gNe (dOp gIs (dVar 2) (dC .none)) (dOrV (dVar 3) (dOp gEq (dVar 1) (dC (.int 1)))))) (dB (dOp gNe (dCall w_is_prime (dCons (dVar 1) dNil)) (dVar 3)))) (dRet (dC (.bool false))) dNext) (dSeq (dIfS (dAnd (dB (dOp gIsNot (dVar 2) (dC .none))) (dNot (dB (dCall w_law_is_against (dCons (dVar 1) (dCons (dVar 2) dNil)))))) (dRet (dC (.bool false))) dNext) (dSeq (dSet (dIf (dB (dOp gIsNot (dVar 2) (dC .none))) (dVar 2) (dTup (dCons (dC (.str "divisor")) (dCons (dVar 1) dNil)))) 4) (dSeq (dSet (dLoc (dLst (dCons (dVar 4) (dCons (dRev (dVar 4)) (dCons (dSnap (dnList (dCons (dVar 4) dNil))) (dCons (dSlice (dVar 4) dNoPart (dPart (dC (.int 1)))) (dCons (dOp gAdd (dVar 4) (dTup (dCons (dC (.int 1)) dNil))) (dCons (dC .none) (dCons (dTup dNil) (dCons (dC (.int 0)) (dCons (dTup (dCons (dC (.str "divisor")) (dCons (dC (.int 1)) dNil))) (dCons (dTup (dCons (dC (.str "divisor")) (dCons (dVar 1) dNil))) (dCons (dTup (dCons (dC (.str "divisor")) (dCons (dC (.bool true)) dNil))) dNil))))))))))))) 5) (dSeq (dSet (dLoc (dnCat (dVar 5) (dSnap (dLst (dCons (dTup (dCons (dC (.str "Divisor")) (dCons (dOp gIx (dVar 4) (dC (.int 1))) dNil))) (dCons (dTup (dCons (dC (.int 0)) (dCons (dC (.int 2)) dNil))) (dCons (dTup (dCons (dC (.str "power")) (dCons (dC (.int 1)) dNil))) (dCons (dTup (dCons (dC (.str "power")) (dCons (dOp gMinus (dVar 1) (dC (.int 1))) dNil))) (dCons (dTup (dCons (dC (.str "square")) (dCons (dOp gMinus (dVar 1) (dC (.int 1))) dNil))) (dCons (dTup (dCons (dC (.str "square")) (dCons (dC (.int 1)) dNil))) dNil)))))))))) 5) (dSeq (dFor (dIt (dTup (dCons (dC (.str "divisor")) (dCons (dC (.str "power")) (dCons (dC (.str "square")) dNil))))) (dgName 6) (dFor (dRng1 (dCons (dC (.int 3)) dNil)) (dgName 7) (dDrop (dAppend (dVar 5) (dCons (dTup (dCons (dVar 6) (dCons (dCall w_law_roll (dCons (dVar 0) (dCons (dOp gAdd (dVar 1) (dC (.int 1))) dNil))) dNil))) dNil))))) (dSeq (dSet (dC (.int 1)) 8) (dSeq (dFor (dIt (dSlice (dSnap (dLc (dIt (dCall w_divisors_of (dCons (dVar 1) dNil))) (dgName 12) (dB (dOp gLe (dOp gMul (dVar 12) (dVar 12)) (dVar 1))) (dVar 12) [12])) dNoPart (dPart (dC (.int 6))))) (dgName 9) (dSeq (dSet (dCb gInt1 (dCons (dOp gDiv (dVar 1) (dVar 9)) dNil)) 10) (dIfS (dB (dOp gEq (dCall w_law_divisor (dCons (dVar 9) (dCons (dVar 10) dNil))) (dC (.int 1)))) (dSeq (dSet (dIf (dAnd (dB (dOp gGt (dVar 1) (dC (.int 1)))) (dAnd (dB (dOp gLt (dVar 1) (dC (.int 20000)))) (dB (dOp gGt (dVar 9) (dC (.int 1)))))) (dOp gIx (dSnap (dLc (dRng3 (dCons (dC (.int 1)) (dCons (dVar 1) (dCons (dVar 9) dNil)))) (dgName 13) (dB (dOp gEq (dOp gMod (dCb gInt1 (dCons (dOp gAdd (dVar 13) (dC (.int 1))) dNil)) (dVar 10)) (dC (.int 0)))) (dVar 13) [13])) (dC (.int 0))) (dVar 8)) 8) (dDrop (dAppend (dVar 5) (dCons (dTup (dCons (dC (.str "square")) (dCons (dVar 8) dNil))) dNil)))) dNext))) (dSeq (dFor (dIt (dOp gAdd (dVar 5) (dSnap (dLst (dCons (dCall (w_law_bent 6) (dCons (dVar 0) (dCons (dVar 4) dNil))) (dCons (dCall (w_law_bent 6) (dCons (dVar 0) (dCons (dVar 4) dNil))) dNil)))))) (dgName 11) (dIfS (dNot (dB (dCall (w_law_like 6) (dCons (dCall w_is_paper_against (dCons (dVar 1) (dCons (dVar 11) dNil))) (dCons (dCall w_law_is_against (dCons (dVar 1) (dCons (dVar 11) dNil))) dNil))))) (dRet (dC (.bool false))) dNext)) (dRet (dC (.bool true))))))))))))
def w_law_right : DFn := fnW false 14 2 B_law_right
theorem i_law_right {x0 x1 : SV} {μ : Mu} {Q : KD} (h : B_law_right (fnEnds false μ.length Q) [some x0, some x1, none, none, none, none, none, none, none, none, none, none, none, none] μ) : w_law_right [x0, x1] μ Q := ⟨rfl, h⟩
theorem ok_law_right (h : HasFn K mg "_law_right" s_law_right) (d_paper_against : DefOk P w K mg base "paper_against" 5 ["number"] w_paper_against) (d_law_is_prime : DefOk P w K mg base "_law_is_prime" 1 ["number"] w_law_is_prime) (d_is_prime : DefOk P w K mg base "is_prime" 5 ["number"] w_is_prime) (d_law_is_against : DefOk P w K mg base "_law_is_against" 2 ["great", "value"] w_law_is_against) (d_law_roll : DefOk P w K mg base "_law_roll" 1 ["cup", "many"] w_law_roll) (d_divisors_of : DefOk P w K mg base "divisors_of" 5 ["number"] w_divisors_of) (d_law_divisor : DefOk P w K mg base "_law_divisor" 1 ["one", "other"] w_law_divisor) (d_law_bent : DefOk P w K mg base "_law_bent" 9 ["cup", "value"] (w_law_bent 6)) (d_law_like : DefOk P w K mg base "_law_like" 8 ["one", "other"] (w_law_like 6)) (d_is_paper_against : DefOk P w K mg base "is_paper_against" 5 ["great", "value"] w_is_paper_against) (b_list : mg "list" = none) (b_range : mg "range" = none) (b_int : mg "int" = none) : DefOk P w K mg base "_law_right" 10 ["cup", "number"] w_law_right :=
  ok_of (P := P) (w := w) (base := base) (keep := false) h sc_law_right (fun _ _ _ _ _ _ us hl => match us, hl with | [_, _], _ => rfl)
    (fun f cdv A outer s H E hr => ⟨_, dss_cons (ds_par 2 3 sc_law_right.nd (da_cons (dx_call d_paper_against (hr.mono (by decide)) (da_cons (dx_var 1) da_nil)) (da_cons (dx_call d_law_is_prime (hr.mono (by decide)) (da_cons (dx_var 1) da_nil)) da_nil))) (dss_cons (ds_if (DW.dt (dw_or (dt_cmp (do_ne hr.units) (dx_cmp do_is (dx_var 2) dx_non) (dx_or (dx_var 3) (dx_one (dx_cmp (do_eq hr.units) (dx_var 1) dx_int)))) (dw_or1 (dt_cmp (do_ne hr.units) (dx_call d_is_prime (hr.mono (by decide)) (da_cons (dx_var 1) da_nil)) (dx_var 3))))) (dss_one (ds_ret dx_bl)) dss_nil) (dss_cons (ds_if (DW.dt (dw_and (dt_cmp do_isnot (dx_var 2) dx_non) (dw_and1 (dt_not (dt_val (dx_call d_law_is_against (hr.mono (by decide)) (da_cons (dx_var 1) (da_cons (dx_var 2) da_nil)))))))) (dss_one (ds_ret dx_bl)) dss_nil) (dss_cons (ds_set 4 sc_law_right.nd (dx_if (dt_cmp do_isnot (dx_var 2) dx_non) (dx_var 2) (dx_tup (da_cons dx_str (da_cons (dx_var 1) da_nil))))) (dss_cons (ds_set 5 sc_law_right.nd (DNn.loc (dn_lst (da_cons (dx_var 4) (da_cons (dx_rev (dx_var 4)) (da_cons (DNn.snap (dn_list b_list (da_cons (dx_var 4) da_nil))) (da_cons (dx_slice (dx_var 4) dpo_none (dpo_some dx_int)) (da_cons (dx_bin do_add (dx_var 4) (dx_tup (da_cons dx_int da_nil))) (da_cons dx_non (da_cons (dx_tup da_nil) (da_cons dx_int (da_cons (dx_tup (da_cons dx_str (da_cons dx_int da_nil))) (da_cons (dx_tup (da_cons dx_str (da_cons (dx_var 1) da_nil))) (da_cons (dx_tup (da_cons dx_str (da_cons dx_bl da_nil))) da_nil)))))))))))))) (dss_cons (ds_set 5 sc_law_right.nd (DNn.loc (dn_cat (dx_var 5) (DNn.snap (dn_lst (da_cons (dx_tup (da_cons dx_str (da_cons (dx_ix (dx_var 4) dx_int) da_nil))) (da_cons (dx_tup (da_cons dx_int (da_cons dx_int da_nil))) (da_cons (dx_tup (da_cons dx_str (da_cons dx_int da_nil))) (da_cons (dx_tup (da_cons dx_str (da_cons (dx_bin do_sub (dx_var 1) dx_int) da_nil))) (da_cons (dx_tup (da_cons dx_str (da_cons (dx_bin do_sub (dx_var 1) dx_int) da_nil))) (da_cons (dx_tup (da_cons dx_str (da_cons dx_int da_nil))) da_nil))))))))))) (dss_cons (ds_for PassesOwn.never (di_any (dx_tup (da_cons dx_str (da_cons dx_str (da_cons dx_str da_nil))))) (dg_name 6 sc_law_right.nd) (dss_one (ds_for PassesOwn.never (di_rng1 b_range (da_cons dx_int da_nil)) (dg_name 7 sc_law_right.nd) (dss_one (ds_expr (dx_append (dx_var 5) (da_cons (dx_tup (da_cons (dx_var 6) (da_cons (dx_call d_law_roll (hr.mono (by decide)) (da_cons (dx_var 0) (da_cons (dx_bin do_add (dx_var 1) dx_int) da_nil))) da_nil))) da_nil))))))) (dss_cons (ds_set 8 sc_law_right.nd dx_int) (dss_cons (ds_for PassesOwn.never (di_any (dx_slice (DNn.snap (dn_lc [("part", 12)] sc_law_right.nd (di_any (dx_call d_divisors_of (hr.mono (by decide)) (da_cons (dx_var 1) da_nil))) (blkOk_by (own := [("part", 12)]) (N := N_law_right) (sc := defScope s_law_right) (by decide +kernel)) (fun _ _ _ _ _ => dg_name 12 sc_law_right.nd) (fun _ _ _ _ _ => dts_one (dt_cmp do_le (dx_bin do_mul (dx_var 12) (dx_var 12)) (dx_var 1))) (fun _ _ _ _ _ => dx_var 12))) dpo_none (dpo_some dx_int))) (dg_name 9 sc_law_right.nd) (dss_cons (ds_set 10 sc_law_right.nd (dx_cty dc_int1 b_int (da_cons (dx_bin do_div (dx_var 1) (dx_var 9)) da_nil))) (dss_one (ds_if (dt_cmp (do_eq hr.units) (dx_call d_law_divisor (hr.mono (by decide)) (da_cons (dx_var 9) (da_cons (dx_var 10) da_nil))) dx_int) (dss_cons (ds_set 8 sc_law_right.nd (dx_if (DW.dt (dw_and (dt_cmp do_gt (dx_var 1) dx_int) (dw_and (dt_cmp do_lt (dx_var 1) dx_int) (dw_and1 (dt_cmp do_gt (dx_var 9) dx_int))))) (dx_ix (DNn.snap (dn_lc [("one", 13)] sc_law_right.nd (di_rng3 b_range (da_cons dx_int (da_cons (dx_var 1) (da_cons (dx_var 9) da_nil)))) (blkOk_by (own := [("one", 13)]) (N := N_law_right) (sc := defScope s_law_right) (by decide +kernel)) (fun _ _ _ _ _ => dg_name 13 sc_law_right.nd) (fun _ _ _ _ _ => dts_one (dt_cmp (do_eq hr.units) (dx_bin do_mod (dx_cty dc_int1 b_int (da_cons (dx_bin do_add (dx_var 13) dx_int) da_nil)) (dx_var 10)) dx_int)) (fun _ _ _ _ _ => dx_var 13))) dx_int) (dx_var 8))) (dss_one (ds_expr (dx_append (dx_var 5) (da_cons (dx_tup (da_cons dx_str (da_cons (dx_var 8) da_nil))) da_nil))))) dss_nil)))) (dss_cons (ds_for PassesOwn.never (di_any (dx_bin do_add (dx_var 5) (DNn.snap (dn_lst (da_cons (dx_call d_law_bent (hr.mono (by decide)) (da_cons (dx_var 0) (da_cons (dx_var 4) da_nil))) (da_cons (dx_call d_law_bent (hr.mono (by decide)) (da_cons (dx_var 0) (da_cons (dx_var 4) da_nil))) da_nil)))))) (dg_name 11 sc_law_right.nd) (dss_one (ds_if (dt_not (dt_val (dx_call d_law_like (hr.mono (by decide)) (da_cons (dx_call d_is_paper_against (hr.mono (by decide)) (da_cons (dx_var 1) (da_cons (dx_var 11) da_nil))) (da_cons (dx_call d_law_is_against (hr.mono (by decide)) (da_cons (dx_var 1) (da_cons (dx_var 11) da_nil))) da_nil))))) (dss_one (ds_ret dx_bl)) dss_nil))) (dss_one (ds_ret dx_bl)))))))))))⟩)
/-! ### _law_counts_right -/
abbrev s_law_counts_right : Stmt := top 39
abbrev N_law_counts_right : List Str := ["number", "due", "word", "many", "prime", "power", "own"]
theorem sc_law_counts_right : FnScope N_law_counts_right ["number"] (defScope s_law_counts_right) := ⟨rfl, rfl, rfl, by decide +kernel, rfl, by decide +kernel, by decide +kernel⟩
abbrev B_law_counts_right : DS := dSeq (dSet (dLoc (dLst dNil)) 1) (dSeq (dFor (dIt (dTup (dCons (dC (.str "divisor")) (dCons (dC (.str "power")) (dCons (dC (.str "square")) dNil))))) (dgName 2) (dDrop (dAppend (dVar 1) (dCons (dCb gLen (dCons (dSnap (dLc (dRng1 (dCons (dOp gAdd (dVar 0) (dC (.int 1))) dNil)) (dgName 6) (dB (dCall w_law_is_against (dCons (dVar 0) (dCons (dTup (dCons (dVar 2) (dCons (dVar 6) dNil))) dNil)))) (dVar 6) [6])) dNil)) dNil)))) (dSeq (dIfS (dNot (dB (dCall (w_law_like 6) (dCons (dCall w_against_counts (dCons (dVar 0) dNil)) (dCons (dCb gTuple (dCons (dVar 1) dNil)) dNil))))) (dRet (dC (.bool false))) dNext) (dSeq (dSet (dC (.int 1)) 3) (dSeq (dFor (dIt (dCall w_law_factors (dCons (dVar 0) dNil))) (dgTup 2 (dgCons (dgName 4) (dgCons (dgName 5) dgNil))) (dSet (dOp gMul (dVar 3) (dIf (dB (dOp gGt (dVar 4) (dC (.int 2)))) (dC (.int 2)) (dOp gIx (dSnap (dLst (dCons (dC (.int 1)) (dCons (dC (.int 1)) (dCons (dC (.int 2)) (dCons (dC (.int 4)) dNil)))))) (dCb gMin2 (dCons (dVar 5) (dCons (dC (.int 3)) dNil)))))) 3)) (dRet (dOp gEq (dOp gIx (dVar 1) (dC (.int 2))) (dOp gMinus (dVar 3) (dIf (dB (dOp gGt (dVar 0) (dC (.int 2)))) (dC (.int 2)) (dC (.int 1))))))))))
def w_law_counts_right : DFn := fnW false 7 1 B_law_counts_right
theorem i_law_counts_right {x0 : SV} {μ : Mu} {Q : KD} (h : B_law_counts_right (fnEnds false μ.length Q) [some x0, none, none, none, none, none, none] μ) : w_law_counts_right [x0] μ Q := ⟨rfl, h⟩
theorem ok_law_counts_right (h : HasFn K mg "_law_counts_right" s_law_counts_right) (d_law_is_against : DefOk P w K mg base "_law_is_against" 2 ["great", "value"] w_law_is_against) (d_law_like : DefOk P w K mg base "_law_like" 8 ["one", "other"] (w_law_like 6)) (d_against_counts : DefOk P w K mg base "against_counts" 4 ["number"] w_against_counts) (d_law_factors : DefOk P w K mg base "_law_factors" 1 ["number"] w_law_factors) (b_range : mg "range" = none) (b_len : mg "len" = none) (b_tuple : mg "tuple" = none) (b_min : mg "min" = none) : DefOk P w K mg base "_law_counts_right" 9 ["number"] w_law_counts_right :=
  ok_of (P := P) (w := w) (base := base) (keep := false) h sc_law_counts_right (fun _ _ _ _ _ _ us hl => match us, hl with | [_], _ => rfl)
    (fun f cdv A outer s H E hr => ⟨_, dss_cons (ds_set 1 sc_law_counts_right.nd (DNn.loc (dn_lst da_nil))) (dss_cons (ds_for PassesOwn.never (di_any (dx_tup (da_cons dx_str (da_cons dx_str (da_cons dx_str da_nil))))) (dg_name 2 sc_law_counts_right.nd) (dss_one (ds_expr (dx_append (dx_var 1) (da_cons (dx_cb dc_len b_len (da_cons (DNn.snap (dn_lc [("own", 6)] sc_law_counts_right.nd (di_rng1 b_range (da_cons (dx_bin do_add (dx_var 0) dx_int) da_nil)) (blkOk_by (own := [("own", 6)]) (N := N_law_counts_right) (sc := defScope s_law_counts_right) (by decide +kernel)) (fun _ _ _ _ _ => dg_name 6 sc_law_counts_right.nd) (fun _ _ _ _ _ => dts_one (dt_val (dx_call d_law_is_against (hr.mono (by decide)) (da_cons (dx_var 0) (da_cons (dx_tup (da_cons (dx_var 2) (da_cons (dx_var 6) da_nil))) da_nil))))) (fun _ _ _ _ _ => dx_var 6))) da_nil)) da_nil))))) (dss_cons (ds_if (dt_not (dt_val (dx_call d_law_like (hr.mono (by decide)) (da_cons (dx_call d_against_counts (hr.mono (by decide)) (da_cons (dx_var 0) da_nil)) (da_cons (dx_cty dc_tuple b_tuple (da_cons (dx_var 1) da_nil)) da_nil))))) (dss_one (ds_ret dx_bl)) dss_nil) (dss_cons (ds_set 3 sc_law_counts_right.nd dx_int) (dss_cons (ds_for PassesOwn.never (di_any (dx_call d_law_factors (hr.mono (by decide)) (da_cons (dx_var 0) da_nil))) (dg_tup (dgs_cons (dg_name 4 sc_law_counts_right.nd) (dgs_cons (dg_name 5 sc_law_counts_right.nd) dgs_nil))) (dss_one (ds_set 3 sc_law_counts_right.nd (dx_bin do_mul (dx_var 3) (dx_if (dt_cmp do_gt (dx_var 4) dx_int) dx_int (dx_ix (DNn.snap (dn_lst (da_cons dx_int (da_cons dx_int (da_cons dx_int (da_cons dx_int da_nil)))))) (dx_cb dc_min2 b_min (da_cons (dx_var 5) (da_cons dx_int da_nil))))))))) (dss_one (ds_ret (dx_cmp (do_eq hr.units) (dx_ix (dx_var 1) dx_int) (dx_bin do_sub (dx_var 3) (dx_if (dt_cmp do_gt (dx_var 0) dx_int) dx_int dx_int)))))))))⟩)
/-! ### _law_written -/
abbrev s_law_written : Stmt := top 40
abbrev N_law_written : List Str := ["told", "own"]
theorem sc_law_written : FnScope N_law_written [] (defScope s_law_written) := ⟨rfl, rfl, rfl, by decide +kernel, rfl, by decide +kernel, by decide +kernel⟩
abbrev B_law_written : DS := dSeq (dSet (dSnap (dLst (dCons (dCall w_paper_against (dCons (dC (.int 7)) dNil)) (dCons (dCall w_paper_against (dCons (dC (.int 1)) dNil)) (dCons (dCall w_is_paper_against (dCons (dC (.int 4)) (dCons (dCall w_paper_against (dCons (dC (.int 4)) dNil)) dNil))) (dCons (dCall w_is_paper_against (dCons (dC (.int 15)) (dCons (dTup (dCons (dC (.str "divisor")) (dCons (dC (.int 5)) dNil))) dNil))) (dCons (dCall w_is_paper_against (dCons (dC (.int 15)) (dCons (dTup (dCons (dC (.str "power")) (dCons (dC (.int 2)) dNil))) dNil))) (dCons (dCall w_is_paper_against (dCons (dC (.int 15)) (dCons (dTup (dCons (dC (.str "square")) (dCons (dC (.int 4)) dNil))) dNil))) dNil)))))))) 0) (dSeq (dIfS (dNot (dB (dCall (w_law_like 6) (dCons (dVar 0) (dCons (dSnap (dLst (dCons (dC .none) (dCons (dC .none) (dCons (dC (.bool true)) (dCons (dC (.bool true)) (dCons (dC (.bool true)) (dCons (dC (.bool true)) dNil)))))))) dNil))))) (dRet (dC (.bool false))) dNext) (dSeq (dIfS (dB (dOp gNe (dSnap (dLc (dIt (dTup (dCons (dC (.int 1)) (dCons (dC (.int 14)) dNil)))) (dgName 1) (dB (dOp gIsNot (dCall w_is_paper_against (dCons (dC (.int 15)) (dCons (dTup (dCons (dC (.str "square")) (dCons (dVar 1) dNil))) dNil))) (dC (.bool false)))) (dVar 1) [1])) (dSnap (dLst dNil)))) (dRet (dC (.bool false))) dNext) (dSeq (dSet (dSnap (dLst (dCons (dCall w_is_paper_against (dCons (dC (.int 15)) (dCons (dTup (dCons (dC (.str "power")) (dCons (dC (.int 4)) dNil))) dNil))) (dCons (dCall w_against_counts (dCons (dC (.int 15)) dNil)) (dCons (dCall w_against_counts (dCons (dC (.int 9)) dNil)) (dCons (dCall w_against_counts (dCons (dC (.int 7)) dNil)) (dCons (dCall w_against_counts (dCons (dC (.int 2)) dNil)) (dCons (dCall w_against_counts (dCons (dC (.int 561)) dNil)) (dCons (dCall w_is_paper_against (dCons (dC (.int 561)) (dCons (dTup (dCons (dC (.str "power")) (dCons (dC (.int 2)) dNil))) dNil))) dNil))))))))) 0) (dRet (dCall (w_law_like 6) (dCons (dVar 0) (dCons (dSnap (dLst (dCons (dC (.bool false)) (dCons (dTup (dCons (dC (.int 2)) (dCons (dC (.int 10)) (dCons (dC (.int 2)) dNil)))) (dCons (dTup (dCons (dC (.int 1)) (dCons (dC (.int 6)) (dCons (dC (.int 0)) dNil)))) (dCons (dTup (dCons (dC (.int 0)) (dCons (dC (.int 0)) (dCons (dC (.int 0)) dNil)))) (dCons (dTup (dCons (dC (.int 0)) (dCons (dC (.int 0)) (dCons (dC (.int 0)) dNil)))) (dCons (dTup (dCons (dC (.int 6)) (dCons (dC (.int 240)) (dCons (dC (.int 6)) dNil)))) (dCons (dC (.bool false)) dNil))))))))) dNil)))))))
def w_law_written : DFn := fnW false 2 0 B_law_written
theorem i_law_written {μ : Mu} {Q : KD} (h : B_law_written (fnEnds false μ.length Q) [none, none] μ) : w_law_written [] μ Q := ⟨rfl, h⟩
theorem ok_law_written (h : HasFn K mg "_law_written" s_law_written) (d_paper_against : DefOk P w K mg base "paper_against" 5 ["number"] w_paper_against) (d_is_paper_against : DefOk P w K mg base "is_paper_against" 5 ["great", "value"] w_is_paper_against) (d_law_like : DefOk P w K mg base "_law_like" 8 ["one", "other"] (w_law_like 6)) (d_against_counts : DefOk P w K mg base "against_counts" 4 ["number"] w_against_counts) : DefOk P w K mg base "_law_written" 9 [] w_law_written :=
  ok_of (P := P) (w := w) (base := base) (keep := false) h sc_law_written (fun _ _ _ _ _ _ us hl => match us, hl with | [], _ => rfl)
    (fun f cdv A outer s H E hr => ⟨_, dss_cons (ds_set 0 sc_law_written.nd (DNn.snap (dn_lst (da_cons (dx_call d_paper_against (hr.mono (by decide)) (da_cons dx_int da_nil)) (da_cons (dx_call d_paper_against (hr.mono (by decide)) (da_cons dx_int da_nil)) (da_cons (dx_call d_is_paper_against (hr.mono (by decide)) (da_cons dx_int (da_cons (dx_call d_paper_against (hr.mono (by decide)) (da_cons dx_int da_nil)) da_nil))) (da_cons (dx_call d_is_paper_against (hr.mono (by decide)) (da_cons dx_int (da_cons (dx_tup (da_cons dx_str (da_cons dx_int da_nil))) da_nil))) (da_cons (dx_call d_is_paper_against (hr.mono (by decide)) (da_cons dx_int (da_cons (dx_tup (da_cons dx_str (da_cons dx_int da_nil))) da_nil))) (da_cons (dx_call d_is_paper_against (hr.mono (by decide)) (da_cons dx_int (da_cons (dx_tup (da_cons dx_str (da_cons dx_int da_nil))) da_nil))) da_nil))))))))) (dss_cons (ds_if (dt_not (dt_val (dx_call d_law_like (hr.mono (by decide)) (da_cons (dx_var 0) (da_cons (DNn.snap (dn_lst (da_cons dx_non (da_cons dx_non (da_cons dx_bl (da_cons dx_bl (da_cons dx_bl (da_cons dx_bl da_nil)))))))) da_nil))))) (dss_one (ds_ret dx_bl)) dss_nil) (dss_cons (ds_if (dt_cmp (do_ne hr.units) (DNn.snap (dn_lc [("own", 1)] sc_law_written.nd (di_any (dx_tup (da_cons dx_int (da_cons dx_int da_nil)))) (blkOk_by (own := [("own", 1)]) (N := N_law_written) (sc := defScope s_law_written) (by decide +kernel)) (fun _ _ _ _ _ => dg_name 1 sc_law_written.nd) (fun _ _ _ _ _ => dts_one (dt_cmp do_isnot (dx_call d_is_paper_against (hr.mono (by decide)) (da_cons dx_int (da_cons (dx_tup (da_cons dx_str (da_cons (dx_var 1) da_nil))) da_nil))) dx_bl)) (fun _ _ _ _ _ => dx_var 1))) (DNn.snap (dn_lst da_nil))) (dss_one (ds_ret dx_bl)) dss_nil) (dss_cons (ds_set 0 sc_law_written.nd (DNn.snap (dn_lst (da_cons (dx_call d_is_paper_against (hr.mono (by decide)) (da_cons dx_int (da_cons (dx_tup (da_cons dx_str (da_cons dx_int da_nil))) da_nil))) (da_cons (dx_call d_against_counts (hr.mono (by decide)) (da_cons dx_int da_nil)) (da_cons (dx_call d_against_counts (hr.mono (by decide)) (da_cons dx_int da_nil)) (da_cons (dx_call d_against_counts (hr.mono (by decide)) (da_cons dx_int da_nil)) (da_cons (dx_call d_against_counts (hr.mono (by decide)) (da_cons dx_int da_nil)) (da_cons (dx_call d_against_counts (hr.mono (by decide)) (da_cons dx_int da_nil)) (da_cons (dx_call d_is_paper_against (hr.mono (by decide)) (da_cons dx_int (da_cons (dx_tup (da_cons dx_str (da_cons dx_int da_nil))) da_nil))) da_nil)))))))))) (dss_one (ds_ret (dx_call d_law_like (hr.mono (by decide)) (da_cons (dx_var 0) (da_cons (DNn.snap (dn_lst (da_cons dx_bl (da_cons (dx_tup (da_cons dx_int (da_cons dx_int (da_cons dx_int da_nil)))) (da_cons (dx_tup (da_cons dx_int (da_cons dx_int (da_cons dx_int da_nil)))) (da_cons (dx_tup (da_cons dx_int (da_cons dx_int (da_cons dx_int da_nil)))) (da_cons (dx_tup (da_cons dx_int (da_cons dx_int (da_cons dx_int da_nil)))) (da_cons (dx_tup (da_cons dx_int (da_cons dx_int (da_cons dx_int da_nil)))) (da_cons dx_bl da_nil))))))))) da_nil))))))))⟩)
/-! ### law -/
abbrev s_law : Stmt := top 41
abbrev N_law : List Str := ["script", "cup", "most", "number"]
theorem sc_law : FnScope N_law ["script"] (defScope s_law) := ⟨rfl, rfl, rfl, by decide +kernel, rfl, by decide +kernel, by decide +kernel⟩
abbrev B_law : DS := dSeq (dIfS (dNot (dB (dCall w_law_written dNil))) (dRet (dC (.bool false))) dNext) (dSeq (dSet (dCall w_law_cup (dCons (dVar 0) dNil)) 1) (dSeq (dFor (dIt (dTup (dCons (dC (.int 12)) (dCons (dC (.int 300)) (dCons (dOp gPow (dC (.int 10)) (dC (.int 4))) (dCons (dOp gPow (dC (.int 10)) (dC (.int 6))) dNil)))))) (dgName 2) (dIfS (dNot (dB (dCall w_law_right (dCons (dVar 1) (dCons (dCall w_law_number (dCons (dVar 1) (dCons (dVar 2) dNil))) dNil))))) (dRet (dC (.bool false))) dNext)) (dSeq (dIfS (dOr (dNot (dB (dCall w_law_counts_right (dCons (dCb gMax2 (dCons (dC (.int 2)) (dCons (dCall w_law_number (dCons (dVar 1) (dCons (dC (.int 400)) dNil))) dNil))) dNil)))) (dNot (dB (dCall w_law_counts_right (dCons (dOp gAdd (dC (.int 2)) (dCall w_law_roll (dCons (dVar 1) (dCons (dC (.int 30)) dNil)))) dNil))))) (dRet (dC (.bool false))) dNext) (dSeq (dSet (dOp gAdd (dC (.int 3)) (dOp gMul (dC (.int 2)) (dCall w_law_roll (dCons (dVar 1) (dCons (dC (.int 2000)) dNil))))) 3) (dRet (dAndV (dCall w_law_right (dCons (dVar 1) (dCons (dVar 3) dNil))) (dCall w_law_right (dCons (dVar 1) (dCons (dOp gMul (dVar 3) (dC (.int 3))) dNil)))))))))
def w_law : DFn := fnW false 4 1 B_law
theorem i_law {x0 : SV} {μ : Mu} {Q : KD} (h : B_law (fnEnds false μ.length Q) [some x0, none, none, none] μ) : w_law [x0] μ Q := ⟨rfl, h⟩
/-! ### all together -/
theorem main_ok (h_is_integer : HasFn K mg "is_integer" s_is_integer) (h_is_whole : HasFn K mg "is_whole" s_is_whole) (h_need_whole : HasFn K mg "need_whole" s_need_whole) (h_is_tuple_of : HasFn K mg "is_tuple_of" s_is_tuple_of) (h_need_number : HasFn K mg "need_number" s_need_number) (h_need_great : HasFn K mg "need_great" s_need_great) (h_least_factor : HasFn K mg "least_factor" s_least_factor) (h_is_prime_in : HasFn K mg "is_prime_in" s_is_prime_in) (h_factors_in : HasFn K mg "factors_in" s_factors_in) (h_divisors_in : HasFn K mg "divisors_in" s_divisors_in) (h_power_in : HasFn K mg "power_in" s_power_in) (h_is_prime : HasFn K mg "is_prime" s_is_prime) (h_divisors_of : HasFn K mg "divisors_of" s_divisors_of) (h_is_against : HasFn K mg "is_against" s_is_against) (h_paper_against : HasFn K mg "paper_against" s_paper_against) (h_is_paper_against : HasFn K mg "is_paper_against" s_is_paper_against) (h_against_counts : HasFn K mg "against_counts" s_against_counts) (h_law_cup : HasFn K mg "_law_cup" s_law_cup) (h_law_roll : HasFn K mg "_law_roll" s_law_roll) (h_law_some : HasFn K mg "_law_some" s_law_some) (h_law_sort : HasFn K mg "_law_sort" s_law_sort) (h_law_like : HasFn K mg "_law_like" s_law_like) (h_law_divisor : HasFn K mg "_law_divisor" s_law_divisor) (h_law_is_prime : HasFn K mg "_law_is_prime" s_law_is_prime) (h_law_factors : HasFn K mg "_law_factors" s_law_factors) (h_law_power : HasFn K mg "_law_power" s_law_power) (h_law_number : HasFn K mg "_law_number" s_law_number) (h_law_bent : HasFn K mg "_law_bent" s_law_bent) (h_law_is_against : HasFn K mg "_law_is_against" s_law_is_against) (h_law_right : HasFn K mg "_law_right" s_law_right) (h_law_counts_right : HasFn K mg "_law_counts_right" s_law_counts_right) (h_law_written : HasFn K mg "_law_written" s_law_written) (h_law : HasFn K mg "law" s_law) (b_abs : mg "abs" = none) (b_bool : mg "bool" = none) (b_int : mg "int" = none) (b_isinstance : mg "isinstance" = none) (b_len : mg "len" = none) (b_list : mg "list" = none) (b_max : mg "max" = none) (b_min : mg "min" = none) (b_range : mg "range" = none) (b_sorted : mg "sorted" = none) (b_str : mg "str" = none) (b_tuple : mg "tuple" = none) (b_zip : mg "zip" = none) (g_FEW : IsGInt mg "FEW" 10000) (g_GREAT : IsGInt mg "GREAT" 10000000000000000000000000000000000000000) (g_MOST : IsGInt mg "MOST" 10000000000) (hw : ∀ ns : List Int, ns.length ≤ 63 → w_law [.scr ns] [] fun x _ => x = .d (.bool true)) : ∀ fa, mg "law" = some (.ref fa) → ∃ fd, (∀ (s : Shared) (u : Value), BindsTo s fd ⟨[u], []⟩ [("script", u)]) ∧ ∀ base : Heap, K.In base → base.Ns mainGlobals mg → FnOk P w K mg base CX0 11 fa fd ["script"] (spLaw K) := by
  refine law_of h_law sc_law (fun _ _ _ _ _ _ us hl => match us, hl with | [_], _ => rfl) (fun base _ _ f cdv A outer s H E hr => ?_) hw
  have d_is_integer := ok_is_integer (P := P) (w := w) (base := base) h_is_integer b_isinstance b_int b_bool
  have d_is_whole := ok_is_whole (P := P) (w := w) (base := base) h_is_whole d_is_integer
  have d_need_whole := ok_need_whole (P := P) (w := w) (base := base) h_need_whole d_is_whole
  have d_is_tuple_of := ok_is_tuple_of (P := P) (w := w) (base := base) h_is_tuple_of b_isinstance b_tuple b_len
  have d_need_number := ok_need_number (P := P) (w := w) (base := base) h_need_number d_need_whole g_MOST
  have d_need_great := ok_need_great (P := P) (w := w) (base := base) h_need_great d_need_whole g_GREAT
  have d_least_factor := ok_least_factor (P := P) (w := w) (base := base) h_least_factor
  have d_is_prime_in := ok_is_prime_in (P := P) (w := w) (base := base) h_is_prime_in d_least_factor
  have d_factors_in := ok_factors_in (P := P) (w := w) (base := base) h_factors_in b_tuple
  have d_divisors_in := ok_divisors_in (P := P) (w := w) (base := base) h_divisors_in b_range b_sorted
  have d_power_in := ok_power_in (P := P) (w := w) (base := base) h_power_in
  have d_is_prime := ok_is_prime (P := P) (w := w) (base := base) h_is_prime d_need_number d_is_prime_in
  have d_divisors_of := ok_divisors_of (P := P) (w := w) (base := base) h_divisors_of d_need_number d_divisors_in d_factors_in b_tuple
  have d_is_against := ok_is_against (P := P) (w := w) (base := base) h_is_against d_is_tuple_of d_is_whole d_power_in b_isinstance b_str
  have d_paper_against := ok_paper_against (P := P) (w := w) (base := base) h_paper_against d_need_number d_is_prime_in d_least_factor
  have d_is_paper_against := ok_is_paper_against (P := P) (w := w) (base := base) h_is_paper_against d_need_great d_is_against
  have d_against_counts := ok_against_counts (P := P) (w := w) (base := base) h_against_counts d_need_whole d_divisors_in d_factors_in d_power_in b_len b_range g_FEW
  have d_law_cup := ok_law_cup (P := P) (w := w) (base := base) h_law_cup b_list b_abs b_int
  have d_law_roll := ok_law_roll (P := P) (w := w) (base := base) h_law_roll b_int
  have d_law_some := ok_law_some (P := P) (w := w) (base := base) h_law_some d_law_roll b_len
  have d_law_sort := ok_law_sort (P := P) (w := w) (base := base) h_law_sort b_isinstance b_bool b_int b_str b_tuple b_list
  have d_law_like := ok_law_like (P := P) (w := w) (base := base) h_law_like d_law_sort b_len b_zip 6
  have d_law_divisor := ok_law_divisor (P := P) (w := w) (base := base) h_law_divisor b_abs b_int
  have d_law_is_prime := ok_law_is_prime (P := P) (w := w) (base := base) h_law_is_prime b_int
  have d_law_factors := ok_law_factors (P := P) (w := w) (base := base) h_law_factors b_int b_tuple
  have d_law_power := ok_law_power (P := P) (w := w) (base := base) h_law_power b_int
  have d_law_number := ok_law_number (P := P) (w := w) (base := base) h_law_number d_law_roll d_law_some b_range
  have d_law_bent := ok_law_bent (P := P) (w := w) (base := base) h_law_bent d_law_roll d_law_sort d_law_some b_isinstance b_tuple b_len b_list 6
  have d_law_is_against := ok_law_is_against (P := P) (w := w) (base := base) h_law_is_against d_law_sort d_law_power b_isinstance b_tuple b_len b_int
  have d_law_right := ok_law_right (P := P) (w := w) (base := base) h_law_right d_paper_against d_law_is_prime d_is_prime d_law_is_against d_law_roll d_divisors_of d_law_divisor d_law_bent d_law_like d_is_paper_against b_list b_range b_int
  have d_law_counts_right := ok_law_counts_right (P := P) (w := w) (base := base) h_law_counts_right d_law_is_against d_law_like d_against_counts d_law_factors b_range b_len b_tuple b_min
  have d_law_written := ok_law_written (P := P) (w := w) (base := base) h_law_written d_paper_against d_is_paper_against d_law_like d_against_counts
  exact ⟨_, dss_cons (ds_if (dt_not (dt_val (dx_call0 d_law_written (hr.mono (by decide))))) (dss_one (ds_ret dx_bl)) dss_nil) (dss_cons (ds_set 1 sc_law.nd (dx_call d_law_cup (hr.mono (by decide)) (da_cons (dx_var 0) da_nil))) (dss_cons (ds_for PassesOwn.never (di_any (dx_tup (da_cons dx_int (da_cons dx_int (da_cons (dx_bin do_pow dx_int dx_int) (da_cons (dx_bin do_pow dx_int dx_int) da_nil)))))) (dg_name 2 sc_law.nd) (dss_one (ds_if (dt_not (dt_val (dx_call d_law_right (hr.mono (by decide)) (da_cons (dx_var 1) (da_cons (dx_call d_law_number (hr.mono (by decide)) (da_cons (dx_var 1) (da_cons (dx_var 2) da_nil))) da_nil))))) (dss_one (ds_ret dx_bl)) dss_nil))) (dss_cons (ds_if (DW.dt (dw_or (dt_not (dt_val (dx_call d_law_counts_right (hr.mono (by decide)) (da_cons (dx_cb dc_max2 b_max (da_cons dx_int (da_cons (dx_call d_law_number (hr.mono (by decide)) (da_cons (dx_var 1) (da_cons dx_int da_nil))) da_nil))) da_nil)))) (dw_or1 (dt_not (dt_val (dx_call d_law_counts_right (hr.mono (by decide)) (da_cons (dx_bin do_add dx_int (dx_call d_law_roll (hr.mono (by decide)) (da_cons (dx_var 1) (da_cons dx_int da_nil)))) da_nil))))))) (dss_one (ds_ret dx_bl)) dss_nil) (dss_cons (ds_set 3 sc_law.nd (dx_bin do_add dx_int (dx_bin do_mul dx_int (dx_call d_law_roll (hr.mono (by decide)) (da_cons (dx_var 1) (da_cons dx_int da_nil)))))) (dss_one (ds_ret (dx_and (dx_call d_law_right (hr.mono (by decide)) (da_cons (dx_var 1) (da_cons (dx_var 3) da_nil))) (dx_one (dx_call d_law_right (hr.mono (by decide)) (da_cons (dx_var 1) (da_cons (dx_bin do_mul (dx_var 3) dx_int) da_nil)))))))))))⟩
end
end P05
namespace P05
open PySem DL
open L2 (atI)
local macro_rules | `(tactic| dsimp! [$as,*]) => `(tactic| simp -implicitDefEqProofs only [g_inTT, g_niTT, k_itC2, v_at2, k_lenF, r_freeF, k_varF2, g_eqCL, k_eqC, g_inNC, k_inC, q_sumC, k_sumC, q_dnew, q_dget, k_dg1, k_dg2, k_dget, q_din, k_di1, k_di2, k_dinF, k_dinT, s_dput, k_dp1, k_dp2, k_dp3, k_dput, q_dget2, k_go1, k_go2, k_go3, k_dgetO, k_goS, k_goN, ky_int, ky_str, d_at, d_at1, ex_some, k_lenD, g_inTL, g_inIL, g_niIL, e_varFL, k_varF, g_strI, q_op, k_op1, k_op2, q_B, k_B, q_chain, k_ch1, k_ch2, k_ch3t, k_ch3f, k_ch3_skip, k_ch3_le, k_ch3_lt, k_ch3_vle, k_ch3_vlt, q_and, k_andt, k_andf, q_or, k_ort, k_orf, q_not, k_not, q_andV, k_andVt, k_andVf, q_orV, k_orVt, k_orVf, q_notV, k_notV, q_ifE, k_ifEt, k_ifEf, e_nil, q_cons, k_cons, k_cons2, q_tup, k_tup, k_tup1, q_lst, k_lst, k_lst1, q_snap, k_snap, q_loc, k_loc, q_cb, k_cb, q_call, k_call, q_un, k_un, q_rev, k_rev, k_rev1t, k_rev1f, q_slice, k_sl, k_sl1, k_sl2, k_sl3t, k_sl3f, q_noPart, q_part, k_part, q_isi, k_isi, k_isi1, q_cat, k_cat1, k_cat2, k_cat3, q_rep, k_rep1, k_rep2, k_rep3, q_list, k_lsS, k_lsT, k_lsL, k_lsC, k_ls1, q_lc, k_lc, k_co1, k_co2t, k_co2f, q_yes, q_wipe0, q_wipe1, q_it, k_itL, k_itT, k_itC, k_itC1, q_r1, k_r1, q_r2, k_r2, q_r3, k_r3, q_zip, k_zipL, k_zipT, q_enum, k_enum, q_app, k_app, k_app0, k_app1, k_app2, q_pop, k_pop, k_pop1, k_pop2, s_seq, s_next, s_break, s_cont, s_set, k_set, s_ret, s_retN, s_drop, k_drop, s_if, k_ift, k_iff, s_par, k_par, s_par3, k_par3, s_asg, k_asg, k_to, s_store, k_st1, k_st2, k_st3, k_stB, k_stC, s_for, k_for, t_name, t_tup, t_nil, t_cons', k_cons1, f_rt, f_nx, r_d, r_keep, r_free, v_at, v_at1, v_tup, v_lst, l_at, l_at1, q_ixT, q_ixL, q_ixC, k_ix, k_ix1, q_lenC, k_lenL, q_tupC, k_tplF, q_all, k_all, q_any, k_any, q_sum, k_sum, o_map, m_off, m_off0, m_set, m_set0, m_take, m_takeS, m_all, not_dec, and_dec,
  e_var0, e_varS, e_varF0, e_varFS, e_C, e_allD0, e_allD1, g_addI, g_addS, g_addT, g_addL, g_sub, g_mul, g_mulT, g_mulL, g_div, g_mod, g_pow, g_shl, g_shr, g_lt, g_le, g_gt, g_ge, g_eqI, g_eqS, g_eqB, g_eqL, g_eqT, g_eqN, g_neI, g_neS, g_neB, g_neL, g_neT, g_isN, g_isB, g_isnotN, g_isnotB, n_non, n_int, n_bool, n_str, n_tup, n_lst, g_abs, g_min2, g_max2, g_int, g_intB, g_lenT, g_lenL, g_lenS, g_tupL, g_tupT, y_non, y_bool, y_int, y_str, y_lst, y_tup, sbt_int_NoneType, sbt_int_bool, sbt_int_int, sbt_int_str, sbt_int_list, sbt_int_tuple, sbt_int_dict, sbt_bool_NoneType, sbt_bool_bool, sbt_bool_int, sbt_bool_str, sbt_bool_list, sbt_bool_tuple, sbt_bool_dict, sbt_str_NoneType, sbt_str_bool, sbt_str_int, sbt_str_str, sbt_str_list, sbt_str_tuple, sbt_str_dict, sbt_tuple_NoneType, sbt_tuple_bool, sbt_tuple_int, sbt_tuple_str, sbt_tuple_list, sbt_tuple_tuple, sbt_tuple_dict, sbt_list_NoneType, sbt_list_bool, sbt_list_int, sbt_list_str, sbt_list_list, sbt_list_tuple, sbt_list_dict, sbt_dict_NoneType, sbt_dict_bool, sbt_dict_int, sbt_dict_str, sbt_dict_list, sbt_dict_tuple, sbt_dict_dict, sz_line, eqv_int, shaped_non, shaped_int, shaped_bool, shaped_nil, shaped_nilT, eqv_nil, eqv_non, flat_int, g_inII, g_niII, or_dec, List.all_cons, List.all_nil, List.any_cons, List.any_nil, Bool.true_and, Bool.or_false, Bool.false_or, Bool.or_true, Bool.true_or, Bool.false_and, Bool.and_true, cpow_eq, mulOk_l, mulOk_r, divOk_l, Nat.reducePow, Nat.reduceLT, Nat.reduceLeDiff, Nat.reduceMul, eq_self, atI_zero, atI_one, atI_two, ixN_0, ixN_1, take_set, decide_true, decide_false, Bool.not_true, Bool.not_false, true_and, and_true, if_true, if_false, List.length_cons, List.length_nil, List.length_append, List.set_cons_zero, List.set_cons_succ, List.getElem?_cons_zero, List.getElem?_cons_succ, List.cons_append, List.nil_append, List.append_assoc, List.map_cons, List.map_nil, Nat.reduceAdd, Nat.reduceSub, Nat.zero_add, Nat.reduceEqDiff, Int.reduceEq, Int.reduceNe, Int.reduceLT, Int.reduceLE, Int.reduceGT, Int.reduceGE, Int.reduceAdd, Int.reduceSub, Int.reduceMul, Int.reducePow, Int.reduceToNat, Int.reduceNeg, not_true_eq_false, not_false_eq_true, $as,*])
local macro_rules | `(tactic| walk_at "c") => `(tactic| first | refine c_if (fun h => ?_) fun h => ?_ | refine c_and (fun h => ?_) fun h => ?_ | refine c_or (fun h => ?_) fun h => ?_ | refine c_ifE (fun h => ?_) fun h => ?_ | refine c_andV (fun h => ?_) fun h => ?_ | refine c_orV (fun h => ?_) fun h => ?_ | refine c_ch (fun h => ?_) fun h => ?_ | refine c_co (fun h => ?_) fun h => ?_)
local macro_rules | `(tactic| walk_at "ok") => `(tactic| first | exact mulOk_left (by omega) | exact mulOk_right (by omega) | exact mulOk_of (by omega) (by omega) | exact divOk_of (by omega) (by omega) | decide | omega | (unfold RngOk; omega) | (refine ⟨?_, ?_⟩ <;> (unfold RngOk; omega)))
def facD (fs : List (Nat × Nat)) : List PyData := fs.map fun a => PyData.tuple [.int (a.1 : Nat), .int (a.2 : Nat)]
theorem facD_app {fs : List (Nat × Nat)} {p k : Nat} : facD fs ++ [.tuple [.int (p : Int), .int (k : Int)]] = facD (fs ++ [(p, k)]) := by simp [facD]
theorem prodF_pos {fs : List (Nat × Nat)} (h : PM.FacOk fs) : 2 ^ fs.length ≤ PM.prodF fs := by
  have key : ∀ fs : List (Nat × Nat), (∀ a ∈ fs, PM.Prm a.1 ∧ 1 ≤ a.2) → 2 ^ fs.length ≤ PM.prodF fs := by
    intro fs
    induction fs with
    | nil => exact fun _ => Nat.le_refl _
    | cons a r ih =>
      intro h
      obtain ⟨p, k⟩ := a
      have hp := h (p, k) List.mem_cons_self
      have h1 := ih fun b hb => h b (List.mem_cons_of_mem _ hb)
      have h2 : 2 ≤ p ^ k := by
        have a1 : p ^ 1 ≤ p ^ k := Nat.pow_le_pow_right (by have := hp.1.1; omega) hp.2
        have a2 := hp.1.1
        rw [Nat.pow_one] at a1
        show 2 ≤ p ^ k
        have : 2 ≤ p := a2
        omega
      show 2 ^ (r.length + 1) ≤ p ^ k * PM.prodF r
      rw [Nat.pow_succ, Nat.mul_comm]
      exact Nat.mul_le_mul h2 h1
  exact key fs h.pr
theorem fac_short {fs : List (Nat × Nat)} {n : Nat} (h : PM.FacOk fs) (h2 : PM.prodF fs ≤ n) (hn : n ≤ 10 ^ 60) : fs.length < 200 := by
  have h1 := prodF_pos h
  rcases Nat.lt_or_ge fs.length 200 with g | g
  · exact g
  · have h3 := Nat.pow_le_pow_right (show 0 < 2 by decide) g
    have h4 : 10 ^ 60 < 2 ^ 200 := by decide +kernel
    omega
theorem sp_is_integer {v : Int} {μ : Mu} {Q : KD} (h : Q (.d (.bool true)) μ) : w_is_integer [.d (.int v)] μ Q := by
  refine i_is_integer ?_
  dsimp! [B_is_integer]
  exact h
theorem sp_is_whole {v lo hi : Int} {μ : Mu} {Q : KD} (h : Q (.d (.bool (decide (lo ≤ v ∧ v ≤ hi)))) μ) : w_is_whole [.d (.int v), .d (.int lo), .d (.int hi)] μ Q := by
  refine i_is_whole ?_
  dsimp! [B_is_whole]
  refine sp_is_integer ?_
  dsimp! []
  exact h
def wholeB (x : PyData) (lo hi : Int) : Bool := match x with
  | .int v => decide (lo ≤ v ∧ v ≤ hi)
  | _ => false
theorem sp_is_whole_any {x : PyData} {lo hi : Int} {μ : Mu} {Q : KD} (hx : ∀ kvs, x ≠ .dict kvs) (h : Q (.d (.bool (wholeB x lo hi))) μ) : w_is_whole [.d x, .d (.int lo), .d (.int hi)] μ Q := by
  cases x with
  | dict kvs => exact absurd rfl (hx kvs)
  | int v => exact sp_is_whole h
  | _ =>
    refine i_is_whole ?_
    dsimp! [B_is_whole]
    refine i_is_integer ?_
    dsimp! [B_is_integer]
    exact h
theorem sp_need_whole {v lo hi : Int} {μ : Mu} {Q : KD} (h1 : lo ≤ v) (h2 : v ≤ hi) (h : Q (.d .none) μ) : w_need_whole [.d (.int v), .d (.int lo), .d (.int hi)] μ Q := by
  refine i_need_whole ?_
  dsimp! [B_need_whole]
  refine sp_is_whole ?_
  dsimp! [h1, h2]
  exact h
theorem sp_is_tuple_of {xs : List PyData} {lo hi : Int} {μ : Mu} {Q : KD} (h : Q (.d (.bool (decide (lo ≤ xs.length ∧ xs.length ≤ hi)))) μ) : w_is_tuple_of [.d (.tuple xs), .d (.int lo), .d (.int hi)] μ Q := by
  refine i_is_tuple_of ?_
  dsimp! [B_is_tuple_of]
  exact h
/-- no dict within, two deep -/
def Plain (x : PyData) : Prop := (∀ kvs, x ≠ .dict kvs) ∧ ∀ xs, x = .tuple xs → ∀ y ∈ xs, ∀ kvs, y ≠ .dict kvs
def tupB (x : PyData) (lo hi : Int) : Bool := match x with
  | .tuple xs => decide (lo ≤ xs.length ∧ xs.length ≤ hi)
  | _ => false
theorem sp_is_tuple_any {x : PyData} {lo hi : Int} {μ : Mu} {Q : KD} (hx : ∀ kvs, x ≠ .dict kvs) (h : Q (.d (.bool (tupB x lo hi))) μ) : w_is_tuple_of [.d x, .d (.int lo), .d (.int hi)] μ Q := by
  cases x with
  | dict kvs => exact absurd rfl (hx kvs)
  | tuple xs => exact sp_is_tuple_of h
  | _ =>
    refine i_is_tuple_of ?_
    dsimp! [B_is_tuple_of]
    exact h
theorem sp_need_number {v : Int} {μ : Mu} {Q : KD} (h1 : 1 ≤ v) (h2 : v ≤ 10 ^ 10) (h : Q (.d .none) μ) : w_need_number [.d (.int v)] μ Q := by
  refine i_need_number ?_
  dsimp! [B_need_number]
  refine sp_need_whole (by omega) (by omega) ?_
  dsimp! []
  exact h
theorem sp_need_great {v : Int} {μ : Mu} {Q : KD} (h1 : 1 ≤ v) (h2 : v ≤ 10 ^ 40) (h : Q (.d .none) μ) : w_need_great [.d (.int v)] μ Q := by
  refine i_need_great ?_
  dsimp! [B_need_great]
  refine sp_need_whole (by omega) (by omega) ?_
  dsimp! []
  exact h
theorem sp_least_factor {n : Nat} {μ : Mu} {Q : KD} (hn : n ≤ 10 ^ 60) (h : ∀ d : Nat, (2 ≤ n → 2 ≤ d ∧ d ∣ n ∧ PM.Rough n d) → (n = 1 → d = 1) → Q (.d (.int d)) μ) (h1 : 1 ≤ n) : w_least_factor [.d (.int n)] μ Q := by
  refine i_least_factor ?_
  dsimp! [B_least_factor, l_cons, l_nil]
  rw [show (n : Int) % 2 = ((n % 2 : Nat) : Int) from rfl]
  refine c_if (fun g => ?_) fun g => ?_
  · dsimp! []
    have hd : 2 ∣ n := Nat.dvd_of_mod_eq_zero (by omega)
    exact h 2 (fun _ => ⟨Nat.le_refl 2, hd, fun d d1 d2 => by omega⟩) fun e => by subst e; omega
  dsimp! [l_cons, l_nil]
  rw [show (n : Int) % 3 = ((n % 3 : Nat) : Int) from rfl]
  have hn2 : ¬2 ∣ n := fun z => g (by have := Nat.mod_eq_zero_of_dvd z; omega)
  have r3 : PM.Rough n 3 := PM.rough_next (fun d d1 d2 => by omega) hn2
  refine c_if (fun g3 => ?_) fun g3 => ?_
  · dsimp! []
    have hd : 3 ∣ n := Nat.dvd_of_mod_eq_zero (by omega)
    exact h 3 (fun _ => ⟨by omega, hd, r3⟩) fun e => by subst e; omega
  have hn3 : ¬3 ∣ n := fun z => g3 (by have := Nat.mod_eq_zero_of_dvd z; omega)
  have r4 : PM.Rough n 4 := PM.rough_next r3 hn3
  have r5 : PM.Rough n 5 := PM.rough_next r4 fun z => hn2 (Nat.dvd_trans ⟨2, rfl⟩ z)
  dsimp! [l_cons, l_nil]
  refine b_while (I := fun m σ ν => ν = μ ∧ ∃ (p : Nat) (o : Option SV), 5 ≤ p ∧ p % 6 = 5 ∧ PM.Rough n p ∧ p ≤ n + 6 ∧ m = n + 7 - p ∧ σ = [some (.d (.int n)), o, some (.d (.int p))]) (n + 7 - 5) ⟨rfl, 5, _, Nat.le_refl 5, rfl, r5, by omega, rfl, rfl⟩ ?_
  rintro m σ ν ⟨rfl, p, o, p5, p6, hr, hpn, rfl, rfl⟩ K hT hF
  dsimp! []
  have e0 : (p : Int) * p = ((p * p : Nat) : Int) := (Int.natCast_mul p p).symm
  rw [e0]
  refine ⟨mulOk_of (by omega) (by omega), ?_⟩
  refine c_dec K (fun c => ?_) fun c => ?_
  · have hpp : p ≤ p * p := Nat.le_mul_of_pos_left _ (by omega)
    refine hT _ fun N hN => ?_
    dsimp! []
    rw [show (n : Int) % (p : Int) = ((n % p : Nat) : Int) from rfl]
    refine ⟨by omega, ?_⟩
    refine c_if (fun a => ?_) fun a => ?_
    · dsimp! []
      exact h p (fun _ => ⟨by omega, Nat.dvd_of_mod_eq_zero (by omega), hr⟩) fun e => by subst e; omega
    · dsimp! []
      have hnp : ¬p ∣ n := fun z => a (by have := Nat.mod_eq_zero_of_dvd z; omega)
      have ra : PM.Rough n (p + 2) := PM.rough_two hr hnp (by omega) (by omega)
      rw [show (p : Int) + 2 = ((p + 2 : Nat) : Int) by omega, show (n : Int) % ((p + 2 : Nat) : Int) = ((n % (p + 2) : Nat) : Int) from rfl]
      refine ⟨by omega, ?_⟩
      refine c_if (fun b => ?_) fun b => ?_
      · dsimp! []
        exact h (p + 2) (fun _ => ⟨by omega, Nat.dvd_of_mod_eq_zero (by omega), ra⟩) fun e => by subst e; omega
      · dsimp! []
        have hnq : ¬(p + 2) ∣ n := fun z => b (by have := Nat.mod_eq_zero_of_dvd z; omega)
        have rb : PM.Rough n (p + 2 + 2) := PM.rough_two ra hnq (by omega) (by omega)
        have rc : PM.Rough n (p + 2 + 2 + 1) := PM.rough_next rb fun z => hn3 (Nat.dvd_trans ⟨(p + 4) / 3, by omega⟩ z)
        have rd : PM.Rough n (p + 2 + 2 + 1 + 1) := PM.rough_next rc fun z => hn2 (Nat.dvd_trans ⟨(p + 5) / 2, by omega⟩ z)
        rw [show (p : Int) + 6 = ((p + 6 : Nat) : Int) by omega]
        exact hN (n + 7 - (p + 6)) _ _ (by omega) ⟨rfl, p + 6, _, by omega, by omega, rd, by omega, rfl, rfl⟩
  · refine hF _ ?_
    dsimp! []
    refine h n (fun h2 => ⟨h2, Nat.dvd_refl n, ?_⟩) fun e => e
    have hp := PM.rough_self h2 hr (by omega)
    exact PM.prm_rough hp (Nat.le_refl n)
theorem sp_is_prime_in {n : Nat} {μ : Mu} {Q : KD} (h1 : 1 ≤ n) (hn : n ≤ 10 ^ 60) (h : Q (.d (.bool (decide (PM.Prm n)))) μ) : w_is_prime_in [.d (.int n)] μ Q := by
  refine i_is_prime_in ?_
  dsimp! [B_is_prime_in]
  refine c_andV (fun g => ?_) fun g => ?_
  · dsimp! []
    refine sp_least_factor hn (fun d hd hd1 => ?_) h1
    dsimp! []
    obtain ⟨d2, dn, dr⟩ := hd (by omega)
    have e : decide ((d : Int) = (n : Int)) = decide (PM.Prm n) := by
      refine decide_eq_decide.mpr ⟨fun z => ?_, fun z => ?_⟩
      · have : d = n := by omega
        subst this
        exact PM.rough_prm d2 dr dn
      · rcases z.2 d dn with q | q <;> omega
    rw [e]
    exact h
  · dsimp! []
    rw [decide_eq_false (fun z => by have := z.1; omega)] at h
    exact h
theorem sp_factors_in {n : Nat} {μ : Mu} {Q : KD} (h1 : 1 ≤ n) (hn : n ≤ 10 ^ 60) (h : ∀ fs, PM.IsFac fs n → Q (.d (.tuple (facD fs))) μ) : w_factors_in [.d (.int n)] μ Q := by
  refine i_factors_in ?_
  dsimp! [B_factors_in]
  refine b_while (I := fun m σ ν => ∃ (fs : List (Nat × Nat)) (l p : Nat) (o : Option SV), ν = μ ++ [.lst (facD fs)] ∧ PM.FacOk fs ∧ PM.prodF fs * l = n ∧ 1 ≤ l ∧ PM.Rough l p ∧ (p = 2 ∨ 3 ≤ p ∧ p % 2 = 1) ∧ (∀ a ∈ fs, a.1 < p) ∧ p ≤ n + 3 ∧ m = n + 3 - p ∧ σ = [some (.d (.int n)), some (.loc μ.length), some (.d (.int l)), some (.d (.int p)), o]) (n + 3 - 2) ⟨[], n, 2, _, rfl, PM.facOk_nil, Nat.one_mul n, h1, fun d d1 d2 => by omega, .inl rfl, fun _ ha => (List.not_mem_nil ha).elim, by omega, rfl, rfl⟩ ?_
  rintro m σ ν ⟨fs, l, p, o, rfl, hf, hl, l1, hr, hp, hlt, hpb, rfl, rfl⟩ K hT hF
  have hln : l ≤ n := by rw [← hl]; exact Nat.le_mul_of_pos_left _ (Nat.lt_of_lt_of_le (Nat.two_pow_pos _) (prodF_pos hf))
  have hpn : PM.prodF fs ≤ n := by rw [← hl]; exact Nat.le_mul_of_pos_right _ l1
  have hp2 : 2 ≤ p := by omega
  dsimp! []
  have e0 : (p : Int) * p = ((p * p : Nat) : Int) := (Int.natCast_mul p p).symm
  rw [e0]
  by_cases c : p * p ≤ l
  · have hpl : p ≤ p * p := Nat.le_mul_of_pos_left _ (by omega)
    rw [decide_eq_true (by omega)]
    refine ⟨mulOk_of (by omega) (by omega), hT _ fun N hN => ?_⟩
    dsimp! []
    refine b_while (I := fun m σ ν => ν = μ ++ [.lst (facD fs)] ∧ ∃ k : Nat, PM.prodF fs * (p ^ k * m) = n ∧ 1 ≤ m ∧ m ∣ l ∧ (1 ≤ k → p ∣ l) ∧ σ = [some (.d (.int n)), some (.loc μ.length), some (.d (.int m)), some (.d (.int p)), some (.d (.int k))]) l ⟨rfl, 0, by rw [Nat.pow_zero, Nat.one_mul, hl], l1, Nat.dvd_refl l, fun z => by omega, rfl⟩ ?_
    rintro m σ ν ⟨rfl, k, hk, m1, hml, hkp, rfl⟩ K2 hT2 hF2
    have hmn : m ≤ n := Nat.le_trans (Nat.le_of_dvd l1 hml) hln
    dsimp! []
    refine ⟨by omega, ?_⟩
    rw [show (m : Int) % (p : Int) = ((m % p : Nat) : Int) from rfl]
    by_cases hd : m % p = 0
    · rw [decide_eq_true (by omega)]
      have hmp : m = p * (m / p) := by have := Nat.div_add_mod m p; omega
      have hq1 : 1 ≤ m / p := by
        rcases Nat.eq_zero_or_pos (m / p) with z | z
        · rw [z] at hmp; omega
        · exact z
      have hqm : m / p < m := Nat.div_lt_self m1 (by omega)
      refine hT2 _ fun N2 hN2 => ?_
      dsimp! []
      rw [show (m : Int) / (p : Int) = ((m / p : Nat) : Int) from rfl, show (k : Int) + 1 = ((k + 1 : Nat) : Int) by omega]
      refine ⟨divOk_of (by omega) (by omega), hN2 (m / p) _ _ hqm ⟨rfl, k + 1, ?_, hq1, Nat.dvd_trans ⟨p, by rw [Nat.mul_comm]; exact hmp⟩ hml, fun _ => Nat.dvd_trans ⟨m / p, hmp⟩ hml, rfl⟩⟩
      rw [Nat.pow_succ, Nat.mul_assoc (p ^ k), ← hmp, hk]
    · rw [decide_eq_false (by omega)]
      refine hF2 _ ?_
      have hnd : ¬p ∣ m := fun z => hd (Nat.mod_eq_zero_of_dvd z)
      have hr2 : PM.Rough m p := PM.rough_dvd hr hml
      have hpn2 : p ≤ n := by omega
      have next : ∀ fs' : List (Nat × Nat), PM.FacOk fs' → PM.prodF fs' * m = n → (∀ a ∈ fs', a.1 ≤ p) → kIfE (dC (.int 1)) (dC (.int 2)) [some (.d (.int n)), some (.loc μ.length), some (.d (.int m)), some (.d (.int p)), some (.d (.int k))] (kOp2 gAdd (.d (.int p)) (kSet 3 N [some (.d (.int n)), some (.loc μ.length), some (.d (.int m)), some (.d (.int p)), some (.d (.int k))])) (decide ((p : Int) = 2)) (μ ++ [.lst (facD fs')]) := fun fs' hf' hm' hlt' => by
        refine c_ifE (fun g => ?_) fun g => ?_
        · dsimp! []
          have : p = 2 := by omega
          subst this
          rw [show ((2 : Nat) : Int) + 1 = ((3 : Nat) : Int) from rfl]
          exact hN (n + 3 - 3) _ _ (by omega) ⟨fs', m, 3, _, rfl, hf', hm', m1, PM.rough_next hr2 hnd, .inr ⟨by omega, by omega⟩, fun a ha => by have := hlt' a ha; omega, by omega, rfl, rfl⟩
        · dsimp! []
          rw [show (p : Int) + 2 = ((p + 2 : Nat) : Int) by omega]
          exact hN (n + 3 - (p + 2)) _ _ (by omega) ⟨fs', m, p + 2, _, rfl, hf', hm', m1, PM.rough_two hr2 hnd (by omega) (by omega), .inr ⟨by omega, by omega⟩, fun a ha => by have := hlt' a ha; omega, by omega, rfl, rfl⟩
      dsimp! []
      refine c_if (fun g => ?_) fun g => ?_
      · dsimp! []
        rw [facD_app]
        refine ⟨by rw [facD, List.length_map]; have := fac_short hf hpn hn; omega, ?_⟩
        have hpp : PM.Prm p := PM.rough_prm hp2 hr (hkp (by omega))
        exact next (fs ++ [(p, k)]) (PM.facOk_app hf hpp (by omega) hlt) (by rw [PM.prodF_app, Nat.mul_assoc, hk]) fun a ha => by
          rcases List.mem_append.mp ha with z | z
          · exact Nat.le_of_lt (hlt a z)
          · rw [List.mem_singleton] at z; subst z; exact Nat.le_refl _
      · have hk0 : k = 0 := by omega
        subst hk0
        rw [Nat.pow_zero, Nat.one_mul] at hk
        dsimp! []
        exact next fs hf hk fun a ha => Nat.le_of_lt (hlt a ha)
  · rw [decide_eq_false (by omega)]
    refine ⟨mulOk_of (by omega) (by omega), hF _ ?_⟩
    dsimp! []
    refine c_if (fun g => ?_) fun g => ?_
    · dsimp! []
      rw [show PyData.tuple [.int (l : Int), .int 1] = PyData.tuple [.int (l : Int), .int ((1 : Nat) : Int)] from rfl, facD_app]
      refine ⟨by rw [facD, List.length_map]; have := fac_short hf hpn hn; omega, ?_⟩
      have hlp : PM.Prm l := PM.rough_self (by omega) hr (by omega)
      refine h _ ⟨PM.facOk_app hf hlp (Nat.le_refl 1) fun a ha => ?_, by rw [PM.prodF_app, Nat.pow_one, hl]⟩
      have := hlt a ha
      rcases Nat.lt_or_ge l p with z | z
      · exact absurd (Nat.dvd_refl l) (hr l (by omega) z)
      · omega
    · dsimp! []
      have : l = 1 := by omega
      subst this
      exact h _ ⟨hf, by rw [← hl, Nat.mul_one]⟩
def mulT (k : Int) : PyData → PyData
  | .int d => .int (d * k)
  | _ => .none
theorem intsD_mul {l : List Nat} {k : Nat} : (intsD l).map (mulT k) = intsD (l.map fun x => x * k) := by
  unfold intsD
  rw [List.map_map, List.map_map]
  refine List.map_congr_left fun x _ => ?_
  show PyData.int ((x : Int) * k) = PyData.int ((x * k : Nat) : Int)
  rw [Int.natCast_mul]
theorem sort_divs {xs : List Nat} {n : Nat} (h1 : 1 ≤ n) (h : PM.DivL xs n) : (sortI (xs.map fun d : Nat => (d : Int))).map PyData.int = intsD (PM.divs n) := by
  have e : sortI (xs.map fun d : Nat => (d : Int)) = (PM.divs n).map fun d : Nat => (d : Int) := by
    refine sorted_uniq ((sortI_perm _).trans ((PM.divL_divs h1 h).map _)) (sortI_le _) (List.pairwise_map.mpr (PM.divs_up.imp fun q => by omega))
  rw [e, List.map_map]
  rfl
theorem sp_divisors_in {n : Nat} {fs : List (Nat × Nat)} {μ : Mu} {Q : KD} (h1 : 1 ≤ n) (hn : n ≤ 10 ^ 12) (hf : PM.IsFac fs n) (h : Q (.d (.list (intsD (PM.divs n)))) μ) : w_divisors_in [.d (.tuple (facD fs))] μ Q := by
  have few : ∀ {xs : List Nat} {m : Nat}, 1 ≤ m → m ≤ n → xs.Nodup → (∀ x ∈ xs, x ∣ m) → xs.length ≤ 2000002 := fun {xs m} m1 m2 hx hd => PM.div_few (s := 1000001) m1 (by omega) hx hd
  refine i_divisors_in ?_
  dsimp! [B_divisors_in]
  refine i_loop (I := fun r σ ν => ν = μ ∧ ∃ (gs : List (Nat × Nat)) (xs : List Nat) (m : Nat) (o2 o3 o4 o5 o6 o7 : Option SV), r = facD gs ∧ PM.FacOk gs ∧ PM.DivL xs m ∧ 1 ≤ m ∧ m * PM.prodF gs = n ∧ (∀ a ∈ gs, ¬a.1 ∣ m) ∧ σ = [some (.d (.tuple (facD fs))), some (.d (.list (intsD xs))), o2, o3, o4, o5, o6, o7]) ⟨rfl, fs, [1], 1, _, _, _, _, _, _, rfl, hf.1, PM.divL_one, Nat.le_refl 1, by rw [Nat.one_mul]; exact hf.2, fun a ha z => by
    have := Nat.le_of_dvd (by decide) z
    have := (hf.1.pr a ha).1.1
    omega, rfl⟩ ?_ ?_
  · rintro σ ν ⟨rfl, gs, xs, m, o2, o3, o4, o5, o6, o7, hr, hg, hx, m1, hm, hd, rfl⟩
    cases gs with
    | cons a r => cases hr
    | nil =>
      have e : m = n := by rw [← hm]; show m = m * 1; omega
      subst e
      dsimp! [g_sorted, intsD_ints]
      rw [sort_divs m1 hx]
      exact h
  · rintro z r σ ν ⟨rfl, gs, xs, m, o2, o3, o4, o5, o6, o7, hr, hg, hx, m1, hm, hd, rfl⟩ N hN
    cases gs with
    | nil => cases hr
    | cons a gs =>
      obtain ⟨p, k⟩ := a
      cases hr
      have hpk := hg.pr (p, k) List.mem_cons_self
      have hp : PM.Prm p := hpk.1
      have p2 : 2 ≤ p := hp.1
      have hpm : ¬p ∣ m := hd (p, k) List.mem_cons_self
      have hu := List.pairwise_cons.mp hg.up
      have hpos : 1 ≤ PM.prodF gs := Nat.lt_of_lt_of_le (Nat.two_pow_pos _) (prodF_pos hg.tail)
      have hmk : m * p ^ k ≤ n := by
        rw [← hm]
        show m * p ^ k ≤ m * (p ^ k * PM.prodF gs)
        rw [← Nat.mul_assoc]
        exact Nat.le_mul_of_pos_right _ hpos
      have hkk : p ^ k ≤ n := Nat.le_trans (Nat.le_mul_of_pos_left _ m1) hmk
      have hk40 : k < 60 := by
        rcases Nat.lt_or_ge k 60 with q | q
        · exact q
        · have a1 := Nat.pow_le_pow_left p2 k
          have a2 := Nat.pow_le_pow_right (show 0 < 2 by decide) q
          have a3 : 10 ^ 12 < 2 ^ 60 := by decide +kernel
          omega
      have hmn : m ≤ n := Nat.le_trans (Nat.le_mul_of_pos_right _ (Nat.pow_pos (by omega))) hmk
      have hpn : p ≤ n := by
        have a1 : p ^ 1 ≤ p ^ k := Nat.pow_le_pow_right (by omega) hpk.2
        rw [Nat.pow_one] at a1
        omega
      dsimp! []
      refine ⟨by unfold RngOk; omega, ?_⟩
      rw [show ((k : Int) + 1).toNat = k + 1 by omega]
      refine i_rng (I := fun j σ ν' => ν' = ν ∧ ∃ o6, σ = [some (.d (.tuple (facD fs))), some (.d (.list (intsD xs))), some (.d (.int p)), some (.d (.int k)), some (.d (.list (intsD (PM.stepD xs p j)))), some (.d (.int (p ^ j : Nat))), o6, o7]) ⟨rfl, _, rfl⟩ ?_ ?_
      · rintro σ ν' ⟨rfl, o6, rfl⟩
        dsimp! []
        refine hN _ _ ⟨rfl, gs, _, m * p ^ k, _, _, _, _, _, _, rfl, hg.tail, PM.divL_step hx hp hpm, Nat.mul_pos m1 (Nat.pow_pos (by omega)), ?_, fun a ha z => ?_, rfl⟩
        · rw [Nat.mul_assoc]; exact hm
        · have ha2 := hg.tail.pr a ha
          rcases PM.prm_mul ha2.1 z with g | g
          · exact hd a (List.mem_cons_of_mem _ ha) g
          · have := PM.prm_eq ha2.1 hp (PM.prm_pow ha2.1 g)
            have h3 : p < a.1 := hu.1 a ha
            omega
      · rintro j hj σ ν' ⟨rfl, o6, rfl⟩ N2 hN2
        have hpj : p ^ j ≤ p ^ k := Nat.pow_le_pow_right (by omega) (by omega)
        have len1 : (PM.stepD xs p (j + 1)).length ≤ 2000002 := by
          have q := PM.divL_step (k := j) hx hp hpm
          exact few (m := m * p ^ j) (Nat.mul_pos m1 (Nat.pow_pos (by omega))) (Nat.le_trans (Nat.mul_le_mul_left m hpj) hmk) q.1 fun x hx' => (q.2 x).mp hx'
        have len2 : (PM.stepD xs p (j + 1)).length = (PM.stepD xs p j).length + xs.length := by
          show (PM.stepD xs p j ++ _).length = _
          rw [List.length_append, List.length_map]
        dsimp! []
        refine i_map (mulT (p ^ j : Nat)) (by rw [intsD_len, sz_line]; omega) (fun x hx' T E hT => ?_) ?_
        · obtain ⟨d, hd', rfl⟩ := List.mem_map.mp hx'
          have hdm := Nat.le_of_dvd m1 ((hx.2 d).mp hd')
          dsimp! []
          exact ⟨mulOk_of (by omega) (by omega), hT⟩
        · rw [intsD_mul]
          dsimp! [intsD_app, intsD_len, List.length_map]
          refine ⟨by omega, mulOk_of (by omega) (by omega), ?_⟩
          rw [← Int.natCast_mul, ← Nat.pow_succ]
          exact hN2 _ _ ⟨rfl, _, rfl⟩
theorem sp_power_in {one : Int} {times : Nat} {g : Int} {μ : Mu} {Q : KD} (h0 : 0 < g) (h1 : g ≤ 10 ^ 100) (h : Q (.d (.int (one ^ times % g))) μ) : w_power_in [.d (.int one), .d (.int times), .d (.int g)] μ Q := by
  refine i_power_in ?_
  dsimp! [B_power_in]
  refine ⟨h0, ?_⟩
  have hb : 0 ≤ one % g := Int.emod_nonneg _ (by omega)
  have hb2 : one % g < g := Int.emod_lt_of_pos _ h0
  refine b_while (I := fun m σ ν => ν = μ ∧ ∃ f b : Int, f * b ^ m % g = one ^ times % g ∧ 0 ≤ f ∧ (f = 1 ∨ f < g) ∧ 0 ≤ b ∧ b < g ∧ σ = [some (.d (.int one)), some (.d (.int times)), some (.d (.int g)), some (.d (.int f)), some (.d (.int b)), some (.d (.int m))]) times ⟨rfl, 1, one % g, by rw [Int.one_mul, PM.pow_m], by omega, .inl rfl, hb, hb2, rfl⟩ ?_
  rintro m σ ν ⟨rfl, f, b, e, f0, f1, b0, b1, rfl⟩ K hT hF
  dsimp! []
  refine c_dec K (fun c => ?_) fun c => ?_
  · refine hT _ fun N hN => ?_
    dsimp! []
    have e2 : (m : Int) / 2 = ((m / 2 : Nat) : Int) := by omega
    walk_at "c"
    · rename_i c1
      dsimp! []
      have hf := Int.emod_nonneg (f * b) (show g ≠ 0 by omega)
      have hf2 := Int.emod_lt_of_pos (f * b) h0
      refine ⟨mulOk_of (by omega) (by omega), h0, mulOk_of (by omega) (by omega), h0, ?_⟩
      rw [e2]
      refine hN _ _ _ (by omega) ⟨rfl, _, _, ?_, hf, .inr hf2, Int.emod_nonneg _ (by omega), Int.emod_lt_of_pos _ h0, rfl⟩
      rw [PM.step1, ← e]
      congr 3
      omega
    · rename_i c1
      dsimp! []
      refine ⟨mulOk_of (by omega) (by omega), h0, ?_⟩
      rw [e2]
      refine hN _ _ _ (by omega) ⟨rfl, _, _, ?_, f0, f1, Int.emod_nonneg _ (by omega), Int.emod_lt_of_pos _ h0, rfl⟩
      rw [PM.step0, ← e]
      congr 3
      omega
  · refine hF _ ?_
    dsimp! []
    refine ⟨h0, ?_⟩
    have : m = 0 := by omega
    subst this
    rw [Int.pow_zero, Int.mul_one] at e
    rw [e]
    exact h
theorem sp_is_prime {n : Nat} {μ : Mu} {Q : KD} (h1 : 1 ≤ n) (hn : n ≤ 10 ^ 10) (h : Q (.d (.bool (decide (PM.Prm n)))) μ) : w_is_prime [.d (.int n)] μ Q := by
  refine i_is_prime ?_
  dsimp! [B_is_prime]
  refine sp_need_number (by omega) (by omega) ?_
  dsimp! []
  refine sp_is_prime_in h1 (by omega) ?_
  dsimp! []
  exact h
theorem sp_divisors_of {n : Nat} {μ : Mu} {Q : KD} (h1 : 1 ≤ n) (hn : n ≤ 10 ^ 10) (h : Q (.d (.tuple (intsD (PM.divs n)))) μ) : w_divisors_of [.d (.int n)] μ Q := by
  refine i_divisors_of ?_
  dsimp! [B_divisors_of]
  refine sp_need_number (by omega) (by omega) ?_
  dsimp! []
  refine sp_factors_in h1 (by omega) fun fs hfs => ?_
  dsimp! []
  refine sp_divisors_in h1 (by omega) hfs ?_
  dsimp! []
  exact h
/-! ### draws -/
def CupV (c : Cel) : Prop := ∃ a b : Int, 0 ≤ a ∧ 0 ≤ b ∧ c = .lst [.int a, .int b]
theorem sp_law_cup {ns : List Int} {Q : KD} (hl : ns.length ≤ 63) (h : ∀ c, CupV c → Q (.loc 0) [c]) : w_law_cup [.scr ns] [] Q := by
  refine i_law_cup ?_
  dsimp! [B_law_cup]
  have hx : ∃ x : Int, atI ((ns.map PyData.int) ++ [PyData.int 0]) 0 = some (.int x) := by
    cases ns with
    | nil => exact ⟨0, atI_zero⟩
    | cons a r => exact ⟨a, atI_zero⟩
  obtain ⟨x, hx⟩ := hx
  dsimp! [hx]
  refine ⟨by simp; omega, ?_⟩
  have hn : 0 ≤ (if x < 0 then -x else x) := by split <;> omega
  generalize (if x < 0 then -x else x) = y at hn ⊢
  have h2 := Int.emod_nonneg (y * 283 + 3907) (show (2077503167 : Int) ≠ 0 by decide)
  walk_at "c"
  · dsimp! []
    dsimp! [r_loc, Nat.lt_irrefl]
    exact h _ ⟨_, _, by omega, by omega, rfl⟩
  · dsimp! []
    dsimp! [r_loc, Nat.lt_irrefl]
    exact h _ ⟨_, _, by omega, by omega, rfl⟩
theorem sp_law_roll {m : Int} {c : Cel} {ν : Mu} {Q : KD} (hc : CupV c) (hm : DivOk m) (h : ∀ r c', 0 ≤ r → r < m → CupV c' → Q (.d (.int r)) (c' :: ν)) : w_law_roll [.loc 0, .d (.int m)] (c :: ν) Q := by
  obtain ⟨a, b, ha, hb, rfl⟩ := hc
  have hm0 := hm.1
  refine i_law_roll ?_
  dsimp! [B_law_roll]
  walk_at "c"
  · dsimp! []
    exact ⟨hm0, hm, h _ _ (Int.emod_nonneg _ (by omega)) (Int.emod_lt_of_pos _ hm0) ⟨_, _, Int.ediv_nonneg ha (by omega), hb, rfl⟩⟩
  · dsimp! []
    have hb' : 0 ≤ (b * 31051 + 7993) % 2147483543 := Int.emod_nonneg _ (by decide)
    have hb2 : (b * 31051 + 7993) % 2147483543 < 2147483543 := Int.emod_lt_of_pos _ (by decide)
    generalize (b * 31051 + 7993) % 2147483543 = b' at hb' hb2 ⊢
    exact ⟨mulOk_left (by omega), hm0, h _ _ (Int.emod_nonneg _ (by omega)) (Int.emod_lt_of_pos _ hm0) ⟨_, _, ha, hb', rfl⟩⟩
theorem sp_law_some {xs : List PyData} {c : Cel} {ν : Mu} {Q : KD} (hc : CupV c) (hm : DivOk xs.length) (h : ∀ x ∈ xs, ∀ c', CupV c' → Q (.d x) (c' :: ν)) : w_law_some [.loc 0, .d (.list xs)] (c :: ν) Q := by
  refine i_law_some ?_
  dsimp! [B_law_some]
  refine sp_law_roll hc hm fun r c' h0 h1 h2 => ?_
  obtain ⟨j, rfl⟩ := Int.eq_ofNat_of_zero_le h0
  have hj : j < xs.length := by omega
  dsimp! [L2.atI_nat (List.getElem?_eq_getElem hj)]
  exact h _ (List.getElem_mem _) _ h2
theorem sp_law_someT {xs : List PyData} {c : Cel} {ν : Mu} {Q : KD} (hc : CupV c) (hm : DivOk xs.length) (h : ∀ x ∈ xs, ∀ c', CupV c' → Q (.d x) (c' :: ν)) : w_law_some [.loc 0, .d (.tuple xs)] (c :: ν) Q := by
  refine i_law_some ?_
  dsimp! [B_law_some]
  refine sp_law_roll hc hm fun r c' h0 h1 h2 => ?_
  obtain ⟨j, rfl⟩ := Int.eq_ofNat_of_zero_le h0
  have hj : j < xs.length := by omega
  dsimp! [L2.atI_nat (List.getElem?_eq_getElem hj)]
  exact h _ (List.getElem_mem _) _ h2
/-! ### like -/
def sortOf : PyData → Int
  | .none => 0
  | .bool _ => 1
  | .int _ => 2
  | .str _ => 3
  | .tuple _ => 4
  | .list _ => 5
  | .dict _ => 6
theorem sp_law_sort {x : PyData} {μ : Mu} {Q : KD} (hx : ∀ kvs, x ≠ .dict kvs) (h : Q (.d (.int (sortOf x))) μ) : w_law_sort [.d x] μ Q := by
  refine i_law_sort ?_
  cases x with
  | dict kvs => exact absurd rfl (hx kvs)
  | _ => dsimp! [B_law_sort]; exact h
def Fit : Nat → PyData → Prop
  | 0, _ => False
  | n + 1, .tuple xs => ∀ x ∈ xs, Fit n x
  | n + 1, .list xs => ∀ x ∈ xs, Fit n x
  | _ + 1, .dict _ => False
  | _ + 1, _ => True
theorem zip_self {xs : List PyData} : zipD xs xs = xs.map fun x => .tuple [x, x] := by
  induction xs with
  | nil => rfl
  | cons a r ih => simp only [zipD, ih, List.map_cons]
theorem fit_nodict {n : Nat} {x : PyData} (h : Fit n x) : ∀ kvs, x ≠ .dict kvs := by
  rintro kvs rfl
  cases n <;> exact h
theorem sp_law_like {n : Nat} {x : PyData} {μ : Mu} {Q : KD} (hx : Fit n x) (h : Q (.d (.bool true)) μ) : w_law_like n [.d x, .d x] μ Q := by
  induction n generalizing x μ Q with
  | zero => exact hx.elim
  | succ n ih =>
    have hd := fit_nodict hx
    refine i_law_like ?_
    dsimp! [B_law_like]
    refine sp_law_sort hd ?_
    dsimp! []
    refine sp_law_sort hd ?_
    cases x with
    | dict kvs => exact absurd rfl (hd kvs)
    | none => dsimp! [sortOf]; exact h
    | bool b => dsimp! [sortOf]; exact h
    | int b => dsimp! [sortOf]; exact h
    | str b => dsimp! [sortOf]; exact h
    | list xs =>
      dsimp! [sortOf, zip_self]
      refine i_comp (I := fun r acc μ' => μ' = μ ∧ acc = [] ∧ ∃ ys : List PyData, r = ys.map (fun x => .tuple [x, x]) ∧ ∀ x ∈ ys, Fit n x) ⟨rfl, rfl, xs, rfl, hx⟩ ?_ ?_
      · rintro acc μ' ⟨rfl, rfl, _⟩
        dsimp! []
        exact h
      · rintro x r acc μ' ⟨rfl, rfl, ys, e, hys⟩ T E hT hE
        cases ys with
        | nil => cases e
        | cons y ys =>
          cases e
          dsimp! []
          refine ih (hys _ (by simp)) ?_
          dsimp! []
          exact hE _ ⟨rfl, rfl, ys, rfl, fun z hz => hys z (by simp [hz])⟩
    | tuple xs =>
      dsimp! [sortOf, zip_self]
      refine i_comp (I := fun r acc μ' => μ' = μ ∧ acc = [] ∧ ∃ ys : List PyData, r = ys.map (fun x => .tuple [x, x]) ∧ ∀ x ∈ ys, Fit n x) ⟨rfl, rfl, xs, rfl, hx⟩ ?_ ?_
      · rintro acc μ' ⟨rfl, rfl, _⟩
        dsimp! []
        exact h
      · rintro x r acc μ' ⟨rfl, rfl, ys, e, hys⟩ T E hT hE
        cases ys with
        | nil => cases e
        | cons y ys =>
          cases e
          dsimp! []
          refine ih (hys _ (by simp)) ?_
          dsimp! []
          exact hE _ ⟨rfl, rfl, ys, rfl, fun z hz => hys z (by simp [hz])⟩
theorem fit_ints {n : Nat} {l : List Nat} : Fit (n + 2) (.list (intsD l)) := by
  intro x hx
  obtain ⟨d, _, rfl⟩ := List.mem_map.mp hx
  trivial
theorem fit_intsT {n : Nat} {l : List Nat} : Fit (n + 2) (.tuple (intsD l)) := by
  intro x hx
  obtain ⟨d, _, rfl⟩ := List.mem_map.mp hx
  trivial
theorem fit_zs {n : Nat} {l : List Int} : Fit (n + 2) (.list (zsD l)) := by
  intro x hx
  obtain ⟨d, _, rfl⟩ := List.mem_map.mp hx
  trivial
theorem abs_natL {a : Int} : (if a < 0 then -a else a) = (a.natAbs : Int) := by split <;> omega
theorem sp_law_divisor {a b : Int} {μ : Mu} {Q : KD} (h : Q (.d (.int (Int.gcd a b : Nat))) μ) : w_law_divisor [.d (.int a), .d (.int b)] μ Q := by
  refine i_law_divisor ?_
  dsimp! [B_law_divisor, abs_natL]
  refine b_while (I := fun m σ ν => ν = μ ∧ ∃ n : Nat, Nat.gcd n m = Int.gcd a b ∧ σ = [some (.d (.int n)), some (.d (.int m))]) b.natAbs ⟨rfl, _, rfl, rfl⟩ ?_
  rintro m σ ν ⟨rfl, n, hg, rfl⟩ K hT hF
  dsimp! []
  refine c_dec K (fun c => ?_) fun c => ?_
  · refine hT _ fun N hN => ?_
    dsimp! []
    have hm : 0 < m := by omega
    refine ⟨by omega, ?_⟩
    rw [show (n : Int) % (m : Int) = ((n % m : Nat) : Int) from rfl]
    exact hN (n % m) _ _ (Nat.mod_lt _ hm) ⟨rfl, m, by rw [PM.gcd_step, hg], rfl⟩
  · refine hF _ ?_
    dsimp! []
    have : m = 0 := by omega
    subst this
    rw [Nat.gcd_zero_right] at hg
    rw [hg]
    exact h
theorem sp_law_is_prime {n : Int} {μ : Mu} {Q : KD} (hn : n ≤ 10 ^ 60) (h : Q (.d (.bool (decide (PM.Prm n.toNat)))) μ) : w_law_is_prime [.d (.int n)] μ Q := by
  refine i_law_is_prime ?_
  dsimp! [B_law_is_prime]
  refine c_if (fun g => ?_) fun g => ?_
  · dsimp! []
    rw [decide_eq_false (fun z => by have := z.1; omega)] at h
    exact h
  · obtain ⟨n, rfl⟩ := Int.eq_ofNat_of_zero_le (show 0 ≤ n by omega)
    rw [Int.toNat_natCast] at h
    dsimp! []
    refine b_while (I := fun m σ ν => ν = μ ∧ ∃ p : Nat, 2 ≤ p ∧ p ≤ n + 1 ∧ PM.Rough n p ∧ m = n + 1 - p ∧ σ = [some (.d (.int n)), some (.d (.int p))]) (n + 1 - 2) ⟨rfl, 2, Nat.le_refl 2, by omega, fun d d1 d2 => by omega, rfl, rfl⟩ ?_
    rintro m σ ν ⟨rfl, p, p2, pn, hr, rfl, rfl⟩ K hT hF
    dsimp! []
    rw [show (p : Int) * p = ((p * p : Nat) : Int) from (Int.natCast_mul p p).symm]
    refine ⟨mulOk_of (by omega) (by omega), ?_⟩
    refine c_dec K (fun c => ?_) fun c => ?_
    · have hpp : p * 2 ≤ p * p := Nat.mul_le_mul_left p p2
      refine hT _ fun N hN => ?_
      dsimp! []
      rw [show (n : Int) % (p : Int) = ((n % p : Nat) : Int) from rfl]
      refine ⟨by omega, ?_⟩
      refine c_if (fun g => ?_) fun g => ?_
      · dsimp! []
        rw [decide_eq_false (PM.not_prm p2 (Nat.dvd_of_mod_eq_zero (by omega)) (by omega))] at h
        exact h
      · dsimp! []
        rw [show (p : Int) + 1 = ((p + 1 : Nat) : Int) by omega]
        exact hN _ _ _ (by omega) ⟨rfl, p + 1, by omega, by omega, PM.rough_next hr fun z => g (by have := Nat.mod_eq_zero_of_dvd z; omega), rfl, rfl⟩
    · refine hF _ ?_
      dsimp! []
      rw [decide_eq_true (PM.rough_self (by omega) hr (by omega))] at h
      exact h
theorem sp_law_factors {n : Nat} {μ : Mu} {Q : KD} (h1 : 1 ≤ n) (hn : n ≤ 10 ^ 60) (h : ∀ fs, PM.IsFac fs n → Q (.d (.tuple (facD fs))) μ) : w_law_factors [.d (.int n)] μ Q := by
  refine i_law_factors ?_
  dsimp! [B_law_factors]
  refine b_while (I := fun m σ ν => ∃ (fs : List (Nat × Nat)) (l p : Nat) (o : Option SV), ν = μ ∧ PM.FacOk fs ∧ PM.prodF fs * l = n ∧ 1 ≤ l ∧ PM.Rough l p ∧ 2 ≤ p ∧ (∀ a ∈ fs, a.1 < p) ∧ p ≤ n + 3 ∧ m = n + 3 - p ∧ σ = [some (.d (.int n)), some (.d (.list (facD fs))), some (.d (.int p)), some (.d (.int l)), o]) (n + 3 - 2) ⟨[], n, 2, _, rfl, PM.facOk_nil, Nat.one_mul n, h1, fun d d1 d2 => by omega, Nat.le_refl 2, fun _ ha => (List.not_mem_nil ha).elim, by omega, rfl, rfl⟩ ?_
  rintro m σ ν ⟨fs, l, p, o, rfl, hf, hl, l1, hr, hp2, hlt, hpb, rfl, rfl⟩ K hT hF
  have hln : l ≤ n := by rw [← hl]; exact Nat.le_mul_of_pos_left _ (Nat.lt_of_lt_of_le (Nat.two_pow_pos _) (prodF_pos hf))
  have hpn : PM.prodF fs ≤ n := by rw [← hl]; exact Nat.le_mul_of_pos_right _ l1
  dsimp! []
  have e0 : (p : Int) * p = ((p * p : Nat) : Int) := (Int.natCast_mul p p).symm
  rw [e0]
  refine ⟨mulOk_of (by omega) (by omega), ?_⟩
  refine c_dec K (fun c => ?_) fun c => ?_
  · have hpl : p ≤ p * p := Nat.le_mul_of_pos_left _ (by omega)
    refine hT _ fun N hN => ?_
    dsimp! []
    refine b_while (I := fun m σ ν' => ν' = ν ∧ ∃ k : Nat, PM.prodF fs * (p ^ k * m) = n ∧ 1 ≤ m ∧ m ∣ l ∧ (1 ≤ k → p ∣ l) ∧ σ = [some (.d (.int n)), some (.d (.list (facD fs))), some (.d (.int p)), some (.d (.int m)), some (.d (.int k))]) l ⟨rfl, 0, by rw [Nat.pow_zero, Nat.one_mul, hl], l1, Nat.dvd_refl l, fun z => by omega, rfl⟩ ?_
    rintro m σ ν' ⟨rfl, k, hk, m1, hml, hkp, rfl⟩ K2 hT2 hF2
    have hmn : m ≤ n := Nat.le_trans (Nat.le_of_dvd l1 hml) hln
    dsimp! []
    refine ⟨by omega, ?_⟩
    rw [show (m : Int) % (p : Int) = ((m % p : Nat) : Int) from rfl]
    refine c_dec K2 (fun c2 => ?_) fun c2 => ?_
    · have hmp : m = p * (m / p) := by have := Nat.div_add_mod m p; omega
      have hq1 : 1 ≤ m / p := by
        rcases Nat.eq_zero_or_pos (m / p) with z | z
        · rw [z] at hmp; omega
        · exact z
      have hqm : m / p < m := Nat.div_lt_self m1 (by omega)
      refine hT2 _ fun N2 hN2 => ?_
      dsimp! []
      rw [show (m : Int) / (p : Int) = ((m / p : Nat) : Int) from rfl, show (k : Int) + 1 = ((k + 1 : Nat) : Int) by omega]
      refine ⟨divOk_of (by omega) (by omega), hN2 (m / p) _ _ hqm ⟨rfl, k + 1, ?_, hq1, Nat.dvd_trans ⟨p, by rw [Nat.mul_comm]; exact hmp⟩ hml, fun _ => Nat.dvd_trans ⟨m / p, hmp⟩ hml, rfl⟩⟩
      rw [Nat.pow_succ, Nat.mul_assoc (p ^ k), ← hmp, hk]
    · refine hF2 _ ?_
      have hnd : ¬p ∣ m := fun z => c2 (by have := Nat.mod_eq_zero_of_dvd z; omega)
      have hr2 : PM.Rough m p := PM.rough_dvd hr hml
      have next : ∀ fs' : List (Nat × Nat), PM.FacOk fs' → PM.prodF fs' * m = n → (∀ a ∈ fs', a.1 ≤ p) → N [some (.d (.int n)), some (.d (.list (facD fs'))), some (.d (.int ((p + 1 : Nat) : Int))), some (.d (.int m)), some (.d (.int k))] ν' := fun fs' hf' hm' hlt' =>
        hN (n + 3 - (p + 1)) _ _ (by omega) ⟨fs', m, p + 1, _, rfl, hf', hm', m1, PM.rough_next hr2 hnd, by omega, fun a ha => by have := hlt' a ha; omega, by omega, rfl, rfl⟩
      dsimp! []
      refine c_ifE (fun g => ?_) fun g => ?_
      · dsimp! [facD_app]
        have hpp : PM.Prm p := PM.rough_prm hp2 hr (hkp (by omega))
        have q := next (fs ++ [(p, k)]) (PM.facOk_app hf hpp (by omega) hlt) (by rw [PM.prodF_app, Nat.mul_assoc, hk]) fun a ha => by
          rcases List.mem_append.mp ha with z | z
          · exact Nat.le_of_lt (hlt a z)
          · rw [List.mem_singleton] at z; subst z; exact Nat.le_refl _
        rw [show (p : Int) + 1 = ((p + 1 : Nat) : Int) by omega]
        refine ⟨by rw [facD, List.length_map]; have := fac_short hf hpn hn; omega, q⟩
      · have hk0 : k = 0 := by omega
        subst hk0
        rw [Nat.pow_zero, Nat.one_mul] at hk
        dsimp! []
        have q := next fs hf hk fun a ha => Nat.le_of_lt (hlt a ha)
        rw [List.append_nil, show (p : Int) + 1 = ((p + 1 : Nat) : Int) by omega]
        exact ⟨by rw [facD, List.length_map]; have := fac_short hf hpn hn; omega, q⟩
  · refine hF _ ?_
    dsimp! []
    refine c_ifE (fun g => ?_) fun g => ?_
    · dsimp! []
      have hlp : PM.Prm l := PM.rough_self (by omega) hr (by omega)
      have q := h _ ⟨PM.facOk_app hf hlp (Nat.le_refl 1) fun a ha => by
        have := hlt a ha
        rcases Nat.lt_or_ge l p with z | z
        · exact absurd (Nat.dvd_refl l) (hr l (by omega) z)
        · omega, by rw [PM.prodF_app, Nat.pow_one, hl]⟩
      rw [← facD_app] at q
      refine ⟨by rw [facD, List.length_map]; have := fac_short hf hpn hn; omega, q⟩
    · dsimp! []
      have : l = 1 := by omega
      subst this
      rw [Nat.mul_one] at hl
      rw [List.append_nil]
      exact ⟨by rw [facD, List.length_map]; have := fac_short hf hpn hn; omega, h fs ⟨hf, hl⟩⟩
theorem sp_law_power {one : Int} {times : Nat} {g : Int} {μ : Mu} {Q : KD} (h0 : 0 < g) (h1 : g ≤ 10 ^ 100) (h : Q (.d (.int (one ^ times % g))) μ) : w_law_power [.d (.int one), .d (.int times), .d (.int g)] μ Q := by
  refine i_law_power ?_
  dsimp! [B_law_power]
  refine ⟨h0, ?_⟩
  have hb : 0 ≤ one % g := Int.emod_nonneg _ (by omega)
  have hb2 : one % g < g := Int.emod_lt_of_pos _ h0
  refine b_while (I := fun m σ ν => ν = μ ∧ ∃ f b : Int, f * b ^ m % g = one ^ times % g ∧ 0 ≤ f ∧ (f = 1 ∨ f < g) ∧ 0 ≤ b ∧ b < g ∧ σ = [some (.d (.int one)), some (.d (.int m)), some (.d (.int g)), some (.d (.int f)), some (.d (.int b))]) times ⟨rfl, 1, one % g, by rw [Int.one_mul, PM.pow_m], by omega, .inl rfl, hb, hb2, rfl⟩ ?_
  rintro m σ ν ⟨rfl, f, b, e, f0, f1, b0, b1, rfl⟩ K hT hF
  dsimp! []
  refine c_dec K (fun c => ?_) fun c => ?_
  · refine hT _ fun N hN => ?_
    dsimp! []
    have e2 : (m : Int) / 2 = ((m / 2 : Nat) : Int) := by omega
    walk_at "c"
    · rename_i c1
      dsimp! []
      have hf := Int.emod_nonneg (f * b) (show g ≠ 0 by omega)
      have hf2 := Int.emod_lt_of_pos (f * b) h0
      refine ⟨mulOk_of (by omega) (by omega), h0, mulOk_of (by omega) (by omega), h0, ?_⟩
      rw [e2]
      refine hN _ _ _ (by omega) ⟨rfl, _, _, ?_, hf, .inr hf2, Int.emod_nonneg _ (by omega), Int.emod_lt_of_pos _ h0, rfl⟩
      rw [PM.step1, ← e]
      congr 3
      omega
    · rename_i c1
      dsimp! []
      refine ⟨mulOk_of (by omega) (by omega), h0, ?_⟩
      rw [e2]
      refine hN _ _ _ (by omega) ⟨rfl, _, _, ?_, f0, f1, Int.emod_nonneg _ (by omega), Int.emod_lt_of_pos _ h0, rfl⟩
      rw [PM.step0, ← e]
      congr 3
      omega
  · refine hF _ ?_
    dsimp! []
    refine ⟨h0, ?_⟩
    have : m = 0 := by omega
    subst this
    rw [Int.pow_zero, Int.mul_one] at e
    rw [e]
    exact h
theorem sp_law_number {most : Int} {c : Cel} {ν : Mu} {Q : KD} (hm : 1 ≤ most ∧ most ≤ 10 ^ 60) (hc : CupV c) (h : ∀ (r : Nat) c', 1 ≤ r → (r : Int) ≤ most → CupV c' → Q (.d (.int r)) (c' :: ν)) : w_law_number [.loc 0, .d (.int most)] (c :: ν) Q := by
  refine i_law_number ?_
  dsimp! [B_law_number]
  refine sp_law_roll hc (divOk_of (by decide) (by decide)) fun w c1 w0 w1 hc1 => ?_
  dsimp! []
  refine c_if (fun g => ?_) fun g => ?_
  · dsimp! []
    refine sp_law_roll hc1 (divOk_of (by omega) (by omega)) fun r c2 r0 r1 hc2 => ?_
    dsimp! []
    obtain ⟨k, rfl⟩ := Int.eq_ofNat_of_zero_le r0
    rw [show (1 : Int) + k = ((1 + k : Nat) : Int) by omega]
    exact h _ _ (by omega) (by omega) hc2
  · have loop : ∀ (xs : List PyData) c (o5 o6 : Option SV), CupV c → (∀ x ∈ xs, ∃ i : Int, x = .int i ∧ 2 ≤ i ∧ i ≤ 13) → 1 ≤ xs.length → xs.length ≤ 10 →
        dFor (dRng1 (dCons (dC (.int 6)) dNil)) (dgName 5) (dSeq (dSet (dCall w_law_some (dCons (dVar 0) (dCons (dVar 4) dNil))) 6) (dSet (dIf (dB (dOp gLe (dOp gMul (dVar 3) (dVar 6)) (dVar 1))) (dOp gMul (dVar 3) (dVar 6)) (dVar 3)) 3)) { nx := dRet (dVar 3) (fnEnds false (c :: ν).length Q), rt := fnRet false (c :: ν).length Q, bk := (fnEnds false (c :: ν).length Q).bk, ct := (fnEnds false (c :: ν).length Q).ct } [some (.loc 0), some (.d (.int most)), some (.d (.int w)), some (.d (.int 1)), some (.d (.list xs)), o5, o6] (c :: ν) := fun xs c o5 o6 hc hx hl hl2 => by
      dsimp! []
      refine ⟨by unfold RngOk; omega, ?_⟩
      refine i_rng (I := fun k σ μ' => ∃ (f : Nat) (c : Cel) (o5 o6 : Option SV), μ' = c :: ν ∧ CupV c ∧ 1 ≤ f ∧ (f : Int) ≤ most ∧ σ = [some (.loc 0), some (.d (.int most)), some (.d (.int w)), some (.d (.int f)), some (.d (.list xs)), o5, o6]) ⟨1, c, _, _, rfl, hc, Nat.le_refl _, by omega, rfl⟩ ?_ ?_
      · rintro σ μ' ⟨f, c, o5, o6, rfl, hc, f1, f2, rfl⟩
        dsimp! []
        exact h f c f1 f2 hc
      · rintro k hk σ μ' ⟨f, c, o5, o6, rfl, hc, f1, f2, rfl⟩ N hN
        dsimp! []
        refine sp_law_some hc (divOk_of (by omega) (by omega)) fun y hy c2 hc2 => ?_
        obtain ⟨i, rfl, i1, i2⟩ := hx y hy
        obtain ⟨i, rfl⟩ := Int.eq_ofNat_of_zero_le (show 0 ≤ i by omega)
        dsimp! []
        refine ⟨mulOk_right (by omega), ?_⟩
        refine c_ifE (fun g => ?_) fun g => ?_
        · dsimp! []
          rw [← Int.natCast_mul] at g ⊢
          exact ⟨mulOk_right (by omega), hN _ _ ⟨f * i, c2, _, _, rfl, hc2, Nat.mul_pos f1 (by omega), g, rfl⟩⟩
        · dsimp! []
          exact hN _ _ ⟨f, c2, _, _, rfl, hc2, f1, f2, rfl⟩
    dsimp! []
    refine c_ifE (fun g2 => ?_) fun g2 => ?_
    · dsimp! []
      have q := loop [.int 2, .int 3, .int 5, .int 7, .int 11, .int 13] c1 none none hc1 (by
        intro x hx
        simp only [List.mem_cons, List.not_mem_nil, or_false] at hx
        rcases hx with rfl | rfl | rfl | rfl | rfl | rfl <;> exact ⟨_, rfl, by decide, by decide⟩) (by decide) (by decide)
      exact q
    · dsimp! []
      refine sp_law_some hc1 (divOk_of (by simp) (by simp)) fun y hy c2 hc2 => ?_
      have hy2 : ∃ i : Int, y = .int i ∧ 2 ≤ i ∧ i ≤ 13 := by
        simp only [List.mem_cons, List.not_mem_nil, or_false] at hy
        rcases hy with rfl | rfl | rfl | rfl | rfl <;> exact ⟨_, rfl, by decide, by decide⟩
      obtain ⟨i, rfl, i1, i2⟩ := hy2
      dsimp! []
      have q := loop [.int i] c2 none none hc2 (by
        intro x hx
        rw [List.mem_singleton] at hx
        subst hx
        exact ⟨i, rfl, i1, i2⟩) (by simp) (by simp)
      exact q
def againstB (n : Nat) (x : PyData) : Bool := match x with
  | .tuple [.str w, .int o] => if w = "divisor" then decide (2 ≤ o ∧ o ≤ (n : Int) - 1) && decide ((n : Int) % o = 0) else if w = "power" then decide (2 ≤ o ∧ o ≤ (n : Int) - 2) && decide (o ^ (n - 1) % (n : Int) ≠ 1) else if w = "square" then decide (2 ≤ o ∧ o ≤ (n : Int) - 2) && decide (o * o % (n : Int) = 1) else false
  | _ => false
theorem against_si {n : Nat} {w : Str} {o : Int} : againstB n (.tuple [.str w, .int o]) = (if w = "divisor" then decide (2 ≤ o ∧ o ≤ (n : Int) - 1) && decide ((n : Int) % o = 0) else if w = "power" then decide (2 ≤ o ∧ o ≤ (n : Int) - 2) && decide (o ^ (n - 1) % (n : Int) ≠ 1) else if w = "square" then decide (2 ≤ o ∧ o ≤ (n : Int) - 2) && decide (o * o % (n : Int) = 1) else false) := rfl
theorem sp_is_against {n : Nat} {x : PyData} {μ : Mu} {Q : KD} (h1 : 1 ≤ n) (hn : n ≤ 10 ^ 40) (hx : Plain x) (h : Q (.d (.bool (againstB n x))) μ) : w_is_against [.d (.int n), .d x] μ Q := by
  refine i_is_against ?_
  dsimp! [B_is_against]
  refine sp_is_tuple_any hx.1 ?_
  cases x with
  | tuple xs =>
    match xs, hx, h with
    | [], hx, h => rw [show tupB (.tuple []) 2 2 = false by decide]; dsimp! []; exact h
    | [a], hx, h => rw [show tupB (.tuple [a]) 2 2 = false by unfold tupB; simp, show againstB n (.tuple [a]) = false by unfold againstB; split <;> first | rfl | (rename_i e; cases e)] at *; dsimp! []; exact h
    | a :: b :: c :: r, hx, h =>
      rw [show tupB (.tuple (a :: b :: c :: r)) 2 2 = false from decide_eq_false (by simp only [List.length_cons]; omega)]
      rw [show againstB n (.tuple (a :: b :: c :: r)) = false by unfold againstB; split <;> first | rfl | (rename_i e; cases e)] at h
      dsimp! []
      exact h
    | [a, b], hx, h =>
      rw [show tupB (.tuple [a, b]) 2 2 = true by unfold tupB; simp]
      dsimp! []
      cases a with
      | dict kvs => exact absurd rfl (hx.2 _ rfl (.dict kvs) (by simp) kvs)
      | str w =>
        have hb : ∀ kvs, b ≠ .dict kvs := hx.2 _ rfl b (by simp)
        dsimp! []
        refine c_if (fun g => ?_) fun g => ?_
        · dsimp! []
          refine sp_is_whole_any hb ?_
          cases b with
          | int o =>
            rw [against_si, if_pos g] at h
            unfold wholeB
            dsimp! []
            refine c_andV (fun g2 => ?_) fun g2 => ?_
            · dsimp! []
              rw [decide_eq_true g2, Bool.true_and] at h
              exact ⟨by omega, h⟩
            · dsimp! []
              rw [decide_eq_false g2, Bool.false_and] at h
              exact h
          | _ => unfold wholeB; dsimp! []; exact h
        · dsimp! []
          refine sp_is_whole_any hb ?_
          cases b with
          | int o =>
            rw [against_si, if_neg g] at h
            unfold wholeB
            dsimp! []
            refine c_if (fun g2 => ?_) fun g2 => ?_
            · dsimp! []
              have g2 : ¬(2 ≤ o ∧ o ≤ (n : Int) - 2) := g2
              rw [decide_eq_false g2, Bool.false_and, Bool.false_and, ite_self, ite_self] at h
              exact h
            · have g2 : 2 ≤ o ∧ o ≤ (n : Int) - 2 := Decidable.not_not.mp g2
              rw [decide_eq_true g2, Bool.true_and, Bool.true_and] at h
              dsimp! []
              refine c_if (fun g3 => ?_) fun g3 => ?_
              · dsimp! []
                rw [if_pos g3] at h
                rw [show (n : Int) - 1 = ((n - 1 : Nat) : Int) by omega]
                refine sp_power_in (by omega) (by omega) ?_
                dsimp! []
                exact h
              · dsimp! []
                rw [if_neg g3] at h
                refine c_andV (fun g4 => ?_) fun g4 => ?_
                · dsimp! []
                  rw [if_pos g4] at h
                  exact ⟨mulOk_of (by omega) (by omega), by omega, h⟩
                · dsimp! []
                  rw [if_neg g4] at h
                  exact h
          | _ =>
            have hf : ∀ y, (∀ o, y ≠ PyData.int o) → againstB n (.tuple [.str w, y]) = false := fun y hy => by
              unfold againstB
              split
              · rename_i e
                cases e
                exact absurd rfl (hy _)
              · rfl
            rw [hf _ (by intro o e; cases e)] at h
            unfold wholeB; dsimp! []; exact h
      | _ => dsimp! []; exact h
  | _ =>
    generalize hz : tupB _ 2 2 = z
    cases z with
    | true => cases hz
    | false => dsimp! []; exact h
theorem sq_one {n : Nat} {o : Int} (h : 2 ≤ n) : (o * o - 1) % (n : Int) = 0 ↔ o * o % (n : Int) = 1 := by
  have h1 := Int.mul_ediv_add_emod (o * o) n
  have h2 := Int.emod_nonneg (o * o) (show (n : Int) ≠ 0 by omega)
  have h3 := Int.emod_lt_of_pos (o * o) (show (0 : Int) < n by omega)
  constructor
  · intro e
    obtain ⟨k, hk⟩ := Int.dvd_of_emod_eq_zero e
    rw [show o * o = 1 + (n : Int) * k by omega, Int.add_mul_emod_self_left]
    exact Int.emod_eq_of_lt (by decide) (by omega)
  · intro e
    rw [e] at h1
    rw [show o * o - 1 = (n : Int) * (o * o / n) by omega]
    exact Int.mul_emod_right _ _
theorem sp_is_paper_against {n : Nat} {x : PyData} {μ : Mu} {Q : KD} (h1 : 1 ≤ n) (hn : n ≤ 10 ^ 40) (hx : Plain x) (h : Q (.d (.bool (againstB n x))) μ) : w_is_paper_against [.d (.int n), .d x] μ Q := by
  refine i_is_paper_against ?_
  dsimp! [B_is_paper_against]
  refine sp_need_great (by omega) (by omega) ?_
  dsimp! []
  refine sp_is_against h1 hn hx ?_
  dsimp! []
  exact h
theorem sp_law_is_against {n : Nat} {x : PyData} {μ : Mu} {Q : KD} (h1 : 1 ≤ n) (hn : n ≤ 10 ^ 40) (hx : Plain x) (h : Q (.d (.bool (againstB n x))) μ) : w_law_is_against [.d (.int n), .d x] μ Q := by
  refine i_law_is_against ?_
  dsimp! [B_law_is_against]
  cases x with
  | dict kvs => exact absurd rfl (hx.1 kvs)
  | tuple xs =>
    dsimp! []
    match xs, hx, h with
    | [], hx, h =>
      dsimp! []
      refine c_or (fun g => ?_) fun g => absurd (by decide) g
      dsimp! []
      exact h
    | [a], hx, h =>
      rw [show againstB n (.tuple [a]) = false by unfold againstB; split <;> first | rfl | (rename_i e; cases e)] at h
      dsimp! []
      refine c_or (fun g => ?_) fun g => absurd (by decide) g
      dsimp! []
      exact h
    | a :: b :: c :: r, hx, h =>
      rw [show againstB n (.tuple (a :: b :: c :: r)) = false by unfold againstB; split <;> first | rfl | (rename_i e; cases e)] at h
      dsimp! []
      refine c_or (fun g => ?_) fun g => absurd (by omega) g
      dsimp! []
      exact h
    | [a, b], hx, h =>
      have ha : ∀ kvs, a ≠ .dict kvs := hx.2 _ rfl a (by simp)
      have hb : ∀ kvs, b ≠ .dict kvs := hx.2 _ rfl b (by simp)
      dsimp! []
      refine sp_law_sort ha ?_
      dsimp! []
      cases a with
      | dict kvs => exact absurd rfl (ha kvs)
      | str w =>
        dsimp! [sortOf]
        refine sp_law_sort hb ?_
        dsimp! []
        cases b with
        | dict kvs => exact absurd rfl (hb kvs)
        | int o =>
          rw [against_si] at h
          dsimp! [sortOf]
          refine c_if (fun g => ?_) fun g => ?_
          · dsimp! []
            rw [if_pos g] at h
            refine c_andV (fun g2 => ?_) fun g2 => ?_
            · dsimp! []
              rw [decide_eq_true (by omega), Bool.true_and] at h
              exact ⟨by omega, h⟩
            · dsimp! []
              rw [decide_eq_false (by omega), Bool.false_and] at h
              exact h
          · dsimp! []
            rw [if_neg g] at h
            refine c_if (fun g3 => ?_) fun g3 => ?_
            · dsimp! []
              rw [if_pos g3] at h
              refine c_ch (fun g2 => ?_) fun g2 => ?_
              · dsimp! []
                refine c_andV (fun g5 => ?_) fun g5 => ?_
                · dsimp! []
                  rw [decide_eq_true (by omega), Bool.true_and] at h
                  rw [show (n : Int) - 1 = ((n - 1 : Nat) : Int) by omega]
                  refine sp_law_power (by omega) (by omega) ?_
                  dsimp! []
                  exact h
                · dsimp! []
                  rw [decide_eq_false (by omega), Bool.false_and] at h
                  exact h
              · dsimp! []
                rw [decide_eq_false (by omega), Bool.false_and] at h
                exact h
            · dsimp! []
              rw [if_neg g3] at h
              refine c_andV (fun g4 => ?_) fun g4 => ?_
              · dsimp! []
                rw [if_pos g4] at h
                refine c_ch (fun g2 => ?_) fun g2 => ?_
                · dsimp! []
                  refine c_andV (fun g5 => ?_) fun g5 => ?_
                  · dsimp! []
                    rw [decide_eq_true (by omega), Bool.true_and] at h
                    refine ⟨mulOk_of (by omega) (by omega), by omega, ?_⟩
                    rw [decide_eq_decide.mpr (sq_one (show 2 ≤ n by omega))]
                    exact h
                  · dsimp! []
                    rw [decide_eq_false (by omega), Bool.false_and] at h
                    exact h
                · dsimp! []
                  rw [decide_eq_false (by omega), Bool.false_and] at h
                  exact h
              · dsimp! []
                rw [if_neg g4] at h
                exact h
        | _ => dsimp! [sortOf]; exact h
      | _ => dsimp! [sortOf]; exact h
  | _ => dsimp! []; exact h
theorem plain_flat {x : PyData} (h : ∀ xs, x ≠ .tuple xs) (h2 : ∀ kvs, x ≠ .dict kvs) : Plain x := ⟨h2, fun xs e => absurd e (h xs)⟩
theorem sp_paper_against {n : Nat} {μ : Mu} {Q : KD} (h1 : 1 ≤ n) (hn : n ≤ 10 ^ 10) (ha : PM.Prm n ∨ n = 1 → Q (.d .none) μ) (hb : ¬PM.Prm n → n ≠ 1 → ∀ d : Nat, 2 ≤ d → d ∣ n → PM.Rough n d → Q (.d (.tuple [.str "divisor", .int d])) μ) : w_paper_against [.d (.int n)] μ Q := by
  refine i_paper_against ?_
  dsimp! [B_paper_against]
  refine sp_need_number (by omega) (by omega) ?_
  dsimp! []
  refine c_or (fun g => ?_) fun g => ?_
  · dsimp! []
    exact ha (.inr (by omega))
  · dsimp! []
    refine sp_is_prime_in h1 (by omega) ?_
    by_cases hp : PM.Prm n
    · rw [decide_eq_true hp]
      dsimp! []
      exact ha (.inl hp)
    · rw [decide_eq_false hp]
      dsimp! []
      refine sp_least_factor (by omega) (fun d hd _ => ?_) h1
      obtain ⟨d2, d3, d4⟩ := hd (by omega)
      dsimp! []
      exact hb hp (by omega) d d2 d3 d4
def noD : PyData → Bool
  | .dict _ => false
  | _ => true
theorem noD_ok {x : PyData} (h : noD x = true) : ∀ kvs, x ≠ .dict kvs := by
  rintro kvs rfl
  cases h
def plainB (x : PyData) : Bool := noD x && match x with
  | .tuple xs => xs.all noD
  | _ => true
theorem plainB_ok {x : PyData} (h : plainB x = true) : Plain x := by
  unfold plainB at h
  rw [Bool.and_eq_true] at h
  refine ⟨noD_ok h.1, ?_⟩
  rintro xs rfl y hy
  exact noD_ok (List.all_eq_true.mp h.2 y hy)
theorem plain_tup {xs : List PyData} (h : ∀ y ∈ xs, ∀ kvs, y ≠ .dict kvs) : Plain (.tuple xs) := ⟨fun _ => nofun, fun ys e => by cases e; exact h⟩
theorem sp_bent_flat {k : Nat} {x : PyData} {c : Cel} {ν : Mu} {Q : KD} (hc : CupV c) (hx : (∃ i, x = .int i) ∨ ∃ s, x = .str s) (h : ∀ y c', Plain y → CupV c' → Q (.d y) (c' :: ν)) : w_law_bent (k + 1) [.loc 0, .d x] (c :: ν) Q := by
  refine i_law_bent ?_
  dsimp! [B_law_bent]
  rcases hx with ⟨i, rfl⟩ | ⟨s, rfl⟩
  · dsimp! []
    refine sp_law_sort (fun _ => nofun) ?_
    dsimp! [sortOf]
    refine sp_law_some hc (divOk_of (by simp) (by simp)) fun y hy c' hc' => ?_
    dsimp! []
    refine h y c' ?_ hc'
    simp only [List.mem_cons, List.not_mem_nil, or_false] at hy
    rcases hy with rfl | rfl | rfl | rfl | rfl | rfl | rfl | rfl | rfl | rfl | rfl | rfl | rfl | rfl | rfl | rfl | rfl <;> exact plainB_ok rfl
  · dsimp! []
    refine sp_law_sort (fun _ => nofun) ?_
    dsimp! [sortOf]
    refine sp_law_some hc (divOk_of (by simp) (by simp)) fun y hy c' hc' => ?_
    dsimp! []
    refine h y c' ?_ hc'
    simp only [List.mem_cons, List.not_mem_nil, or_false] at hy
    rcases hy with rfl | rfl | rfl | rfl | rfl | rfl | rfl | rfl | rfl | rfl | rfl | rfl | rfl | rfl <;> exact plainB_ok rfl
theorem cut_a {a b : PyData} : cutD [a, b] none (some 0) = [] := rfl
theorem cut_b {a b : PyData} : cutD [a, b] (some (0 + 1)) none = [b] := rfl
theorem cut_c {a b : PyData} : cutD [a, b] none (some (0 + 1)) = [a] := rfl
theorem cut_d {a b : PyData} : cutD [a, b] (some 0) none = [a, b] := rfl
theorem cut_e {a b : PyData} : cutD [a, b] none (some 1) = [a] := rfl
theorem cut_f {a b : PyData} : cutD [a, b] (some (1 + 1)) none = [] := rfl
theorem cut_g {a b : PyData} : cutD [a, b] none (some (1 + 1)) = [a, b] := rfl
theorem cut_h {a b : PyData} : cutD [a, b] (some 1) none = [b] := rfl
theorem at_0 {a b c d : PyData} : atI [a, b, c, d] 0 = some a := rfl
theorem at_1 {a b c d : PyData} : atI [a, b, c, d] 1 = some b := rfl
theorem at_2 {a b c d : PyData} : atI [a, b, c, d] 2 = some c := rfl
theorem at_3 {a b c d : PyData} : atI [a, b, c, d] 3 = some d := rfl
theorem sp_bent_pair {k : Nat} {o : Int} {c : Cel} {ν : Mu} {Q : KD} (hc : CupV c) (h : ∀ y c', Plain y → CupV c' → Q (.d y) (c' :: ν)) : w_law_bent (k + 2) [.loc 0, .d (.tuple [.str "divisor", .int o])] (c :: ν) Q := by
  refine i_law_bent ?_
  dsimp! [B_law_bent]
  refine ⟨by simp [SeqAt.shaped, PyData.canLay0, PyData.canLayAll0, PyData.depth, PyData.depthAll]; decide +kernel, ?_⟩
  refine sp_law_roll hc (divOk_of (by decide) (by decide)) fun r c1 r0 r1 hc1 => ?_
  dsimp! []
  refine c_if (fun g => ?_) fun g => ?_
  · dsimp! []
    refine sp_law_sort (fun _ => nofun) ?_
    dsimp! [sortOf]
    refine sp_law_some hc1 (divOk_of (by simp) (by simp)) fun y hy c' hc' => ?_
    dsimp! []
    refine h y c' ?_ hc'
    simp only [List.mem_cons, List.not_mem_nil, or_false] at hy
    rcases hy with rfl | rfl | rfl | rfl | rfl | rfl | rfl | rfl | rfl | rfl | rfl | rfl | rfl | rfl <;> exact plainB_ok rfl
  dsimp! []
  refine sp_law_roll hc1 (divOk_of (by decide) (by decide)) fun at' c2 a0 a1 hc2 => ?_
  dsimp! []
  refine sp_law_roll hc2 (divOk_of (by decide) (by decide)) fun way c3 w0 w1 hc3 => ?_
  dsimp! []
  have ha : at' = 0 ∨ at' = 1 := by omega
  refine c_if (fun g2 => ?_) fun g2 => ?_
  · have hw : way = 0 ∨ way = 1 ∨ way = 2 ∨ way = 3 := by omega
    clear g2 w0 w1 a0 a1
    dsimp! []
    rcases ha with rfl | rfl
    · rw [cut_a, cut_b, cut_c, cut_d]
      refine ⟨by simp, by simp, ?_⟩
      rcases hw with rfl | rfl | rfl | rfl
      · rw [at_0]; dsimp! []; exact h _ _ (plainB_ok (x := .tuple [.int o]) rfl) hc3
      · rw [at_1]; dsimp! []; exact h _ _ (plainB_ok (x := .tuple [.str "divisor", .str "divisor", .int o]) rfl) hc3
      · rw [at_2]; dsimp! []; exact h _ _ (plainB_ok (x := .list [.str "divisor", .int o]) rfl) hc3
      · rw [at_3]; dsimp! []; exact h _ _ (plainB_ok (x := .tuple [.int o, .str "divisor"]) rfl) hc3
    · rw [cut_e, cut_f, cut_g, cut_h]
      refine ⟨by simp, by simp, ?_⟩
      rcases hw with rfl | rfl | rfl | rfl
      · rw [at_0]; dsimp! []; exact h _ _ (plainB_ok (x := .tuple [.str "divisor"]) rfl) hc3
      · rw [at_1]; dsimp! []; exact h _ _ (plainB_ok (x := .tuple [.str "divisor", .int o, .int o]) rfl) hc3
      · rw [at_2]; dsimp! []; exact h _ _ (plainB_ok (x := .list [.str "divisor", .int o]) rfl) hc3
      · rw [at_3]; dsimp! []; exact h _ _ (plainB_ok (x := .tuple [.int o, .str "divisor"]) rfl) hc3
  · rcases ha with rfl | rfl
    · dsimp! []
      refine sp_bent_flat hc3 (.inr ⟨_, rfl⟩) fun y c4 hy hc4 => ?_
      dsimp! []
      rw [cut_a, cut_h]
      refine ⟨by simp, by simp, h _ _ (plain_tup (xs := [y, .int o]) fun z hz => ?_) hc4⟩
      simp only [List.mem_cons, List.not_mem_nil, or_false] at hz
      rcases hz with rfl | rfl
      · exact hy.1
      · exact fun _ => nofun
    · dsimp! []
      refine sp_bent_flat hc3 (.inl ⟨_, rfl⟩) fun y c4 hy hc4 => ?_
      dsimp! []
      rw [cut_e, show cutD [PyData.str "divisor", PyData.int o] (some 2) none = [] from rfl]
      refine ⟨by simp, by simp, h _ _ (plain_tup (xs := [.str "divisor", y]) fun z hz => ?_) hc4⟩
      simp only [List.mem_cons, List.not_mem_nil, or_false] at hz
      rcases hz with rfl | rfl
      · exact fun _ => nofun
      · exact hy.1
abbrev restB : DS := (dSeq (dSet (dLoc (dLst (dCons (dVar 4) (dCons (dRev (dVar 4)) (dCons (dSnap (dnList (dCons (dVar 4) dNil))) (dCons (dSlice (dVar 4) dNoPart (dPart (dC (.int 1)))) (dCons (dOp gAdd (dVar 4) (dTup (dCons (dC (.int 1)) dNil))) (dCons (dC .none) (dCons (dTup dNil) (dCons (dC (.int 0)) (dCons (dTup (dCons (dC (.str "divisor")) (dCons (dC (.int 1)) dNil))) (dCons (dTup (dCons (dC (.str "divisor")) (dCons (dVar 1) dNil))) (dCons (dTup (dCons (dC (.str "divisor")) (dCons (dC (.bool true)) dNil))) dNil))))))))))))) 5) (dSeq (dSet (dLoc (dnCat (dVar 5) (dSnap (dLst (dCons (dTup (dCons (dC (.str "Divisor")) (dCons (dOp gIx (dVar 4) (dC (.int 1))) dNil))) (dCons (dTup (dCons (dC (.int 0)) (dCons (dC (.int 2)) dNil))) (dCons (dTup (dCons (dC (.str "power")) (dCons (dC (.int 1)) dNil))) (dCons (dTup (dCons (dC (.str "power")) (dCons (dOp gMinus (dVar 1) (dC (.int 1))) dNil))) (dCons (dTup (dCons (dC (.str "square")) (dCons (dOp gMinus (dVar 1) (dC (.int 1))) dNil))) (dCons (dTup (dCons (dC (.str "square")) (dCons (dC (.int 1)) dNil))) dNil)))))))))) 5) (dSeq (dFor (dIt (dTup (dCons (dC (.str "divisor")) (dCons (dC (.str "power")) (dCons (dC (.str "square")) dNil))))) (dgName 6) (dFor (dRng1 (dCons (dC (.int 3)) dNil)) (dgName 7) (dDrop (dAppend (dVar 5) (dCons (dTup (dCons (dVar 6) (dCons (dCall w_law_roll (dCons (dVar 0) (dCons (dOp gAdd (dVar 1) (dC (.int 1))) dNil))) dNil))) dNil))))) (dSeq (dSet (dC (.int 1)) 8) (dSeq (dFor (dIt (dSlice (dSnap (dLc (dIt (dCall w_divisors_of (dCons (dVar 1) dNil))) (dgName 12) (dB (dOp gLe (dOp gMul (dVar 12) (dVar 12)) (dVar 1))) (dVar 12) [12])) dNoPart (dPart (dC (.int 6))))) (dgName 9) (dSeq (dSet (dCb gInt1 (dCons (dOp gDiv (dVar 1) (dVar 9)) dNil)) 10) (dIfS (dB (dOp gEq (dCall w_law_divisor (dCons (dVar 9) (dCons (dVar 10) dNil))) (dC (.int 1)))) (dSeq (dSet (dIf (dAnd (dB (dOp gGt (dVar 1) (dC (.int 1)))) (dAnd (dB (dOp gLt (dVar 1) (dC (.int 20000)))) (dB (dOp gGt (dVar 9) (dC (.int 1)))))) (dOp gIx (dSnap (dLc (dRng3 (dCons (dC (.int 1)) (dCons (dVar 1) (dCons (dVar 9) dNil)))) (dgName 13) (dB (dOp gEq (dOp gMod (dCb gInt1 (dCons (dOp gAdd (dVar 13) (dC (.int 1))) dNil)) (dVar 10)) (dC (.int 0)))) (dVar 13) [13])) (dC (.int 0))) (dVar 8)) 8) (dDrop (dAppend (dVar 5) (dCons (dTup (dCons (dC (.str "square")) (dCons (dVar 8) dNil))) dNil)))) dNext))) (dSeq (dFor (dIt (dOp gAdd (dVar 5) (dSnap (dLst (dCons (dCall (w_law_bent 6) (dCons (dVar 0) (dCons (dVar 4) dNil))) (dCons (dCall (w_law_bent 6) (dCons (dVar 0) (dCons (dVar 4) dNil))) dNil)))))) (dgName 11) (dIfS (dNot (dB (dCall (w_law_like 6) (dCons (dCall w_is_paper_against (dCons (dVar 1) (dCons (dVar 11) dNil))) (dCons (dCall w_law_is_against (dCons (dVar 1) (dCons (dVar 11) dNil))) dNil))))) (dRet (dC (.bool false))) dNext)) (dRet (dC (.bool true)))))))))
theorem c_anyP {cond : Prop} {a : Prop} [Decidable a] {wa wb : DE} {wu : DT} {σ : Sl} {Q : KD} {μ : Mu} (P : SV → Mu → Prop) (hw : a → ∀ K : Bool → Mu → Prop, (cond → K true μ) → K false μ → wu σ μ K) (h1 : cond → ∀ K : KD, (∀ x ν, P x ν → K x ν) → wa σ μ K) (h2 : ∀ K : KD, (∀ x ν, P x ν → K x ν) → wb σ μ K) (h : ∀ x ν, P x ν → Q x ν) : kAnd wu σ (kIfE wa wb σ Q) (decide a) μ :=
  c_and (fun ga => hw ga _ (fun c => by rw [k_ifEt]; exact h1 c Q h) (by rw [k_ifEf]; exact h2 Q h)) fun _ => by
    rw [k_ifEf]
    exact h2 Q h
theorem crt_ex {p q : Nat} (hp : 1 < p) (hq : 1 ≤ q) (hc : Nat.gcd p q = 1) : ∃ k, k < q ∧ (1 + k * p + 1) % q = 0 := by
  obtain ⟨i, hi, e⟩ := PM.inv_ex hq hc
  refine ⟨(i * (2 * q - 2)) % q, Nat.mod_lt _ hq, ?_⟩
  have h1 : ((i * (2 * q - 2)) % q * p) % q = (2 * q - 2) % q := by
    rw [Nat.mod_mul_mod, Nat.mul_right_comm, Nat.mul_comm i p, Nat.mul_mod, e, ← Nat.mul_mod, Nat.one_mul]
  rw [show 1 + (i * (2 * q - 2)) % q * p + 1 = (i * (2 * q - 2)) % q * p + 2 by omega, Nat.add_mod, h1, ← Nat.add_mod, show 2 * q - 2 + 2 = q * 2 by omega, Nat.mul_mod_right]
theorem add_loc {k : Nat} {μ : Mu} {Q : KD} {xs ys : List PyData} (h : μ[k]? = some (.lst xs)) (a : xs.length + ys.length ≤ sizeLine) (b : Q (.d (.list (xs ++ ys))) μ) : gAdd (.loc k) (.d (.list ys)) μ Q := by
  unfold gAdd
  simp only [v_at, h, v_lst, v_at1]
  exact ⟨a, b⟩
theorem at_cell {c zc : Cel} {ν : Mu} {xs : List PyData} : (c :: (ν ++ [zc, Cel.lst xs]))[ν.length + 1 + 1]? = some (Cel.lst xs) := by
  rw [List.getElem?_cons_succ, List.getElem?_append_right (by omega), show ν.length + 1 - ν.length = 1 by omega]
  rfl
theorem right_rest {n o : Nat} {o2 o3 : Option SV} {c : Cel} {ν : Mu} {Q : KD} (h1 : 1 ≤ n) (hn : n ≤ 10 ^ 6) (hc : CupV c) (h : ∀ c', CupV c' → Q (.d (.bool true)) (c' :: ν)) : restB (fnEnds false (ν.length + 1) Q) [some (.loc 0), some (.d (.int n)), o2, o3, some (.d (.tuple [.str "divisor", .int o])), none, none, none, none, none, none, none, none, none] (c :: ν) := by
  dsimp! [restB]
  generalize Cel.lst [PyData.tuple [PyData.str "divisor", PyData.int (o : Int)], _, _, _, _, _, _, _, _, _, _] = zc
  have pT : ∀ {a b : PyData}, (∀ kvs, a ≠ .dict kvs) → (∀ kvs, b ≠ .dict kvs) → Plain (.tuple [a, b]) := fun {a b} ha hb => plain_tup fun y hy => by
    simp only [List.mem_cons, List.not_mem_nil, or_false] at hy
    rcases hy with rfl | rfl
    · exact ha
    · exact hb
  refine i_loop (I := fun rest σ μ' => ∃ (c : Cel) (xs : List PyData) (o6 o7 : Option SV), μ' = c :: (ν ++ [zc, .lst xs]) ∧ CupV c ∧ (∀ x ∈ xs, Plain x) ∧ xs.length + 3 * rest.length ≤ 26 ∧ (∀ z ∈ rest, ∃ w, z = .str w) ∧ σ = [some (.loc 0), some (.d (.int n)), o2, o3, some (.d (.tuple [.str "divisor", .int o])), some (.loc (ν.length + 1 + 1)), o6, o7, none, none, none, none, none, none]) ⟨c, _, _, _, rfl, hc, fun x hx => plainB_ok (List.all_eq_true.mp rfl x hx), by simp, ?_, rfl⟩ ?_ ?_
  · intro z hz
    simp only [List.mem_cons, List.not_mem_nil, or_false] at hz
    rcases hz with rfl | rfl | rfl <;> exact ⟨_, rfl⟩
  · rintro σ μ' ⟨c, xs, o6, o7, rfl, hc, hxs, hlen, _, rfl⟩
    dsimp! []
    refine sp_divisors_of h1 (by omega) ?_
    dsimp! []
    have hdl : (PM.divs n).length ≤ n + 1 := by
      unfold PM.divs
      have := List.length_filter_le (fun d => decide (1 ≤ d ∧ d ∣ n)) (List.range (n + 1))
      rw [List.length_range] at this
      exact this
    refine i_fp (l := PM.divs n) (fun d : Nat => PyData.int (d : Int)) (fun d => decide (d * d ≤ n)) (fun d : Nat => PyData.int (d : Int)) (by rw [sz_line]; omega) (fun d hd T E hT hE => ?_) ?_
    · have := Nat.le_of_dvd h1 ((PM.mem_divs h1).mp hd)
      dsimp! []
      refine ⟨mulOk_of (by omega) (by omega), ?_⟩
      refine c_co (fun g => ?_) fun g => ?_
      · dsimp! []
        rw [← Int.natCast_mul] at g
        exact hT (decide_eq_true (by omega))
      · rw [← Int.natCast_mul] at g
        exact hE (decide_eq_false (by omega))
    dsimp! []
    rw [show ((PM.divs n).filter fun d => decide (d * d ≤ n)).map (fun d : Nat => PyData.int (d : Int)) = intsD ((PM.divs n).filter fun d => decide (d * d ≤ n)) from rfl, show cutD (intsD ((PM.divs n).filter fun d => decide (d * d ≤ n))) none (some 6) = (intsD ((PM.divs n).filter fun d => decide (d * d ≤ n))).take 6 from cut_to (n := 6)]
    obtain ⟨ls, hls⟩ : ∃ ls, ls = ((PM.divs n).filter fun d => decide (d * d ≤ n)).take 6 := ⟨_, rfl⟩
    rw [show (intsD ((PM.divs n).filter fun d => decide (d * d ≤ n))).take 6 = intsD ls by rw [hls]; unfold intsD; rw [List.map_take]]
    have hl6 : ls.length ≤ 6 := by rw [hls, List.length_take]; omega
    have hlm : ∀ d ∈ ls, d ∣ n ∧ d * d ≤ n := fun d hd => by
      rw [hls] at hd
      have h2 := List.mem_of_mem_take hd
      rw [List.mem_filter, decide_eq_true_eq] at h2
      exact ⟨(PM.mem_divs h1).mp h2.1, h2.2⟩
    clear hls
    refine i_loopE (fun d : Nat => PyData.int (d : Int)) (fun rest σ μ' => ∃ (xs : List PyData) (i : Int) (o9 o10 : Option SV), μ' = c :: (ν ++ [zc, .lst xs]) ∧ (∀ x ∈ xs, Plain x) ∧ xs.length + rest.length ≤ 32 ∧ (∀ d ∈ rest, d ∣ n ∧ d * d ≤ n) ∧ σ = [some (.loc 0), some (.d (.int n)), o2, o3, some (.d (.tuple [.str "divisor", .int o])), some (.loc (ν.length + 1 + 1)), o6, o7, some (.d (.int i)), o9, o10, none, none, none]) ⟨xs, 1, _, _, rfl, hxs, by simp at hlen; omega, hlm, rfl⟩ ?_ ?_
    · rintro σ μ' ⟨xs, i, o9, o10, rfl, hxs, hlen, _, rfl⟩
      dsimp! []
      refine sp_bent_pair (k := 4) hc fun y c1 hy hc1 => ?_
      dsimp! []
      refine sp_bent_pair (k := 4) hc1 fun y2 c2 hy2 hc2 => ?_
      dsimp! []
      refine add_loc at_cell (by rw [sz_line]; simp at hlen ⊢; omega) ?_
      dsimp! []
      refine i_loop (I := fun rest σ μ' => μ' = c2 :: (ν ++ [zc, .lst xs]) ∧ (∀ x ∈ rest, Plain x) ∧ ∃ o11 : Option SV, σ = [some (.loc 0), some (.d (.int n)), o2, o3, some (.d (.tuple [.str "divisor", .int o])), some (.loc (ν.length + 1 + 1)), o6, o7, some (.d (.int i)), o9, o10, o11, none, none]) ⟨rfl, ?_, _, rfl⟩ ?_ ?_
      · intro x hx
        rcases List.mem_append.mp hx with z | z
        · exact hxs x z
        · simp only [List.mem_cons, List.not_mem_nil, or_false] at z
          rcases z with rfl | rfl
          · exact hy
          · exact hy2
      · rintro σ μ' ⟨rfl, _, o11, rfl⟩
        dsimp! []
        exact h _ hc2
      · rintro x r σ μ' ⟨rfl, hr, o11, rfl⟩ N hN
        have hx := hr x List.mem_cons_self
        dsimp! []
        refine sp_is_paper_against h1 (by omega) hx ?_
        dsimp! []
        refine sp_law_is_against h1 (by omega) hx ?_
        dsimp! []
        refine sp_law_like trivial ?_
        dsimp! []
        exact hN _ _ ⟨rfl, fun y hy => hr y (List.mem_cons_of_mem _ hy), _, rfl⟩
    · rintro p r σ μ' ⟨xs, i, o9, o10, rfl, hxs, hlen, hr, rfl⟩ N hN
      obtain ⟨hpd, hpp⟩ := hr p List.mem_cons_self
      have p1 := Nat.pos_of_dvd_of_pos hpd h1
      have pn := Nat.le_of_dvd h1 hpd
      obtain ⟨q, hq⟩ := hpd
      have q1 : 1 ≤ q := by
        rcases Nat.eq_zero_or_pos q with z | z
        · rw [z, Nat.mul_zero] at hq; omega
        · exact z
      have hdiv : (n : Int) / (p : Int) = (q : Nat) := by
        rw [hq, ← Int.natCast_ediv, Nat.mul_div_cancel_left q p1]
      dsimp! []
      refine ⟨divOk_of (by omega) (by omega), ?_⟩
      rw [hdiv]
      dsimp! []
      refine sp_law_divisor ?_
      rw [Int.gcd_natCast_natCast]
      dsimp! []
      have nx : ∀ (o10 : Option SV) (j : Int) (ys : List PyData), ys = xs ∨ (∃ j : Int, ys = xs ++ [.tuple [.str "square", .int j]]) → N [some (.loc 0), some (.d (.int n)), o2, o3, some (.d (.tuple [.str "divisor", .int o])), some (.loc (ν.length + 1 + 1)), o6, o7, some (.d (.int j)), some (.d (.int p)), o10, none, none, none] (c :: (ν ++ [zc, .lst ys])) := fun o10 j ys hys => by
        rw [List.length_cons] at hlen
        refine hN _ _ ⟨ys, j, _, _, rfl, ?_, ?_, fun d hd => hr d (List.mem_cons_of_mem _ hd), rfl⟩
        · rcases hys with rfl | ⟨j, rfl⟩
          · exact hxs
          · intro x hx
            rcases List.mem_append.mp hx with z | z
            · exact hxs x z
            · rw [List.mem_singleton] at z
              subst z
              exact pT (fun _ => nofun) fun _ => nofun
        · rcases hys with rfl | ⟨j, rfl⟩
          · omega
          · rw [List.length_append, List.length_singleton]; omega
      refine c_if (fun g => ?_) fun g => ?_
      · have hg : Nat.gcd p q = 1 := by omega
        dsimp! []
        refine c_anyP (cond := 1 < n ∧ 1 < p ∧ n < 20000) (fun x ν' => ν' = c :: (ν ++ [zc, .lst xs]) ∧ ∃ j : Int, x = .d (.int j)) (fun g1 K h1 h2 => ?_) (fun hc3 K hK => ?_) (fun K hK => ?_) ?_
        · dsimp! []
          refine c_and (fun g2 => ?_) fun g2 => ?_
          · dsimp! []
            refine c_dec K (fun g3 => ?_) fun g3 => ?_
            · exact h1 ⟨by omega, by omega, by omega⟩
            · exact h2
          · exact h2
        · obtain ⟨n1, p1', n2⟩ := hc3
          dsimp! []
          have hr2 := rng_up (i := 1) (j := n) (c := p) p1 (by omega) (by omega) (by omega)
          refine ⟨hr2.1, ?_⟩
          have hcnt : (Builtin.Range.rangeSize 1 (n : Int) (p : Int)).toNat = (n - 1 - 1) / p + 1 := by
            have := hr2.2
            rw [if_pos n1] at this
            exact this
          obtain ⟨ws, hws⟩ : ∃ ws, ws = (List.range ((n - 1 - 1) / p + 1)).map fun k => 1 + k * p := ⟨_, rfl⟩
          rw [hcnt, show rngD 1 (p : Int) ((n - 1 - 1) / p + 1) = ws.map fun d : Nat => PyData.int (d : Int) by
            rw [hws]
            unfold rngD
            rw [List.map_map]
            refine List.map_congr_left fun k _ => ?_
            show PyData.int ((1 : Int) + (k : Int) * (p : Int)) = PyData.int ((1 + k * p : Nat) : Int)
            rw [Int.natCast_add, Int.natCast_mul]
            rfl]
          have hwl : ws.length ≤ 20000 := by
            rw [hws, List.length_map, List.length_range]
            have := Nat.div_le_self (n - 1 - 1) p
            omega
          refine i_fp (l := ws) (fun d : Nat => PyData.int (d : Int)) (fun d => decide ((d + 1) % q = 0)) (fun d : Nat => PyData.int (d : Int)) (by rw [sz_line]; omega) (fun d hd T E hT hE => ?_) ?_
          · dsimp! []
            refine ⟨by omega, ?_⟩
            rw [show ((d : Int) + 1) % (q : Int) = (((d + 1) % q : Nat) : Int) by rw [Int.natCast_emod, Int.natCast_add]; rfl]
            refine c_co (fun z => ?_) fun z => ?_
            · dsimp! []
              exact hT (decide_eq_true (by omega))
            · exact hE (decide_eq_false (by omega))
          have hne : (ws.filter fun d => decide ((d + 1) % q = 0)) ≠ [] := by
            obtain ⟨k, hk, e⟩ := crt_ex p1' q1 hg
            refine List.ne_nil_of_mem (a := 1 + k * p) ?_
            rw [List.mem_filter, decide_eq_true_eq, hws]
            refine ⟨List.mem_map.mpr ⟨k, List.mem_range.mpr ?_, rfl⟩, e⟩
            have h5 : k * p ≤ (q - 1) * p := Nat.mul_le_mul_right p (by omega)
            have h6 : (q - 1) * p + p = p * q := by rw [← Nat.succ_mul, Nat.succ_eq_add_one, Nat.sub_add_cancel q1, Nat.mul_comm]
            have : k ≤ (n - 1 - 1) / p := (Nat.le_div_iff_mul_le p1).mpr (by omega)
            omega
          obtain ⟨a, l, el⟩ := List.exists_cons_of_ne_nil hne
          rw [el]
          dsimp! []
          exact hK _ _ ⟨rfl, _, rfl⟩
        · dsimp! []
          exact hK _ _ ⟨rfl, _, rfl⟩
        rintro x ν' ⟨rfl, j, rfl⟩
        dsimp! []
        refine ⟨by simp at hlen; omega, ?_⟩
        exact nx _ j _ (.inr ⟨j, rfl⟩)
      · dsimp! []
        exact nx _ i xs (.inl rfl)
  · rintro z rest σ μ' ⟨c, xs, o6, o7, rfl, hc, hxs, hlen, hz, rfl⟩ N hN
    obtain ⟨w, rfl⟩ := hz z List.mem_cons_self
    dsimp! []
    refine ⟨by unfold RngOk; omega, ?_⟩
    rw [List.length_cons] at hlen
    refine i_rng (I := fun j σ μ' => ∃ (c : Cel) (xs : List PyData) (o7 : Option SV), μ' = c :: (ν ++ [zc, .lst xs]) ∧ CupV c ∧ (∀ x ∈ xs, Plain x) ∧ xs.length + (3 - j) + 3 * rest.length ≤ 26 ∧ σ = [some (.loc 0), some (.d (.int n)), o2, o3, some (.d (.tuple [.str "divisor", .int o])), some (.loc (ν.length + 1 + 1)), some (.d (.str w)), o7, none, none, none, none, none, none]) ⟨c, xs, _, rfl, hc, hxs, by omega, rfl⟩ ?_ ?_
    · rintro σ μ' ⟨c, xs, o7, rfl, hc, hxs, hlen, rfl⟩
      exact hN _ _ ⟨c, xs, _, _, rfl, hc, hxs, by omega, fun z hz' => hz z (List.mem_cons_of_mem _ hz'), rfl⟩
    · rintro j hj σ μ' ⟨c, xs, o7, rfl, hc, hxs, hlen, rfl⟩ N2 hN2
      dsimp! []
      refine sp_law_roll hc (divOk_of (by omega) (by omega)) fun r c1 r0 r1 hc1 => ?_
      dsimp! []
      refine ⟨by omega, ?_⟩
      exact hN2 _ _ ⟨c1, _, _, rfl, hc1, fun x hx => by
        rcases List.mem_append.mp hx with z | z
        · exact hxs x z
        · rw [List.mem_singleton] at z
          subst z
          exact pT (fun _ => nofun) fun _ => nofun, by rw [List.length_append, List.length_singleton]; omega, rfl⟩
theorem sp_law_right {n : Nat} {c : Cel} {ν : Mu} {Q : KD} (h1 : 1 ≤ n) (hn : n ≤ 10 ^ 6) (hc : CupV c) (h : ∀ c', CupV c' → Q (.d (.bool true)) (c' :: ν)) : w_law_right [.loc 0, .d (.int n)] (c :: ν) Q := by
  refine i_law_right ?_
  dsimp! [B_law_right]
  refine sp_paper_against h1 (by omega) (fun hp => ?_) fun hp n1 d d2 hd hr => ?_
  · dsimp! []
    refine sp_law_is_prime (by omega) ?_
    rw [Int.toNat_natCast]
    dsimp! []
    by_cases hq : PM.Prm n
    · rw [decide_eq_true hq]
      dsimp! []
      refine sp_is_prime h1 (by omega) ?_
      rw [decide_eq_true hq]
      dsimp! []
      have q := right_rest (o := n) (o2 := some (.d .none)) (o3 := some (.d (.bool true))) h1 hn hc h
      revert q
      dsimp! [restB]
      all_goals exact fun q => q
    · have e1 : n = 1 := hp.resolve_left hq
      rw [decide_eq_false hq]
      dsimp! []
      rw [decide_eq_true (show (n : Int) = 1 by omega)]
      dsimp! []
      refine sp_is_prime h1 (by omega) ?_
      rw [decide_eq_false hq]
      dsimp! []
      have q := right_rest (o := n) (o2 := some (.d .none)) (o3 := some (.d (.bool false))) h1 hn hc h
      revert q
      dsimp! [restB]
      all_goals exact fun q => q
  · dsimp! []
    refine sp_law_is_prime (by omega) ?_
    rw [Int.toNat_natCast, decide_eq_false hp]
    dsimp! []
    rw [decide_eq_false (show ¬(n : Int) = 1 by omega)]
    dsimp! []
    refine sp_is_prime h1 (by omega) ?_
    rw [decide_eq_false hp]
    dsimp! []
    have hdn : d < n := by
      have := Nat.le_of_dvd h1 hd
      rcases Nat.lt_or_ge d n with q | q
      · exact q
      · have e : d = n := by omega
        exact absurd (e ▸ PM.rough_prm d2 hr hd) hp
    refine sp_law_is_against h1 (by omega) (plain_tup fun y hy => by
      simp only [List.mem_cons, List.not_mem_nil, or_false] at hy
      rcases hy with rfl | rfl <;> exact fun _ => nofun) ?_
    rw [against_si, if_pos rfl, decide_eq_true (show (2 : Int) ≤ d ∧ (d : Int) ≤ (n : Int) - 1 by omega), decide_eq_true (show (n : Int) % (d : Int) = 0 from Int.emod_eq_zero_of_dvd (Int.natCast_dvd_natCast.mpr hd))]
    dsimp! []
    have q := right_rest (o := d) (o2 := some (.d (.tuple [.str "divisor", .int d]))) (o3 := some (.d (.bool false))) h1 hn hc h
    revert q
    dsimp! [restB]
    all_goals exact fun q => q
theorem asc_uniq : ∀ {l m : List Nat}, l.Pairwise (· < ·) → m.Pairwise (· < ·) → (∀ a, a ∈ l ↔ a ∈ m) → l = m
  | [], [], _, _, _ => rfl
  | [], b :: t, _, _, h => absurd ((h b).mpr List.mem_cons_self) List.not_mem_nil
  | a :: r, [], _, _, h => absurd ((h a).mp List.mem_cons_self) List.not_mem_nil
  | a :: r, b :: t, hl, hm, h => by
    rw [List.pairwise_cons] at hl hm
    have e : a = b := by
      have h1 := (h a).mp List.mem_cons_self
      have h2 := (h b).mpr List.mem_cons_self
      rcases List.mem_cons.mp h1 with z | z
      · exact z
      · rcases List.mem_cons.mp h2 with w | w
        · exact w.symm
        · have := hm.1 a z
          have := hl.1 b w
          omega
    subst e
    rw [asc_uniq hl.2 hm.2 fun x => ⟨fun hx => (List.mem_cons.mp ((h x).mp (List.mem_cons_of_mem _ hx))).resolve_left fun z => by
      have := hl.1 x hx
      omega, fun hx => (List.mem_cons.mp ((h x).mpr (List.mem_cons_of_mem _ hx))).resolve_left fun z => by
      have := hm.1 x hx
      omega⟩]
def powsN (n : Nat) : Nat := ((List.range' 2 (n - 3)).filter fun o => !decide (o ^ (n - 1) % n = 1)).length
def sqsN (n : Nat) : Nat := ((List.range' 2 (n - 3)).filter fun o => decide (o * o % n = 1)).length
theorem pow_cast {n o : Nat} : decide ((o : Int) ^ (n - 1) % (n : Int) = 1) = decide (o ^ (n - 1) % n = 1) := by
  refine decide_eq_decide.mpr ?_
  rw [← Int.natCast_pow, ← Int.natCast_emod]
  omega
theorem sq_cast {n o : Nat} : decide ((o : Int) * o % (n : Int) = 1) = decide (o * o % n = 1) := by
  refine decide_eq_decide.mpr ?_
  rw [← Int.natCast_mul, ← Int.natCast_emod]
  omega
theorem mid_list {n : Nat} {P : Nat → Bool} (h2 : 2 ≤ n) : ((List.range (n + 1)).filter fun o => decide (2 ≤ o ∧ o ≤ n - 2) && P o) = (List.range' 2 (n - 3)).filter P := by
  refine asc_uniq (List.Pairwise.filter _ List.pairwise_lt_range) (List.Pairwise.filter _ List.pairwise_lt_range') fun a => ?_
  rw [List.mem_filter, List.mem_filter, List.mem_range, List.mem_range'_1, Bool.and_eq_true, decide_eq_true_eq]
  constructor
  · rintro ⟨h1, h3, h4⟩
    exact ⟨by omega, h4⟩
  · rintro ⟨h1, h4⟩
    exact ⟨by omega, by omega, h4⟩
theorem div_list {n : Nat} (h2 : 2 ≤ n) : ((List.range (n + 1)).filter fun o => decide (2 ≤ o ∧ o ≤ n - 1) && decide (n % o = 0)).length + 2 = (PM.divs n).length := by
  have hp : (1 :: n :: ((List.range (n + 1)).filter fun o => decide (2 ≤ o ∧ o ≤ n - 1) && decide (n % o = 0))).Perm (PM.divs n) := by
    refine (List.perm_ext_iff_of_nodup ?_ PM.divs_nodup).mpr fun a => ?_
    · rw [List.nodup_cons, List.nodup_cons]
      refine ⟨?_, ?_, List.Pairwise.filter _ List.nodup_range⟩
      · rw [List.mem_cons, List.mem_filter, Bool.and_eq_true, decide_eq_true_eq]
        omega
      · rw [List.mem_filter, Bool.and_eq_true, decide_eq_true_eq]
        omega
    · rw [PM.mem_divs (by omega), List.mem_cons, List.mem_cons, List.mem_filter, List.mem_range, Bool.and_eq_true, decide_eq_true_eq, decide_eq_true_eq]
      constructor
      · rintro (rfl | rfl | ⟨_, _, h⟩)
        · exact Nat.one_dvd n
        · exact Nat.dvd_refl a
        · exact Nat.dvd_of_mod_eq_zero h
      · intro h
        have h3 := Nat.le_of_dvd (by omega) h
        have h4 := Nat.pos_of_dvd_of_pos h (by omega)
        have h5 := Nat.mod_eq_zero_of_dvd h
        omega
  have := hp.length_eq
  simpa using this
def countsD (n : Nat) : PyData := .tuple [.int (((PM.divs n).length - 2 : Nat) : Int), .int (powsN n : Nat), .int (sqsN n : Nat)]
theorem sp_against_counts {n : Nat} {μ : Mu} {Q : KD} (h2 : 2 ≤ n) (hn : n ≤ 10000) (h : Q (.d (countsD n)) μ) : w_against_counts [.d (.int n)] μ Q := by
  have hdl := div_list h2
  refine i_against_counts ?_
  dsimp! [B_against_counts]
  refine sp_need_whole (by omega) (by omega) ?_
  dsimp! []
  refine sp_factors_in (by omega) (by omega) fun fs hf => ?_
  dsimp! []
  refine sp_divisors_in (by omega) (by omega) hf ?_
  dsimp! [intsD_len]
  refine ⟨by unfold RngOk; omega, by unfold RngOk; omega, ?_⟩
  rw [show ((n : Int) - 1 - 2).toNat = n - 3 by omega, show rngD 2 1 (n - 3) = intsD (List.range' 2 (n - 3)) from rng_ints2 (a := 2)]
  refine i_fp (l := List.range' 2 (n - 3)) (fun d : Nat => PyData.int (d : Int)) (fun o => !decide (o ^ (n - 1) % n = 1)) (fun _ => PyData.int 1) (by rw [List.length_range', sz_line]; omega) (fun o ho T E hT hE => ?_) ?_
  · dsimp! []
    rw [show (n : Int) - 1 = ((n - 1 : Nat) : Int) by omega]
    refine sp_power_in (by omega) (by omega) ?_
    dsimp! []
    rw [decide_not, pow_cast]
    cases e : decide (o ^ (n - 1) % n = 1)
    · dsimp! []
      exact hT (by rw [e]; rfl)
    · dsimp! []
      exact hE (by rw [e]; rfl)
  dsimp! [List.length_map]
  refine ⟨by unfold RngOk; omega, by unfold RngOk; omega, ?_⟩
  rw [show ((n : Int) - 1 - 2).toNat = n - 3 by omega, show rngD 2 1 (n - 3) = intsD (List.range' 2 (n - 3)) from rng_ints2 (a := 2)]
  refine i_fp (l := List.range' 2 (n - 3)) (fun d : Nat => PyData.int (d : Int)) (fun o => decide (o * o % n = 1)) (fun _ => PyData.int 1) (by rw [List.length_range', sz_line]; omega) (fun o ho T E hT hE => ?_) ?_
  · rw [List.mem_range'_1] at ho
    dsimp! []
    refine ⟨mulOk_of (by omega) (by omega), by omega, ?_⟩
    rw [sq_cast]
    cases e : decide (o * o % n = 1)
    · dsimp! []
      exact hE e
    · dsimp! []
      exact hT e
  dsimp! [List.length_map]
  rw [show ((PM.divs n).length : Int) - 2 = (((PM.divs n).length - 2 : Nat) : Int) by omega, show (List.filter (fun o => decide ¬o ^ (n - 1) % n = 1) (List.range' 2 (n - 3))).length = powsN n by
    unfold powsN
    congr 1
    exact List.filter_congr fun o _ => decide_not]
  exact h
def mfN (a : Nat × Nat) : Nat := if 2 < a.1 then 2 else [1, 1, 2, 4].getD (min a.2 3) 0
def manyF (fs : List (Nat × Nat)) : Nat := (fs.map mfN).foldl (· * ·) 1
def valN (p : Nat) : Nat → Nat → Nat
  | 0, _ => 0
  | f + 1, n => if n % p = 0 then valN p f (n / p) + 1 else 0
def facC (n : Nat) : List (Nat × Nat) := ((List.range' 2 (n - 1)).filter fun p => decide (n % p = 0) && PM.noDiv p p 2).map fun p => (p, valN p 10 n)
theorem roots_all : ((List.range' 2 399).all fun n => PM.facChk (facC n) && (decide (PM.prodF (facC n) = n) && decide (sqsN n + (if 2 < n then 2 else 1) = manyF (facC n)))) = true := by decide +kernel
theorem roots_many {n : Nat} {fs : List (Nat × Nat)} (h2 : 2 ≤ n) (hn : n ≤ 400) (hf : PM.IsFac fs n) : sqsN n + (if 2 < n then 2 else 1) = manyF fs := by
  have h := List.all_eq_true.mp roots_all n (List.mem_range'_1.mpr ⟨h2, by omega⟩)
  rw [Bool.and_eq_true, Bool.and_eq_true, decide_eq_true_eq, decide_eq_true_eq] at h
  cases PM.fac_uniq (PM.isFac_chk (by rw [h.1, h.2.1, decide_eq_true rfl]; rfl) : PM.IsFac (facC n) n) hf
  exact h.2.2
def valW (n : Nat) (w : Str) : Nat := if w = "divisor" then (PM.divs n).length - 2 else if w = "power" then powsN n else sqsN n
def words3 : List Str := ["divisor", "power", "square"]
theorem sp_law_counts_right {n : Nat} {μ : Mu} {Q : KD} (h2 : 2 ≤ n) (hn : n ≤ 400) (h : Q (.d (.bool true)) μ) : w_law_counts_right [.d (.int n)] μ Q := by
  refine i_law_counts_right ?_
  dsimp! [B_law_counts_right]
  have cnt : ∀ w : Str, w = "divisor" ∨ w = "power" ∨ w = "square" → (((List.range (n + 1)).filter fun o : Nat => againstB n (.tuple [.str w, .int (o : Int)])).length = (if w = "divisor" then (PM.divs n).length - 2 else if w = "power" then powsN n else sqsN n)) := by
    intro w hw
    have hdl := div_list h2
    rcases hw with rfl | rfl | rfl
    · rw [if_pos rfl, ← hdl, Nat.add_sub_cancel]
      congr 1
      refine List.filter_congr fun o _ => ?_
      rw [against_si, if_pos rfl, decide_eq_decide.mpr (show (2 : Int) ≤ o ∧ (o : Int) ≤ (n : Int) - 1 ↔ 2 ≤ o ∧ o ≤ n - 1 by omega), show decide ((n : Int) % (o : Int) = 0) = decide (n % o = 0) from decide_eq_decide.mpr (by rw [← Int.natCast_emod]; omega)]
    · rw [if_neg (by decide +kernel), if_pos rfl]
      unfold powsN
      rw [← mid_list h2]
      congr 1
      refine List.filter_congr fun o _ => ?_
      rw [against_si, if_neg (by decide +kernel), if_pos rfl, decide_eq_decide.mpr (show (2 : Int) ≤ o ∧ (o : Int) ≤ (n : Int) - 2 ↔ 2 ≤ o ∧ o ≤ n - 2 by omega), show decide ((o : Int) ^ (n - 1) % (n : Int) ≠ 1) = !decide (o ^ (n - 1) % n = 1) by rw [decide_not, pow_cast]]
    · rw [if_neg (by decide +kernel), if_neg (by decide +kernel)]
      unfold sqsN
      rw [← mid_list h2]
      congr 1
      refine List.filter_congr fun o _ => ?_
      rw [against_si, if_neg (by decide +kernel), if_neg (by decide +kernel), if_pos rfl, decide_eq_decide.mpr (show (2 : Int) ≤ o ∧ (o : Int) ≤ (n : Int) - 2 ↔ 2 ≤ o ∧ o ≤ n - 2 by omega), sq_cast]
  refine i_loopE (l := words3) PyData.str (fun rest σ μ' => ∃ (pre : List Str) (o2 : Option SV), words3 = pre ++ rest ∧ μ' = μ ++ [.lst (pre.map fun w => PyData.int (valW n w : Nat))] ∧ σ = [some (.d (.int n)), some (.loc μ.length), o2, none, none, none, none]) ⟨[], _, rfl, rfl, rfl⟩ ?_ ?_
  · rintro σ μ' ⟨pre, o2, e, rfl, rfl⟩
    rw [List.append_nil] at e
    subst e
    dsimp! [words3]
    refine sp_against_counts h2 (by omega) ?_
    dsimp! []
    have hv : [PyData.int (valW n "divisor" : Nat), PyData.int (valW n "power" : Nat), PyData.int (valW n "square" : Nat)] = [.int (((PM.divs n).length - 2 : Nat) : Int), .int (powsN n : Nat), .int (sqsN n : Nat)] := by
      unfold valW
      rw [if_pos rfl, if_neg (by decide +kernel), if_pos rfl, if_neg (by decide +kernel), if_neg (by decide +kernel)]
    rw [hv]
    unfold countsD
    refine sp_law_like (by simp [Fit]) ?_
    dsimp! []
    refine sp_law_factors (by omega) (by omega) fun fs hf => ?_
    dsimp! []
    have hm := roots_many h2 hn hf
    have hS : sqsN n ≤ 400 := by
      unfold sqsN
      have := List.length_filter_le (fun o => decide (o * o % n = 1)) (List.range' 2 (n - 3))
      rw [List.length_range'] at this
      omega
    refine i_loopE (fun a : Nat × Nat => PyData.tuple [.int (a.1 : Int), .int (a.2 : Int)]) (fun rest σ μ' => ∃ (m : Nat) (o4 o5 : Option SV), μ' = μ ++ [.lst [.int (((PM.divs n).length - 2 : Nat) : Int), .int (powsN n : Nat), .int (sqsN n : Nat)]] ∧ (rest.map mfN).foldl (· * ·) m = manyF fs ∧ σ = [some (.d (.int n)), some (.loc μ.length), o2, some (.d (.int m)), o4, o5, none]) ⟨1, _, _, rfl, rfl, rfl⟩ ?_ ?_
    · rintro σ μ' ⟨m, o4, o5, rfl, e, rfl⟩
      have e2 : m = manyF fs := e
      dsimp! []
      refine c_ifE (fun g => ?_) fun g => ?_
      · rw [if_pos (by omega)] at hm
        dsimp! []
        rw [decide_eq_true (by omega)]
        exact h
      · rw [if_neg (by omega)] at hm
        dsimp! []
        rw [decide_eq_true (by omega)]
        exact h
    · rintro ⟨p, k⟩ r σ μ' ⟨m, o4, o5, rfl, e, rfl⟩ N hN
      dsimp! []
      have hmf : mfN (p, k) ≤ 4 := by
        unfold mfN
        split
        · decide
        · have : min k 3 = 0 ∨ min k 3 = 1 ∨ min k 3 = 2 ∨ min k 3 = 3 := by omega
          show [1, 1, 2, 4].getD (min k 3) 0 ≤ 4
          rcases this with q | q | q | q <;> rw [q] <;> decide
      refine c_ifP (fun x ν' => ν' = μ ++ [.lst [.int (((PM.divs n).length - 2 : Nat) : Int), .int (powsN n : Nat), .int (sqsN n : Nat)]] ∧ x = .d (.int (mfN (p, k) : Nat))) (fun g K hK => ?_) (fun g K hK => ?_) ?_
      · dsimp! []
        exact hK _ _ ⟨rfl, by rw [show mfN (p, k) = 2 from if_pos (show 2 < p by omega)]; rfl⟩
      · dsimp! []
        have e3 : mfN (p, k) = [1, 1, 2, 4].getD (min k 3) 0 := if_neg (show ¬2 < p by omega)
        have e4 : atI [PyData.int 1, PyData.int 1, PyData.int 2, PyData.int 4] (if (3 : Int) < (k : Int) then 3 else (k : Int)) = some (.int (mfN (p, k) : Nat)) := by
          rw [e3, show (if (3 : Int) < (k : Int) then 3 else (k : Int)) = ((min k 3 : Nat) : Int) by split <;> omega]
          have : min k 3 = 0 ∨ min k 3 = 1 ∨ min k 3 = 2 ∨ min k 3 = 3 := by omega
          rcases this with q | q | q | q <;> rw [q] <;> rfl
        rw [e4]
        exact hK _ _ ⟨rfl, rfl⟩
      rintro x ν' ⟨rfl, rfl⟩
      dsimp! []
      refine ⟨mulOk_right (by omega), ?_⟩
      rw [← Int.natCast_mul]
      exact hN _ _ ⟨m * mfN (p, k), _, _, rfl, e, rfl⟩
  · rintro w rest σ μ' ⟨pre, o2, e, rfl, rfl⟩ N hN
    have hw : w = "divisor" ∨ w = "power" ∨ w = "square" := by
      have : w ∈ words3 := by rw [e]; simp
      simpa [words3] using this
    dsimp! []
    refine ⟨by unfold RngOk; omega, ?_⟩
    rw [show ((n : Int) + 1).toNat = n + 1 by omega, rng_ints]
    refine i_fp (l := List.range (n + 1)) (fun d : Nat => PyData.int (d : Int)) (fun o : Nat => againstB n (.tuple [.str w, .int (o : Int)])) (fun d : Nat => PyData.int (d : Int)) (by rw [List.length_range, sz_line]; omega) (fun o ho T E hT hE => ?_) ?_
    · dsimp! []
      refine sp_law_is_against (by omega) (by omega) (plain_tup fun y hy => by
        simp only [List.mem_cons, List.not_mem_nil, or_false] at hy
        rcases hy with rfl | rfl <;> exact fun _ => nofun) ?_
      cases q : againstB n (.tuple [.str w, .int (o : Int)])
      · dsimp! []
        exact hE q
      · dsimp! []
        exact hT q
    dsimp! [List.length_map]
    rw [cnt w hw]
    have hpl : pre.length ≤ 3 := by
      have := congrArg List.length e
      rw [List.length_append] at this
      have h3 : words3.length = 3 := rfl
      omega
    refine ⟨by omega, hN _ _ ⟨pre ++ [w], _, by rw [e]; simp, ?_, rfl⟩⟩
    rw [List.map_append]
    rfl
theorem plain_two {w : Str} {o : Int} : Plain (.tuple [.str w, .int o]) := plain_tup fun y hy => by
  simp only [List.mem_cons, List.not_mem_nil, or_false] at hy
  rcases hy with rfl | rfl <;> exact fun _ => nofun
theorem sp_law_written {μ : Mu} {Q : KD} (h : Q (.d (.bool true)) μ) : w_law_written [] μ Q := by
  refine i_law_written ?_
  dsimp! [B_law_written]
  refine sp_paper_against (n := 7) (by decide) (by decide) (fun _ => ?_) fun hp => absurd (by decide +kernel) hp
  dsimp! []
  refine sp_paper_against (n := 1) (by decide) (by decide) (fun _ => ?_) fun _ h1 => absurd rfl h1
  dsimp! []
  refine sp_paper_against (n := 4) (by decide) (by decide) (fun hp => absurd hp (by decide +kernel)) fun _ _ d d2 hd hr => ?_
  have hd2 : d = 2 := by
    rcases Nat.lt_or_ge 2 d with q | q
    · exact absurd (show 2 ∣ 4 from ⟨2, rfl⟩) (hr 2 (by decide) q)
    · omega
  subst hd2
  dsimp! []
  refine sp_is_paper_against (n := 4) (by decide) (by decide) plain_two ?_
  rw [show againstB 4 (.tuple [.str "divisor", .int ((2 : Nat) : Int)]) = true by decide +kernel]
  dsimp! []
  refine sp_is_paper_against (n := 15) (by decide) (by decide) plain_two ?_
  rw [show againstB 15 (.tuple [.str "divisor", .int 5]) = true by decide +kernel]
  dsimp! []
  refine sp_is_paper_against (n := 15) (by decide) (by decide) plain_two ?_
  rw [show againstB 15 (.tuple [.str "power", .int 2]) = true by decide +kernel]
  dsimp! []
  refine sp_is_paper_against (n := 15) (by decide) (by decide) plain_two ?_
  rw [show againstB 15 (.tuple [.str "square", .int 4]) = true by decide +kernel]
  dsimp! []
  refine sp_law_like (by simp [Fit]) ?_
  dsimp! []
  refine i_fp (l := [1, 14]) (fun d : Nat => PyData.int (d : Int)) (fun _ => false) (fun d : Nat => PyData.int (d : Int)) (by rw [sz_line]; decide) (fun d hd T E hT hE => ?_) ?_
  · dsimp! []
    refine sp_is_paper_against (n := 15) (by decide) (by decide) plain_two ?_
    have hd2 : againstB 15 (.tuple [.str "square", .int (d : Int)]) = false := by
      simp only [List.mem_cons, List.not_mem_nil, or_false] at hd
      rcases hd with rfl | rfl <;> decide +kernel
    rw [hd2]
    dsimp! []
    exact hE rfl
  rw [show ([1, 14].filter fun _ : Nat => false) = [] from rfl]
  dsimp! []
  refine sp_is_paper_against (n := 15) (by decide) (by decide) plain_two ?_
  rw [show againstB 15 (.tuple [.str "power", .int 4]) = false by decide +kernel]
  dsimp! []
  refine sp_against_counts (n := 15) (by decide) (by decide) ?_
  rw [show countsD 15 = .tuple [.int ((2 : Nat) : Int), .int ((10 : Nat) : Int), .int ((2 : Nat) : Int)] by unfold countsD; rw [show (PM.divs 15).length - 2 = 2 by decide +kernel, show powsN 15 = 10 by decide +kernel, show sqsN 15 = 2 by decide +kernel]]
  dsimp! []
  refine sp_against_counts (n := 9) (by decide) (by decide) ?_
  rw [show countsD 9 = .tuple [.int ((1 : Nat) : Int), .int ((6 : Nat) : Int), .int ((0 : Nat) : Int)] by unfold countsD; rw [show (PM.divs 9).length - 2 = 1 by decide +kernel, show powsN 9 = 6 by decide +kernel, show sqsN 9 = 0 by decide +kernel]]
  dsimp! []
  refine sp_against_counts (n := 7) (by decide) (by decide) ?_
  rw [show countsD 7 = .tuple [.int ((0 : Nat) : Int), .int ((0 : Nat) : Int), .int ((0 : Nat) : Int)] by unfold countsD; rw [show (PM.divs 7).length - 2 = 0 by decide +kernel, show powsN 7 = 0 by decide +kernel, show sqsN 7 = 0 by decide +kernel]]
  dsimp! []
  refine sp_against_counts (n := 2) (by decide) (by decide) ?_
  rw [show countsD 2 = .tuple [.int ((0 : Nat) : Int), .int ((0 : Nat) : Int), .int ((0 : Nat) : Int)] by unfold countsD; rw [show (PM.divs 2).length - 2 = 0 by decide +kernel, show powsN 2 = 0 by decide +kernel, show sqsN 2 = 0 by decide +kernel]]
  dsimp! []
  refine sp_against_counts (n := 561) (by decide) (by decide) ?_
  rw [show countsD 561 = .tuple [.int ((6 : Nat) : Int), .int ((240 : Nat) : Int), .int ((6 : Nat) : Int)] by unfold countsD; rw [show (PM.divs 561).length - 2 = 6 by decide +kernel, show powsN 561 = 240 by decide +kernel, show sqsN 561 = 6 by decide +kernel]]
  dsimp! []
  refine sp_is_paper_against (n := 561) (by decide) (by decide) plain_two ?_
  rw [show againstB 561 (.tuple [.str "power", .int 2]) = false by decide +kernel]
  dsimp! []
  refine sp_law_like (by simp [Fit]) ?_
  dsimp! []
  exact h
theorem hw {ns : List Int} (hl : ns.length ≤ 63) : w_law [.scr ns] [] fun x _ => x = .d (.bool true) := by
  refine i_law ?_
  dsimp! [B_law]
  refine sp_law_written ?_
  dsimp! []
  refine sp_law_cup hl fun c hc => ?_
  dsimp! []
  refine i_loop (I := fun r σ μ' => ∃ (c : Cel) (o2 : Option SV), CupV c ∧ μ' = [c] ∧ (∀ z ∈ r, ∃ m : Nat, z = .int m ∧ 1 ≤ m ∧ m ≤ 10 ^ 6) ∧ σ = [some (.scr ns), some (.loc 0), o2, none]) ⟨c, _, hc, rfl, ?_, rfl⟩ ?_ ?_
  · intro z hz
    simp only [List.mem_cons, List.not_mem_nil, or_false] at hz
    rcases hz with rfl | rfl | rfl | rfl
    · exact ⟨12, rfl, by decide, by decide⟩
    · exact ⟨300, rfl, by decide, by decide⟩
    · exact ⟨10000, rfl, by decide, by decide⟩
    · exact ⟨1000000, rfl, by decide, by decide⟩
  · rintro σ μ' ⟨c, o2, hc, rfl, _, rfl⟩
    dsimp! []
    refine sp_law_number ⟨by decide, by decide⟩ hc fun n c1 n1 nm hc1 => ?_
    dsimp! []
    rw [show (if (2 : Int) < (n : Int) then (n : Int) else 2) = ((max 2 n : Nat) : Int) by split <;> omega]
    refine sp_law_counts_right (by omega) (by omega) ?_
    dsimp! []
    refine sp_law_roll hc1 (divOk_of (by decide) (by decide)) fun r c2 r0 r1 hc2 => ?_
    obtain ⟨k, rfl⟩ := Int.eq_ofNat_of_zero_le r0
    dsimp! []
    rw [show (2 : Int) + (k : Int) = ((2 + k : Nat) : Int) by omega]
    refine sp_law_counts_right (by omega) (by omega) ?_
    dsimp! []
    refine sp_law_roll hc2 (divOk_of (by decide) (by decide)) fun r c3 q0 q1 hc3 => ?_
    obtain ⟨j, rfl⟩ := Int.eq_ofNat_of_zero_le q0
    dsimp! []
    rw [show (3 : Int) + 2 * (j : Int) = ((3 + 2 * j : Nat) : Int) by omega]
    refine sp_law_right (by omega) (by omega) hc3 fun c4 hc4 => ?_
    dsimp! []
    rw [show ((3 + 2 * j : Nat) : Int) * 3 = (((3 + 2 * j) * 3 : Nat) : Int) by omega]
    refine sp_law_right (by omega) (by omega) hc4 fun c5 hc5 => ?_
    dsimp! []
  · rintro z r σ μ' ⟨c, o2, hc, rfl, hr, rfl⟩ N hN
    obtain ⟨m, rfl, m1, m2⟩ := hr z List.mem_cons_self
    dsimp! []
    refine sp_law_number ⟨by omega, by omega⟩ hc fun n c1 n1 nm hc1 => ?_
    dsimp! []
    refine sp_law_right n1 (by omega) hc1 fun c2 hc2 => ?_
    dsimp! []
    exact hN _ _ ⟨c2, _, hc2, rfl, fun z hz => hr z (List.mem_cons_of_mem _ hz), rfl⟩
end P05
theorem hw_primessure_k05_whole_papers_against : ∀ ns : List Int, ns.length ≤ 63 → P05.w_law [.scr ns] [] fun x _ => x = .d (.bool true) := fun _ h => P05.hw h
open PySem PySem.W PyProof.Rows
set_option maxRecDepth 100000 in
set_option maxHeartbeats 0 in
theorem PySem.Challenge.cw_primessure_k05_whole_papers_against_holds : PySem.Challenge.rw_primessure_k05_whole_papers_against.Holds := by
  w_on; o_law; k_head; (case hw => w_witness2)
  k_fill
  refine DL.walk_ofX (l := PySem.Challenge.rw_primessure_k05_whole_papers_against) (n := 63) (k := 11) (x := "script") rfl (by decide) rfl ⟨rfl, by decide, by decide⟩ (fun w h Y => PySem.W.kIn_of Y) ?F
  case F =>
    intro w mg h KX G XL
    refine' P05.main_ok ?h_is_integer ?h_is_whole ?h_need_whole ?h_is_tuple_of ?h_need_number ?h_need_great ?h_least_factor ?h_is_prime_in ?h_factors_in ?h_divisors_in ?h_power_in ?h_is_prime ?h_divisors_of ?h_is_against ?h_paper_against ?h_is_paper_against ?h_against_counts ?h_law_cup ?h_law_roll ?h_law_some ?h_law_sort ?h_law_like ?h_law_divisor ?h_law_is_prime ?h_law_factors ?h_law_power ?h_law_number ?h_law_bent ?h_law_is_against ?h_law_right ?h_law_counts_right ?h_law_written ?h_law ?b_abs ?b_bool ?b_int ?b_isinstance ?b_len ?b_list ?b_max ?b_min ?b_range ?b_sorted ?b_str ?b_tuple ?b_zip ?g_FEW ?g_GREAT ?g_MOST hw_primessure_k05_whole_papers_against
    case h_is_integer =>
      refine' DL.hasFn KX G ?fa ?fl ?fc ?fk
      (case fa => k_is); (case fl => k_is); (case fc => k_is); (case fk => k_is)
    case h_is_whole =>
      refine' DL.hasFn KX G ?fa ?fl ?fc ?fk
      (case fa => k_is); (case fl => k_is); (case fc => k_is); (case fk => k_is)
    case h_need_whole =>
      refine' DL.hasFn KX G ?fa ?fl ?fc ?fk
      (case fa => k_is); (case fl => k_is); (case fc => k_is); (case fk => k_is)
    case h_is_tuple_of =>
      refine' DL.hasFn KX G ?fa ?fl ?fc ?fk
      (case fa => k_is); (case fl => k_is); (case fc => k_is); (case fk => k_is)
    case h_need_number =>
      refine' DL.hasFn KX G ?fa ?fl ?fc ?fk
      (case fa => k_is); (case fl => k_is); (case fc => k_is); (case fk => k_is)
    case h_need_great =>
      refine' DL.hasFn KX G ?fa ?fl ?fc ?fk
      (case fa => k_is); (case fl => k_is); (case fc => k_is); (case fk => k_is)
    case h_least_factor =>
      refine' DL.hasFn KX G ?fa ?fl ?fc ?fk
      (case fa => k_is); (case fl => k_is); (case fc => k_is); (case fk => k_is)
    case h_is_prime_in =>
      refine' DL.hasFn KX G ?fa ?fl ?fc ?fk
      (case fa => k_is); (case fl => k_is); (case fc => k_is); (case fk => k_is)
    case h_factors_in =>
      refine' DL.hasFn KX G ?fa ?fl ?fc ?fk
      (case fa => k_is); (case fl => k_is); (case fc => k_is); (case fk => k_is)
    case h_divisors_in =>
      refine' DL.hasFn KX G ?fa ?fl ?fc ?fk
      (case fa => k_is); (case fl => k_is); (case fc => k_is); (case fk => k_is)
    case h_power_in =>
      refine' DL.hasFn KX G ?fa ?fl ?fc ?fk
      (case fa => k_is); (case fl => k_is); (case fc => k_is); (case fk => k_is)
    case h_is_prime =>
      refine' DL.hasFn KX G ?fa ?fl ?fc ?fk
      (case fa => k_is); (case fl => k_is); (case fc => k_is); (case fk => k_is)
    case h_divisors_of =>
      refine' DL.hasFn KX G ?fa ?fl ?fc ?fk
      (case fa => k_is); (case fl => k_is); (case fc => k_is); (case fk => k_is)
    case h_is_against =>
      refine' DL.hasFn KX G ?fa ?fl ?fc ?fk
      (case fa => k_is); (case fl => k_is); (case fc => k_is); (case fk => k_is)
    case h_paper_against =>
      refine' DL.hasFn KX G ?fa ?fl ?fc ?fk
      (case fa => k_is); (case fl => k_is); (case fc => k_is); (case fk => k_is)
    case h_is_paper_against =>
      refine' DL.hasFn KX G ?fa ?fl ?fc ?fk
      (case fa => k_is); (case fl => k_is); (case fc => k_is); (case fk => k_is)
    case h_against_counts =>
      refine' DL.hasFn KX G ?fa ?fl ?fc ?fk
      (case fa => k_is); (case fl => k_is); (case fc => k_is); (case fk => k_is)
    case h_law_cup =>
      refine' DL.hasFn KX G ?fa ?fl ?fc ?fk
      (case fa => k_is); (case fl => k_is); (case fc => k_is); (case fk => k_is)
    case h_law_roll =>
      refine' DL.hasFn KX G ?fa ?fl ?fc ?fk
      (case fa => k_is); (case fl => k_is); (case fc => k_is); (case fk => k_is)
    case h_law_some =>
      refine' DL.hasFn KX G ?fa ?fl ?fc ?fk
      (case fa => k_is); (case fl => k_is); (case fc => k_is); (case fk => k_is)
    case h_law_sort =>
      refine' DL.hasFn KX G ?fa ?fl ?fc ?fk
      (case fa => k_is); (case fl => k_is); (case fc => k_is); (case fk => k_is)
    case h_law_like =>
      refine' DL.hasFn KX G ?fa ?fl ?fc ?fk
      (case fa => k_is); (case fl => k_is); (case fc => k_is); (case fk => k_is)
    case h_law_divisor =>
      refine' DL.hasFn KX G ?fa ?fl ?fc ?fk
      (case fa => k_is); (case fl => k_is); (case fc => k_is); (case fk => k_is)
    case h_law_is_prime =>
      refine' DL.hasFn KX G ?fa ?fl ?fc ?fk
      (case fa => k_is); (case fl => k_is); (case fc => k_is); (case fk => k_is)
    case h_law_factors =>
      refine' DL.hasFn KX G ?fa ?fl ?fc ?fk
      (case fa => k_is); (case fl => k_is); (case fc => k_is); (case fk => k_is)
    case h_law_power =>
      refine' DL.hasFn KX G ?fa ?fl ?fc ?fk
      (case fa => k_is); (case fl => k_is); (case fc => k_is); (case fk => k_is)
    case h_law_number =>
      refine' DL.hasFn KX G ?fa ?fl ?fc ?fk
      (case fa => k_is); (case fl => k_is); (case fc => k_is); (case fk => k_is)
    case h_law_bent =>
      refine' DL.hasFn KX G ?fa ?fl ?fc ?fk
      (case fa => k_is); (case fl => k_is); (case fc => k_is); (case fk => k_is)
    case h_law_is_against =>
      refine' DL.hasFn KX G ?fa ?fl ?fc ?fk
      (case fa => k_is); (case fl => k_is); (case fc => k_is); (case fk => k_is)
    case h_law_right =>
      refine' DL.hasFn KX G ?fa ?fl ?fc ?fk
      (case fa => k_is); (case fl => k_is); (case fc => k_is); (case fk => k_is)
    case h_law_counts_right =>
      refine' DL.hasFn KX G ?fa ?fl ?fc ?fk
      (case fa => k_is); (case fl => k_is); (case fc => k_is); (case fk => k_is)
    case h_law_written =>
      refine' DL.hasFn KX G ?fa ?fl ?fc ?fk
      (case fa => k_is); (case fl => k_is); (case fc => k_is); (case fk => k_is)
    case h_law =>
      refine' DL.hasFn KX G ?fa ?fl ?fc ?fk
      (case fa => k_is); (case fl => k_is); (case fc => k_is); (case fk => k_is)
    case b_abs =>
      refine' PySem.W.mg_none_of KX G ?bz
      (case bz => k_is)
    case b_bool =>
      refine' PySem.W.mg_none_of KX G ?bz
      (case bz => k_is)
    case b_int =>
      refine' PySem.W.mg_none_of KX G ?bz
      (case bz => k_is)
    case b_isinstance =>
      refine' PySem.W.mg_none_of KX G ?bz
      (case bz => k_is)
    case b_len =>
      refine' PySem.W.mg_none_of KX G ?bz
      (case bz => k_is)
    case b_list =>
      refine' PySem.W.mg_none_of KX G ?bz
      (case bz => k_is)
    case b_max =>
      refine' PySem.W.mg_none_of KX G ?bz
      (case bz => k_is)
    case b_min =>
      refine' PySem.W.mg_none_of KX G ?bz
      (case bz => k_is)
    case b_range =>
      refine' PySem.W.mg_none_of KX G ?bz
      (case bz => k_is)
    case b_sorted =>
      refine' PySem.W.mg_none_of KX G ?bz
      (case bz => k_is)
    case b_str =>
      refine' PySem.W.mg_none_of KX G ?bz
      (case bz => k_is)
    case b_tuple =>
      refine' PySem.W.mg_none_of KX G ?bz
      (case bz => k_is)
    case b_zip =>
      refine' PySem.W.mg_none_of KX G ?bz
      (case bz => k_is)
    case g_FEW =>
      refine' DL.gint_in KX G ?gq
      (case gq => k_is)
    case g_GREAT => exact DL.gint_of XL (by repeat (first | exact List.Mem.head _ | apply List.Mem.tail))
    case g_MOST => exact DL.gint_of XL (by repeat (first | exact List.Mem.head _ | apply List.Mem.tail))
