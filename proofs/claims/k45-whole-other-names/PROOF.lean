import PyProof.Rows.All
import Wide.All
import OpenK.AllK
import Wide.FinOn
import HandS.ForMost
import HandS.DictComp
import HandS.DictTup
import HandS.Strs
import HandS.TupSets
import HandS.SetKeys
import HandS.IsInst
import HandS.Conv
import HandS.Deep
import HandS.Walk
import HandS.Zip
import HandS.Defaults
import HandS.Flow
import HandS.Style
import HandS.Wide
import HandS.CallRecv
import HandS.TupAny
import HandS.More
import HandS.Small
import KE.GoesMore
import HandS.SetFor
import KE.KSuper
import HandS.Nested
import HandS.ClsMeth
import KE.KSortTupG
import HandS.TupLen
import KE.KDictPairs
import KE.KDictCopyH
import HandS.WordsDict
import PySem.Challenge.RW_hiddenforks_k45_whole_other_names_and_ha
set_option Elab.async false
set_option linter.all false
set_option maxRecDepth 100000
set_option maxHeartbeats 4000000
/-! ## A1 -/
namespace HF
open PySem PySem.Spec PyProof.Rows L2

/-! ### data without addresses -/
inductive D where
  | non | bl (b : Bool) | int (i : Int) | str (x : Str) | lst (xs : List D) | tup (xs : List D) | pr (k : Nat) | scr (xs : List D) | ty (n : String) | kt (ks : List Key)
inductive Cell where
  | lst (xs : List D) | dK (kvs : List (Key × D)) | dT (kvs : List (List Key × D)) | ins (C : Addr) (fs : List (Str × D)) | fK (od : Obj) (ws : List (Key × V)) (kvs : List (Key × D))
abbrev Sto := List Cell
abbrev AEnv := List (Option D)

/-- the abstract heap without the cells and the hidden objects -/
def msk (α η : List Addr) (H : Hp) : Hp := fun b => if b ∈ α ∨ b ∈ η then none else H b
theorem msk_some {α η : List Addr} {H : Hp} {b : Addr} {o : HO} : msk α η H b = some o ↔ b ∉ α ∧ b ∉ η ∧ H b = some o := by
  unfold msk
  by_cases h : b ∈ α ∨ b ∈ η
  · rw [if_pos h]
    constructor
    · intro z; cases z
    · rintro ⟨h1, h2, _⟩
      exact (h.elim h1 h2).elim
  · rw [if_neg h]
    constructor
    · intro z
      exact ⟨fun w => h (.inl w), fun w => h (.inr w), z⟩
    · exact fun z => z.2.2

mutual
inductive Rep (K : PySem.W.Frag) (α : List Addr) (G : Hp) : V → D → Prop
  | non : Rep K α G .non .non
  | bl {b} : Rep K α G (.bl b) (.bl b)
  | int {i} : Rep K α G (.int i) (.int i)
  | str {x} : Rep K α G (.str x) (.str x)
  | lst {a vs xs} : G a = some (.lst vs) → Reps K α G vs xs → Rep K α G (.ref a) (.lst xs)
  | scr {a vs xs} : SqL K G a vs → Reps K α G vs xs → Rep K α G (.ref a) (.scr xs)
  | tup {a vs xs} : SqT K G a vs → Reps K α G vs xs → Rep K α G (.ref a) (.tup xs)
  | pr {a k} : α[k]? = some a → Rep K α G (.ref a) (.pr k)
  | ty {n} : Rep K α G (.ty n) (.ty n)
  | kt {a ks} : G a = some (.tup (ks.map kV)) → Rep K α G (.ref a) (.kt ks)
inductive Reps (K : PySem.W.Frag) (α : List Addr) (G : Hp) : List V → List D → Prop
  | nil : Reps K α G [] []
  | cons {v d vs ds} : Rep K α G v d → Reps K α G vs ds → Reps K α G (v :: vs) (d :: ds)
end

theorem Same.seqT {K : PySem.W.Frag} {H H' : Hp} {a : Addr} {xs : List V} (e : Same H H') (h : SqT K H a xs) : SqT K H' a xs := by
  rcases h with (h | ⟨o, h⟩) | h
  · exact .inl (.inl (e _ _ h))
  · exact .inl (.inr ⟨o, e _ _ h⟩)
  · exact .inr h
section
variable {K : PySem.W.Frag} {α α' η : List Addr} {G G' H H' : Hp}
theorem pre_get (p : α <+: α') {k : Nat} {a : Addr} (e : α[k]? = some a) : α'[k]? = some a := by
  obtain ⟨t, rfl⟩ := p
  rw [List.getElem?_append_left (List.getElem?_eq_some_iff.mp e).1]
  exact e
mutual
theorem Rep.mono (p : α <+: α') (s : Same G G') : ∀ {v : V} {d : D}, Rep K α G v d → Rep K α' G' v d
  | _, _, .non => .non
  | _, _, .bl => .bl
  | _, _, .int => .int
  | _, _, .str => .str
  | _, _, .lst q r => .lst (s _ _ q) (Reps.mono p s r)
  | _, _, .scr q r => .scr (s.seq q) (Reps.mono p s r)
  | _, _, .tup q r => .tup (Same.seqT s q) (Reps.mono p s r)
  | _, _, .pr e => .pr (pre_get p e)
  | _, _, .ty => .ty
  | _, _, .kt q => .kt (s _ _ q)
theorem Reps.mono (p : α <+: α') (s : Same G G') : ∀ {vs : List V} {ds : List D}, Reps K α G vs ds → Reps K α' G' vs ds
  | _, _, .nil => .nil
  | _, _, .cons r t => .cons (Rep.mono p s r) (Reps.mono p s t)
end
theorem Reps.len : ∀ {vs : List V} {ds : List D}, Reps K α G vs ds → vs.length = ds.length
  | _, _, .nil => rfl
  | _, _, .cons _ t => congrArg (· + 1) t.len
theorem Reps.get : ∀ {vs : List V} {ds : List D} {i : Nat} {d : D}, Reps K α G vs ds → ds[i]? = some d → ∃ v, vs[i]? = some v ∧ Rep K α G v d
  | _, _, _, _, .nil, e => by simp at e
  | _, _, 0, _, .cons r _, e => by simp at e; subst e; exact ⟨_, rfl, r⟩
  | _, _, i + 1, d, .cons _ t, e => by
    obtain ⟨v, h1, h2⟩ := Reps.get (i := i) (d := d) t (by simpa using e)
    exact ⟨v, by simpa using h1, h2⟩
theorem Reps.getV : ∀ {vs : List V} {ds : List D} {i : Nat} {v : V}, Reps K α G vs ds → vs[i]? = some v → ∃ d, ds[i]? = some d ∧ Rep K α G v d
  | _, _, _, _, .nil, e => by simp at e
  | _, _, 0, _, .cons r _, e => by simp at e; subst e; exact ⟨_, rfl, r⟩
  | _, _, i + 1, v, .cons _ t, e => by
    obtain ⟨d, h1, h2⟩ := Reps.getV (i := i) (v := v) t (by simpa using e)
    exact ⟨d, by simpa using h1, h2⟩
theorem Reps.app : ∀ {vs ws : List V} {ds es : List D}, Reps K α G vs ds → Reps K α G ws es → Reps K α G (vs ++ ws) (ds ++ es)
  | _, _, _, _, .nil, s => s
  | _, _, _, _, .cons r t, s => .cons r (Reps.app t s)
theorem Reps.take : ∀ {vs : List V} {ds : List D} (n : Nat), Reps K α G vs ds → Reps K α G (vs.take n) (ds.take n)
  | _, _, 0, _ => .nil
  | _, _, _ + 1, .nil => .nil
  | _, _, n + 1, .cons r t => .cons r (Reps.take n t)
theorem Reps.drop : ∀ {vs : List V} {ds : List D} (n : Nat), Reps K α G vs ds → Reps K α G (vs.drop n) (ds.drop n)
  | _, _, 0, r => r
  | _, _, _ + 1, .nil => .nil
  | _, _, n + 1, .cons _ t => Reps.drop n t
theorem Reps.set {v : V} {d : D} (r : Rep K α G v d) : ∀ {vs : List V} {ds : List D} (i : Nat), Reps K α G vs ds → Reps K α G (vs.set i v) (ds.set i d)
  | _, _, _, .nil => .nil
  | _, _, 0, .cons _ t => .cons r t
  | _, _, i + 1, .cons q t => .cons q (Reps.set r i t)
theorem Reps.erase : ∀ {vs : List V} {ds : List D} (i : Nat), Reps K α G vs ds → Reps K α G (vs.eraseIdx i) (ds.eraseIdx i)
  | _, _, _, .nil => .nil
  | _, _, 0, .cons _ t => t
  | _, _, i + 1, .cons q t => .cons q (Reps.erase i t)
theorem Rep.intV {v : V} {i : Int} (r : Rep K α G v (.int i)) : v = .int i := by cases r; rfl
theorem Rep.blV {v : V} {b : Bool} (r : Rep K α G v (.bl b)) : v = .bl b := by cases r; rfl
theorem Rep.strV {v : V} {x : Str} (r : Rep K α G v (.str x)) : v = .str x := by cases r; rfl
theorem Rep.nonV {v : V} (r : Rep K α G v .non) : v = .non := by cases r; rfl
theorem Reps.ints : ∀ {vs : List V} {ns : List Int}, Reps K α G vs (ns.map D.int) → vs = ns.map V.int
  | _, [], .nil => rfl
  | _, n :: ns, .cons r t => by rw [r.intV, Reps.ints t]; rfl
theorem Reps.of_ints : ∀ (ns : List Int), Reps K α G (ns.map V.int) (ns.map D.int)
  | [] => .nil
  | n :: ns => .cons .int (Reps.of_ints ns)
theorem Reps.bls : ∀ {vs : List V} {ns : List Bool}, Reps K α G vs (ns.map D.bl) → vs = ns.map V.bl
  | _, [], .nil => rfl
  | _, n :: ns, .cons r t => by rw [r.blV, Reps.bls t]; rfl
theorem Reps.of_bls : ∀ (ns : List Bool), Reps K α G (ns.map V.bl) (ns.map D.bl)
  | [] => .nil
  | n :: ns => .cons .bl (Reps.of_bls ns)
end

/-! ### worlds -/
def RepKV {κ : Type} (K : PySem.W.Frag) (α : List Addr) (G : Hp) : List (κ × V) → List (κ × D) → Prop := Paired fun p q => p.1 = q.1 ∧ Rep K α G p.2 q.2
def CellOk (K : PySem.W.Frag) (α η : List Addr) (H : Hp) (a : Addr) : Cell → Prop
  | .lst xs => ∃ vs, H a = some (.lst vs) ∧ Reps K α (msk α η H) vs xs
  | .dK kvs => ∃ ws, H a = some (.dK ws) ∧ RepKV K α (msk α η H) ws kvs
  | .dT kvs => ∃ ws, H a = some (.dT ws) ∧ RepKV K α (msk α η H) ws kvs
  | .ins C fs => ∃ dx ws, H a = some (.ins C dx ws) ∧ RepKV K α (msk α η H) ws fs
  | .fK od ws kvs => H a = some (.frz od (.dK ws)) ∧ RepKV K α (msk α η H) ws kvs
structure WOk (K : PySem.W.Frag) (α η : List Addr) (μ : Sto) (H : Hp) : Prop where
  len : α.length = μ.length
  nd : α.Nodup
  dis : ∀ a ∈ α, a ∉ η
  hid : ∀ b ∈ η, H b ≠ none ∧ ∀ xs, H b ≠ Option.some (.tup xs)
  cell : ∀ (k : Nat) a c, α[k]? = some a → μ[k]? = some c → CellOk K α η H a c
/-- the later world -/
structure Le (η α : List Addr) (H : Hp) (α' : List Addr) (H' : Hp) : Prop where
  pre : α <+: α'
  same : Same (msk α η H) (msk α' η H')
  hid : ∀ b ∈ η, H' b = H b
section
variable {K : PySem.W.Frag} {α α' α'' η : List Addr} {H H' H'' : Hp} {μ μ' : Sto} {a : Addr}
theorem Le.refl : Le η α H α H := ⟨List.prefix_refl _, Same.refl _, fun _ _ => rfl⟩
theorem Le.trans (x : Le η α H α' H') (y : Le η α' H' α'' H'') : Le η α H α'' H'' :=
  ⟨x.pre.trans y.pre, x.same.trans y.same, fun b hb => (y.hid b hb).trans (x.hid b hb)⟩
theorem Rep.le {v : V} {d : D} (r : Rep K α (msk α η H) v d) (l : Le η α H α' H') : Rep K α' (msk α' η H') v d := r.mono l.pre l.same
theorem Reps.le {v : List V} {d : List D} (r : Reps K α (msk α η H) v d) (l : Le η α H α' H') : Reps K α' (msk α' η H') v d := r.mono l.pre l.same
theorem RepKV.le {κ : Type} {ws : List (κ × V)} {ds : List (κ × D)} (r : RepKV K α (msk α η H) ws ds) (l : Le η α H α' H') : RepKV K α' (msk α' η H') ws ds :=
  L2.Paired.mapP r fun _ _ z => ⟨z.1, z.2.le l⟩
theorem CellOk.at {c : Cell} (l : Le η α H α' H') (e : H' a = H a) (x : CellOk K α η H a c) : CellOk K α' η H' a c := by
  cases c with
  | lst xs => obtain ⟨vs, h, r⟩ := x; exact ⟨vs, e.trans h, r.le l⟩
  | dK kvs => obtain ⟨vs, h, r⟩ := x; exact ⟨vs, e.trans h, r.le l⟩
  | dT kvs => obtain ⟨vs, h, r⟩ := x; exact ⟨vs, e.trans h, r.le l⟩
  | ins C fs => obtain ⟨dx, vs, h, r⟩ := x; exact ⟨dx, vs, e.trans h, r.le l⟩
  | fK od ws kvs => obtain ⟨h, r⟩ := x; exact ⟨e.trans h, r.le l⟩
theorem CellOk.there {c : Cell} (x : CellOk K α η H a c) : H a ≠ none := by
  cases c with
  | lst xs => obtain ⟨vs, h, r⟩ := x; rw [h]; exact Option.some_ne_none _
  | dK kvs => obtain ⟨vs, h, r⟩ := x; rw [h]; exact Option.some_ne_none _
  | dT kvs => obtain ⟨vs, h, r⟩ := x; rw [h]; exact Option.some_ne_none _
  | ins C fs => obtain ⟨dx, vs, h, r⟩ := x; rw [h]; exact Option.some_ne_none _
  | fK od ws kvs => obtain ⟨h, r⟩ := x; rw [h]; exact Option.some_ne_none _
theorem WOk.get (W : WOk K α η μ H) {k : Nat} {c : Cell} (e : μ[k]? = some c) : ∃ a, α[k]? = some a ∧ CellOk K α η H a c := by
  have hk : k < α.length := by rw [W.len]; exact (List.getElem?_eq_some_iff.mp e).1
  exact ⟨α[k], List.getElem?_eq_getElem hk, W.cell k _ c (List.getElem?_eq_getElem hk) e⟩
theorem WOk.there (W : WOk K α η μ H) (h : a ∈ α) : H a ≠ none := by
  obtain ⟨k, hk, e⟩ := List.getElem_of_mem h
  have hm : k < μ.length := by rw [← W.len]; exact hk
  have e' : α[k]? = Option.some a := by rw [List.getElem?_eq_getElem hk, e]
  exact (W.cell k a _ e' (List.getElem?_eq_getElem hm)).there
/-- something new is tracked: no cell -/
theorem WOk.new (W : WOk K α η μ H) {p : Addr} (n : H p = none) (o : HO) : WOk K α η μ (upd H p o) ∧ Le η α H α (upd H p o) ∧ p ∉ α ∧ p ∉ η := by
  have ha : p ∉ α := fun z => W.there z n
  have hh : p ∉ η := fun z => (W.hid p z).1 n
  have l : Le η α H α (upd H p o) := ⟨List.prefix_refl _, fun b u e => by
    obtain ⟨h1, h2, h3⟩ := msk_some.mp e
    exact msk_some.mpr ⟨h1, h2, by rw [upd_ne (ne_of_none h3 n)]; exact h3⟩, fun b hb => upd_ne fun z => hh (z ▸ hb)⟩
  refine ⟨⟨W.len, W.nd, W.dis, fun b hb => by rw [l.hid b hb]; exact W.hid b hb, fun k a c e1 e2 => ?_⟩, l, ha, hh⟩
  exact (W.cell k a c e1 e2).at l (upd_ne fun z => ha (z ▸ List.mem_of_getElem? e1))
/-- the mask without one more cell -/
theorem msk_snoc_le {p : Addr} : Same (msk (α ++ [p]) η H) (msk α η H) := fun b u e => by
  obtain ⟨h1, h2, h3⟩ := msk_some.mp e
  exact msk_some.mpr ⟨fun z => h1 (List.mem_append_left _ z), h2, h3⟩
/-- a new cell -/
theorem WOk.newCell (W : WOk K α η μ H) {p : Addr} (n : H p = none) {o : HO} {c : Cell} (hc : ∀ l : Le η α H (α ++ [p]) (upd H p o), CellOk K (α ++ [p]) η (upd H p o) p c) :
    WOk K (α ++ [p]) η (μ ++ [c]) (upd H p o) ∧ Le η α H (α ++ [p]) (upd H p o) ∧ (α ++ [p])[μ.length]? = Option.some p := by
  have ha : p ∉ α := fun z => W.there z n
  have hh : p ∉ η := fun z => (W.hid p z).1 n
  have l : Le η α H (α ++ [p]) (upd H p o) := ⟨List.prefix_append _ _, fun b u e => by
    obtain ⟨h1, h2, h3⟩ := msk_some.mp e
    have hb : b ≠ p := ne_of_none h3 n
    refine msk_some.mpr ⟨fun z => ?_, h2, by rw [upd_ne hb]; exact h3⟩
    rcases List.mem_append.mp z with z | z
    · exact h1 z
    · exact hb (by simpa using z), fun b hb => upd_ne fun z => hh (z ▸ hb)⟩
  have gp : (α ++ [p])[μ.length]? = Option.some p := by
    rw [← W.len, List.getElem?_append_right (Nat.le_refl _), Nat.sub_self]; rfl
  refine ⟨⟨by rw [List.length_append, List.length_append, W.len]; rfl, ?_, fun a h => ?_, fun b hb => by rw [l.hid b hb]; exact W.hid b hb, fun k a d e1 e2 => ?_⟩, l, gp⟩
  · rw [List.nodup_append]
    exact ⟨W.nd, by simp, fun x hx y hy z => by
      have : y = p := by simpa using hy
      exact ha (by rw [← this, ← z]; exact hx)⟩
  · rcases List.mem_append.mp h with z | z
    · exact W.dis a z
    · have : a = p := by simpa using z
      rw [this]; exact hh
  · by_cases hk : k < μ.length
    · have hk' : k < α.length := by rw [W.len]; exact hk
      rw [List.getElem?_append_left hk'] at e1
      rw [List.getElem?_append_left hk] at e2
      exact (W.cell k a d e1 e2).at l (upd_ne fun z => ha (z ▸ List.mem_of_getElem? e1))
    · have hk2 : k = μ.length := by
        have := (List.getElem?_eq_some_iff.mp e2).1
        rw [List.length_append, List.length_singleton] at this
        omega
      subst hk2
      rw [gp] at e1
      have e3 : (μ ++ [c])[μ.length]? = Option.some c := by
        rw [List.getElem?_append_right (Nat.le_refl _), Nat.sub_self]; rfl
      rw [e3] at e2
      cases e1; cases e2
      exact hc l
/-- a cell is changed -/
theorem msk_upd (h : a ∈ α) {o : HO} : msk α η (upd H a o) = msk α η H := by
  funext b
  unfold msk
  by_cases hb : b ∈ α ∨ b ∈ η
  · rw [if_pos hb, if_pos hb]
  · rw [if_neg hb, if_neg hb]
    exact upd_ne fun z => hb (.inl (z ▸ h))
theorem WOk.write (W : WOk K α η μ H) {k : Nat} (e : α[k]? = Option.some a) {o : HO} {c : Cell} (hc : CellOk K α η (upd H a o) a c) :
    WOk K α η (μ.set k c) (upd H a o) ∧ Le η α H α (upd H a o) := by
  have ha : a ∈ α := List.mem_of_getElem? e
  have l : Le η α H α (upd H a o) := ⟨List.prefix_refl _, by rw [msk_upd ha]; exact Same.refl _, fun b hb => upd_ne fun z => W.dis a ha (z ▸ hb)⟩
  refine ⟨⟨by rw [List.length_set, W.len], W.nd, W.dis, fun b hb => by rw [l.hid b hb]; exact W.hid b hb, fun j b d e1 e2 => ?_⟩, l⟩
  by_cases hj : j = k
  · subst hj
    rw [e] at e1
    cases e1
    have hj : j < μ.length := by rw [← W.len]; exact (List.getElem?_eq_some_iff.mp e).1
    rw [List.getElem?_set_self hj] at e2
    cases e2
    exact hc
  · rw [List.getElem?_set_ne (Ne.symm hj)] at e2
    refine (W.cell j b d e1 e2).at l (upd_ne fun z => hj ?_)
    obtain ⟨h1, q1⟩ := List.getElem?_eq_some_iff.mp e1
    obtain ⟨h2, q2⟩ := List.getElem?_eq_some_iff.mp e
    exact (List.getElem_inj W.nd).mp (q1.trans (z.trans q2.symm))
end

/-! ### frames -/
structure EnvR (K : PySem.W.Frag) (α η : List Addr) (H : Hp) (ρ : AEnv) (σ : L2.St) : Prop where
  len : ρ.length = σ.length
  get : ∀ (i : Nat) d, ρ[i]? = some (some d) → ∃ v, σ[i]? = some (some v) ∧ Rep K α (msk α η H) v d
section
variable {K : PySem.W.Frag} {α α' η : List Addr} {H H' : Hp} {ρ : AEnv} {σ : L2.St}
theorem EnvR.le (E : EnvR K α η H ρ σ) (l : Le η α H α' H') : EnvR K α' η H' ρ σ := ⟨E.len, fun i d e => by
  obtain ⟨v, h, r⟩ := E.get i d e
  exact ⟨v, h, r.le l⟩⟩
theorem EnvR.set (E : EnvR K α η H ρ σ) {v : V} {d : D} (r : Rep K α (msk α η H) v d) (i : Nat) : EnvR K α η H (ρ.set i (some d)) (σ.set i (some v)) := ⟨by rw [List.length_set, List.length_set, E.len], fun j e h => by
  by_cases hj : j = i
  · subst hj
    have hl : j < ρ.length := by
      have := (List.getElem?_eq_some_iff.mp h).1
      rwa [List.length_set] at this
    rw [List.getElem?_set_self hl] at h
    cases h
    exact ⟨v, by rw [List.getElem?_set_self (by rw [← E.len]; exact hl)], r⟩
  · rw [List.getElem?_set_ne (Ne.symm hj)] at h ⊢
    exact E.get j e h⟩
end
end HF

/-! ## A2 -/
namespace HF
open PySem PySem.Spec PyProof.Rows L2

/-! ### the weakest readings -/
def tE (X : Cx) (e : Expr) : TE := fun σ H Q => ∀ pins s, Inv X pins σ H s → wpAny (model X.prog X.w) X.A (eval e X.env) (EP X pins σ Q) X.xe s
def tT (X : Cx) (e : Expr) : TT := fun σ H Q => ∀ pins s, Inv X pins σ H s → wpAny (model X.prog X.w) X.A (isTrue e X.env (eval e X.env)) (TP X pins σ Q) X.xe s
def tW (X : Cx) (e : Expr) : TT := fun σ H Q => ∀ whole pins s, Inv X pins σ H s → wpAny (model X.prog X.w) X.A (isTrue e X.env whole) (TP X pins σ Q) X.xe s
def tA (X : Cx) (es : List Expr) : TA := fun σ H Q => ∀ pos pins s, Inv X pins σ H s → wpAny (model X.prog X.w) X.A (spliced (backTo pos (starEach es X.env))) (AP X pins σ Q) X.xe s
def tS (X : Cx) (st : Stmt) : TS := fun D σ H => ∀ pins s, Inv X pins σ H s → wpAny (model X.prog X.w) X.A (exec st X.env) (SP X pins D) X.xe s
def tSs (X : Cx) (st : List Stmt) : TS := fun D σ H => ∀ pins s, Inv X pins σ H s → wpAny (model X.prog X.w) X.A (execs st X.env) (SP X pins D) X.xe s
def tG (X : Cx) (tg : Expr) : TG := fun v σ H Q => ∀ pins s u, Inv X pins σ H s → RelV v u → wpAny (model X.prog X.w) X.A (assign tg X.env u) (fun _ s' => ∃ σ' H', Inv X pins σ' H' s' ∧ Q σ' H') X.xe s
def tGs (X : Cx) (ts : List Expr) : TGs := fun vs σ H Q => ∀ pins s us, Inv X pins σ H s → Vals vs us → wpAny (model X.prog X.w) X.A (assignInOrder ((assignEach ts X.env).map (·.2)) us) (fun _ s' => ∃ σ' H', Inv X pins σ' H' s' ∧ Q σ' H') X.xe s
def tI (X : Cx) (tg iter : Expr) : TI := fun σ H R => ∀ pins s, Inv X pins σ H s → wpAny (model X.prog X.w) X.A (eval iter X.env) (fun v s1 => wpAny (model X.prog X.w) X.A (pyIter v) (PIE X pins σ tg R) X.xe s1) X.xe s
def tTs (X : Cx) (ifs : List Expr) : TT := fun σ H Q => ∀ pins s, Inv X pins σ H s → wpAny (model X.prog X.w) X.A (forIn ifs true fun c r => if r = true then do let ok ← isTrue c X.env (eval c X.env); pure (ForInStep.yield ok) else pure (ForInStep.yield r)) (TP X pins σ Q) X.xe s
section
variable {X : Cx} {e : Expr} {es : List Expr} {st : Stmt} {sts : List Stmt} {tg : Expr}
theorem peE : PE X e (tE X e) := ⟨fun pins s _ _ _ I h => h pins s I⟩
theorem ptT : PT X e (tT X e) := ⟨fun pins s _ _ _ I h => h pins s I⟩
theorem pwW : PW X e (tW X e) := ⟨fun wh pins s _ _ _ I h => h wh pins s I⟩
theorem paA : PA X es (tA X es) := ⟨fun pos pins s _ _ _ I h => h pos pins s I⟩
theorem psS : PS X st (tS X st) := ⟨fun pins s _ _ _ I h => h pins s I⟩
theorem pssS : PSs X sts (tSs X sts) := ⟨fun pins s _ _ _ I h => h pins s I⟩
theorem pgG : PG X tg (tG X tg) := ⟨fun pins s _ _ _ _ _ I r h => h pins s _ I r⟩
theorem pgsG : PGs X es (tGs X es) := ⟨fun pins s _ _ _ _ _ I r h => h pins s _ I r⟩
theorem piI {iter : Expr} : PI X tg iter (tI X tg iter) := ⟨fun pins s _ _ _ I h => h pins s I⟩
theorem ptsT {ifs : List Expr} : PTs X ifs (tTs X ifs) := ⟨fun pins s _ _ _ I h => h pins s I⟩
theorem tE_of {t : TE} (h : PE X e t) {σ H Q} (q : t σ H Q) : tE X e σ H Q := fun pins s I => h.run pins s σ H Q I q
theorem tT_of {t : TT} (h : PT X e t) {σ H Q} (q : t σ H Q) : tT X e σ H Q := fun pins s I => h.run pins s σ H Q I q
theorem tE_mono {σ : L2.St} {H : Hp} {Q Q' : VK} (h : tE X e σ H Q) (k : ∀ v H', Q v H' → Q' v H') : tE X e σ H Q' := fun pins s I =>
  thn (h pins s I) fun _ _ ⟨v, H', I', r, q⟩ => ⟨v, H', I', r, k _ _ q⟩
theorem tT_mono {σ : L2.St} {H : Hp} {Q Q' : Bool → Hp → Prop} (h : tT X e σ H Q) (k : ∀ v H', Q v H' → Q' v H') : tT X e σ H Q' := fun pins s I =>
  thn (h pins s I) fun _ _ ⟨H', I', q⟩ => ⟨H', I', k _ _ q⟩
theorem tW_mono {σ : L2.St} {H : Hp} {Q Q' : Bool → Hp → Prop} (h : tW X e σ H Q) (k : ∀ v H', Q v H' → Q' v H') : tW X e σ H Q' := fun wh pins s I =>
  thn (h wh pins s I) fun _ _ ⟨H', I', q⟩ => ⟨H', I', k _ _ q⟩
theorem tTs_mono {ifs : List Expr} {σ : L2.St} {H : Hp} {Q Q' : Bool → Hp → Prop} (h : tTs X ifs σ H Q) (k : ∀ v H', Q v H' → Q' v H') : tTs X ifs σ H Q' := fun pins s I =>
  thn (h pins s I) fun _ _ ⟨H', I', q⟩ => ⟨H', I', k _ _ q⟩
theorem tA_mono {σ : L2.St} {H : Hp} {Q Q' : List V → Hp → Prop} (h : tA X es σ H Q) (k : ∀ v H', Q v H' → Q' v H') : tA X es σ H Q' := fun pos pins s I =>
  thn (h pos pins s I) fun _ _ ⟨v, H', I', r, q⟩ => ⟨v, H', I', r, k _ _ q⟩
theorem tG_mono {v : V} {σ : L2.St} {H : Hp} {Q Q' : L2.St → Hp → Prop} (h : tG X tg v σ H Q) (k : ∀ v H', Q v H' → Q' v H') : tG X tg v σ H Q' := fun pins s u I r =>
  thn (h pins s u I r) fun _ _ ⟨v, H', I', q⟩ => ⟨v, H', I', k _ _ q⟩
theorem tGs_mono {v : List V} {σ : L2.St} {H : Hp} {Q Q' : L2.St → Hp → Prop} (h : tGs X es v σ H Q) (k : ∀ v H', Q v H' → Q' v H') : tGs X es v σ H Q' := fun pins s u I r =>
  thn (h pins s u I r) fun _ _ ⟨v, H', I', q⟩ => ⟨v, H', I', k _ _ q⟩
theorem tI_mono {iter : Expr} {σ : L2.St} {H : Hp} {Q Q' : It → Hp → Prop} (h : tI X tg iter σ H Q) (k : ∀ v H', Q v H' → Q' v H') : tI X tg iter σ H Q' := fun pins s I =>
  thn (h pins s I) fun _ _ q => thn q fun _ _ ⟨it, fp, tn, J, H', e, I', T, t0, f, r⟩ => ⟨it, fp, tn, J, H', e, I', T, t0, f, k _ _ r⟩
theorem SP.mono {pins : List (Addr × Obj)} {D D' : Ends} (hn : ∀ σ H, D.nx σ H → D'.nx σ H) (hr : ∀ v H, D.rt v H → D'.rt v H) (hb : ∀ σ H, D.bk σ H → D'.bk σ H) (hc : ∀ σ H, D.ct σ H → D'.ct σ H) {f : Flow} {s : Shared} (h : SP X pins D f s) : SP X pins D' f s := by
  cases f with
  | next => obtain ⟨σ, H, I, q⟩ := h; exact ⟨σ, H, I, hn _ _ q⟩
  | brk => obtain ⟨σ, H, I, q⟩ := h; exact ⟨σ, H, I, hb _ _ q⟩
  | cont => obtain ⟨σ, H, I, q⟩ := h; exact ⟨σ, H, I, hc _ _ q⟩
  | ret u => obtain ⟨v, σ, H, I, r, q⟩ := h; exact ⟨v, σ, H, I, r, hr _ _ q⟩
theorem tSs_mono {D D' : Ends} {σ : L2.St} {H : Hp} (h : tSs X sts D σ H) (hn : ∀ σ H, D.nx σ H → D'.nx σ H) (hr : ∀ v H, D.rt v H → D'.rt v H) (hb : ∀ σ H, D.bk σ H → D'.bk σ H) (hc : ∀ σ H, D.ct σ H → D'.ct σ H) : tSs X sts D' σ H := fun pins s I =>
  thn (h pins s I) fun _ _ q => SP.mono hn hr hb hc q
theorem tS_mono {D D' : Ends} {σ : L2.St} {H : Hp} (h : tS X st D σ H) (hn : ∀ σ H, D.nx σ H → D'.nx σ H) (hr : ∀ v H, D.rt v H → D'.rt v H) (hb : ∀ σ H, D.bk σ H → D'.bk σ H) (hc : ∀ σ H, D.ct σ H → D'.ct σ H) : tS X st D' σ H := fun pins s I =>
  thn (h pins s I) fun _ _ q => SP.mono hn hr hb hc q
end

/-! ### what is wanted, without addresses -/
abbrev DK := D → Sto → Prop
def PD (K : PySem.W.Frag) (η α : List Addr) (H : Hp) (Q : DK) : VK := fun v H' => ∃ α' μ' d, WOk K α' η μ' H' ∧ Le η α H α' H' ∧ Rep K α' (msk α' η H') v d ∧ Q d μ'
def PB (K : PySem.W.Frag) (η α : List Addr) (H : Hp) (Q : Bool → Sto → Prop) : Bool → Hp → Prop := fun b H' => ∃ α' μ', WOk K α' η μ' H' ∧ Le η α H α' H' ∧ Q b μ'
def PDs (K : PySem.W.Frag) (η α : List Addr) (H : Hp) (Q : List D → Sto → Prop) : List V → Hp → Prop := fun vs H' => ∃ α' μ' ds, WOk K α' η μ' H' ∧ Le η α H α' H' ∧ Reps K α' (msk α' η H') vs ds ∧ Q ds μ'
def PN (K : PySem.W.Frag) (η α : List Addr) (H : Hp) (N : AEnv → Sto → Prop) : L2.St → Hp → Prop := fun σ' H' => ∃ α' μ' ρ', WOk K α' η μ' H' ∧ Le η α H α' H' ∧ EnvR K α' η H' ρ' σ' ∧ N ρ' μ'
structure AEnds where
  nx : AEnv → Sto → Prop
  rt : DK
  bk : AEnv → Sto → Prop := fun _ _ => False
  ct : AEnv → Sto → Prop := fun _ _ => False
def conc (K : PySem.W.Frag) (η α : List Addr) (H : Hp) (E : AEnds) : Ends := { nx := PN K η α H E.nx, rt := PD K η α H E.rt, bk := PN K η α H E.bk, ct := PN K η α H E.ct }
section
variable {K : PySem.W.Frag} {η α α1 : List Addr} {H H1 : Hp}
theorem PD.le (l : Le η α H α1 H1) {Q : DK} {v : V} {H' : Hp} (h : PD K η α1 H1 Q v H') : PD K η α H Q v H' := by
  obtain ⟨α', μ', d, W, l', r, q⟩ := h
  exact ⟨α', μ', d, W, l.trans l', r, q⟩
theorem PB.le (l : Le η α H α1 H1) {Q : Bool → Sto → Prop} {v : Bool} {H' : Hp} (h : PB K η α1 H1 Q v H') : PB K η α H Q v H' := by
  obtain ⟨α', μ', W, l', q⟩ := h
  exact ⟨α', μ', W, l.trans l', q⟩
theorem PN.le (l : Le η α H α1 H1) {Q : AEnv → Sto → Prop} {v : L2.St} {H' : Hp} (h : PN K η α1 H1 Q v H') : PN K η α H Q v H' := by
  obtain ⟨α', μ', d, W, l', r, q⟩ := h
  exact ⟨α', μ', d, W, l.trans l', r, q⟩
theorem PDs.le (l : Le η α H α1 H1) {Q : List D → Sto → Prop} {v : List V} {H' : Hp} (h : PDs K η α1 H1 Q v H') : PDs K η α H Q v H' := by
  obtain ⟨α', μ', d, W, l', r, q⟩ := h
  exact ⟨α', μ', d, W, l.trans l', r, q⟩
end

/-! ### the judgements -/
def aE (X : Cx) (e : Expr) (ρ : AEnv) (μ : Sto) (Q : DK) : Prop := ∀ η α H σ, WOk X.K α η μ H → EnvR X.K α η H ρ σ → tE X e σ H (PD X.K η α H Q)
def aT (X : Cx) (e : Expr) (ρ : AEnv) (μ : Sto) (Q : Bool → Sto → Prop) : Prop := ∀ η α H σ, WOk X.K α η μ H → EnvR X.K α η H ρ σ → tT X e σ H (PB X.K η α H Q)
def aW (X : Cx) (e : Expr) (ρ : AEnv) (μ : Sto) (Q : Bool → Sto → Prop) : Prop := ∀ η α H σ, WOk X.K α η μ H → EnvR X.K α η H ρ σ → tW X e σ H (PB X.K η α H Q)
def aTs (X : Cx) (ifs : List Expr) (ρ : AEnv) (μ : Sto) (Q : Bool → Sto → Prop) : Prop := ∀ η α H σ, WOk X.K α η μ H → EnvR X.K α η H ρ σ → tTs X ifs σ H (PB X.K η α H Q)
def aA (X : Cx) (es : List Expr) (ρ : AEnv) (μ : Sto) (Q : List D → Sto → Prop) : Prop := ∀ η α H σ, WOk X.K α η μ H → EnvR X.K α η H ρ σ → tA X es σ H (PDs X.K η α H Q)
def aS (X : Cx) (st : Stmt) (ρ : AEnv) (μ : Sto) (E : AEnds) : Prop := ∀ η α H σ, WOk X.K α η μ H → EnvR X.K α η H ρ σ → tS X st (conc X.K η α H E) σ H
def aSs (X : Cx) (st : List Stmt) (ρ : AEnv) (μ : Sto) (E : AEnds) : Prop := ∀ η α H σ, WOk X.K α η μ H → EnvR X.K α η H ρ σ → tSs X st (conc X.K η α H E) σ H
def aG (X : Cx) (tg : Expr) (d : D) (ρ : AEnv) (μ : Sto) (N : AEnv → Sto → Prop) : Prop := ∀ η α H σ v, WOk X.K α η μ H → EnvR X.K α η H ρ σ → Rep X.K α (msk α η H) v d → tG X tg v σ H (PN X.K η α H N)
def aGs (X : Cx) (tg : List Expr) (d : List D) (ρ : AEnv) (μ : Sto) (N : AEnv → Sto → Prop) : Prop := ∀ η α H σ v, WOk X.K α η μ H → EnvR X.K α η H ρ σ → Reps X.K α (msk α η H) v d → tGs X tg v σ H (PN X.K η α H N)
/-- what is walked: the items; what must hold of the cells at each turn -/
structure AIt where
  items : List D
  cond : Sto → Prop := fun _ => True
def Yld (K : PySem.W.Frag) (η α1 : List Addr) (H1 : Hp) (J : It) (it : AIt) : Prop := ∀ (ζ : List Addr) (i : Nat) α μ H, WOk K α (ζ ++ η) μ H → α1 <+: α → Same (msk α1 η H1) (msk α (ζ ++ η) H) → it.cond μ →
  (∀ d, it.items[i]? = some d → J.go i H ∧ ∀ x H', J.yld i H x H' → WOk K α (ζ ++ η) μ H' ∧ Le (ζ ++ η) α H α H' ∧ Rep K α (msk α (ζ ++ η) H') x d) ∧ (it.items.length ≤ i → J.stop i H)
def PI' (K : PySem.W.Frag) (η α : List Addr) (H : Hp) (R : AIt → Sto → Prop) : It → Hp → Prop := fun J H1 => ∃ α1 μ1 it, WOk K α1 η μ1 H1 ∧ Le η α H α1 H1 ∧ Yld K η α1 H1 J it ∧ R it μ1
def aI (X : Cx) (tg iter : Expr) (ρ : AEnv) (μ : Sto) (R : AIt → Sto → Prop) : Prop := ∀ η α H σ, WOk X.K α η μ H → EnvR X.K α η H ρ σ → tI X tg iter σ H (PI' X.K η α H R)
/-- a pure expression: its value, the cells as they were -/
abbrev EV (X : Cx) (e : Expr) (ρ : AEnv) (μ : Sto) (d : D) : Prop := aE X e ρ μ fun d' μ' => d' = d ∧ μ' = μ
abbrev EVT (X : Cx) (e : Expr) (ρ : AEnv) (μ : Sto) (b : Bool) : Prop := aT X e ρ μ fun b' μ' => b' = b ∧ μ' = μ

section
variable {X : Cx} {e a b : Expr} {es : List Expr} {ρ : AEnv} {μ : Sto} {Q : DK} {pos : Pos} {st : Stmt} {sts : List Stmt} {E : AEnds}
theorem aE_mono {Q' : DK} (h : aE X e ρ μ Q) (k : ∀ d μ', Q d μ' → Q' d μ') : aE X e ρ μ Q' := fun η α H σ W R =>
  tE_mono (h η α H σ W R) fun _ _ ⟨α', μ', d, W', l, r, q⟩ => ⟨α', μ', d, W', l, r, k _ _ q⟩
theorem aT_mono {Q Q' : Bool → Sto → Prop} (h : aT X e ρ μ Q) (k : ∀ d μ', Q d μ' → Q' d μ') : aT X e ρ μ Q' := fun η α H σ W R =>
  tT_mono (h η α H σ W R) fun _ _ ⟨α', μ', W', l, q⟩ => ⟨α', μ', W', l, k _ _ q⟩
theorem aTs_mono {ifs : List Expr} {Q Q' : Bool → Sto → Prop} (h : aTs X ifs ρ μ Q) (k : ∀ d μ', Q d μ' → Q' d μ') : aTs X ifs ρ μ Q' := fun η α H σ W R =>
  tTs_mono (h η α H σ W R) fun _ _ ⟨α', μ', W', l, q⟩ => ⟨α', μ', W', l, k _ _ q⟩
theorem aA_mono {Q Q' : List D → Sto → Prop} (h : aA X es ρ μ Q) (k : ∀ d μ', Q d μ' → Q' d μ') : aA X es ρ μ Q' := fun η α H σ W R =>
  tA_mono (h η α H σ W R) fun _ _ ⟨α', μ', d, W', l, r, q⟩ => ⟨α', μ', d, W', l, r, k _ _ q⟩
theorem aG_mono {tg : Expr} {d : D} {N N' : AEnv → Sto → Prop} (h : aG X tg d ρ μ N) (k : ∀ d μ', N d μ' → N' d μ') : aG X tg d ρ μ N' := fun η α H σ v W R r =>
  tG_mono (h η α H σ v W R r) fun _ _ ⟨α', μ', d, W', l, r, q⟩ => ⟨α', μ', d, W', l, r, k _ _ q⟩
theorem aI_mono {tg iter : Expr} {R R' : AIt → Sto → Prop} (h : aI X tg iter ρ μ R) (k : ∀ d μ', R d μ' → R' d μ') : aI X tg iter ρ μ R' := fun η α H σ W E =>
  tI_mono (h η α H σ W E) fun _ _ ⟨α', μ', it, W', l, y, q⟩ => ⟨α', μ', it, W', l, y, k _ _ q⟩
/-- a pure part -/
theorem aE_ev {d : D} (h : EV X e ρ μ d) (q : Q d μ) : aE X e ρ μ Q := aE_mono h fun _ _ z => by rw [z.1, z.2]; exact q
theorem aT_ev {Q : Bool → Sto → Prop} {d : Bool} (h : EVT X e ρ μ d) (q : Q d μ) : aT X e ρ μ Q := aT_mono h fun _ _ z => by rw [z.1, z.2]; exact q
/-- sequencing -/
theorem aE_then {R : DK} {η α : List Addr} {H : Hp} {σ : L2.St} (W : WOk X.K α η μ H) (Ev : EnvR X.K α η H ρ σ) {Q1 : VK} (h : aE X e ρ μ R)
    (k : ∀ v H1 α1 μ1 d, WOk X.K α1 η μ1 H1 → Le η α H α1 H1 → EnvR X.K α1 η H1 ρ σ → Rep X.K α1 (msk α1 η H1) v d → R d μ1 → Q1 v H1) : tE X e σ H Q1 :=
  tE_mono (h η α H σ W Ev) fun v H1 ⟨α1, μ1, d, W1, l, r, q⟩ => k v H1 α1 μ1 d W1 l (Ev.le l) r q
theorem aT_then {R : Bool → Sto → Prop} {η α : List Addr} {H : Hp} {σ : L2.St} (W : WOk X.K α η μ H) (Ev : EnvR X.K α η H ρ σ) {Q1 : Bool → Hp → Prop} (h : aT X e ρ μ R)
    (k : ∀ v H1 α1 μ1, WOk X.K α1 η μ1 H1 → Le η α H α1 H1 → EnvR X.K α1 η H1 ρ σ → R v μ1 → Q1 v H1) : tT X e σ H Q1 :=
  tT_mono (h η α H σ W Ev) fun v H1 ⟨α1, μ1, W1, l, q⟩ => k v H1 α1 μ1 W1 l (Ev.le l) q
theorem aA_then {R : List D → Sto → Prop} {η α : List Addr} {H : Hp} {σ : L2.St} (W : WOk X.K α η μ H) (Ev : EnvR X.K α η H ρ σ) {Q1 : List V → Hp → Prop} (h : aA X es ρ μ R)
    (k : ∀ v H1 α1 μ1 d, WOk X.K α1 η μ1 H1 → Le η α H α1 H1 → EnvR X.K α1 η H1 ρ σ → Reps X.K α1 (msk α1 η H1) v d → R d μ1 → Q1 v H1) : tA X es σ H Q1 :=
  tA_mono (h η α H σ W Ev) fun v H1 ⟨α1, μ1, d, W1, l, r, q⟩ => k v H1 α1 μ1 d W1 l (Ev.le l) r q
theorem fin_le {K : PySem.W.Frag} {η α α1 : List Addr} {H H1 : Hp} {v : V} {d : D} {μ : Sto} {Q : DK} (W : WOk K α1 η μ H1) (l : Le η α H α1 H1) (r : Rep K α1 (msk α1 η H1) v d) (q : Q d μ) : PD K η α H Q v H1 := ⟨α1, μ, d, W, l, r, q⟩

/-! ### names and constants -/
theorem ev_var {i : Nat} {x : Str} {d : D} (hd : ρ[i]? = some (some d)) (hN : X.N[i]? = some x) (hv : Vis X.env.scope x) (h1 : (x == ("__debug__" : Str)) = false := by decide) (h2 : (x == ("__classdict__" : Str)) = false := by decide) : EV X (.Name x pos) ρ μ d :=
  fun η α H σ W R => by
    obtain ⟨v, e, r⟩ := R.get i d hd
    exact tE_of (pe_var hN hv h1 h2) ⟨v, e, fin_le W Le.refl r ⟨rfl, rfl⟩⟩
theorem ev_int {i j pos} : EV X (.Constant (.int i) j pos) ρ μ (.int i) := fun η α H σ W R => tE_of pe_int (fin_le W Le.refl .int ⟨rfl, rfl⟩)
theorem ev_bl {i j pos} : EV X (.Constant (.bool i) j pos) ρ μ (.bl i) := fun η α H σ W R => tE_of pe_bl (fin_le W Le.refl .bl ⟨rfl, rfl⟩)
theorem ev_str {i j pos} : EV X (.Constant (.str i) j pos) ρ μ (.str i) := fun η α H σ W R => tE_of pe_str (fin_le W Le.refl .str ⟨rfl, rfl⟩)
theorem ev_non {j pos} : EV X (.Constant .none j pos) ρ μ .non := fun η α H σ W R => tE_of pe_non (fin_le W Le.refl .non ⟨rfl, rfl⟩)
theorem ev_gstr {x : Str} {u : Str} {t : Tok} (hm : X.mg x = some (.str u t)) (hg : Gl X x) (hd : (x == ("__debug__" : Str)) = false := by decide) : EV X (.Name x pos) ρ μ (.str u) := fun η α H σ W R => tE_of (pe_glob hg hm (v := .str u) ⟨t, rfl⟩ hd) (fin_le W Le.refl .str ⟨rfl, rfl⟩)

end
end HF

/-! ## A3 -/
namespace HF
open PySem PySem.Spec PyProof.Rows L2

/-! ### rules by values: any rule of the layer may be taken at each place -/
def xOp (X : Cx) (f : Value → Value → Sem Value) : R2 := fun v u H Q => ∃ r Q', OpR X f r ∧ r v u H Q' ∧ ∀ v H, Q' v H → Q v H
theorem xOp_ok {X : Cx} {f : Value → Value → Sem Value} : OpR X f (xOp X f) := by
  intro pins s σ H x y v u Q I r1 r2 hq
  obtain ⟨r, Q', ho, h1, h2⟩ := hq
  exact thn (ho pins s σ H x y v u Q' I r1 r2 h1) fun _ _ ⟨v, H', I', rr, q⟩ => ⟨v, H', I', rr, h2 _ _ q⟩
def xUn (X : Cx) (f : Value → Sem Value) : V → Hp → VK → Prop := fun v H Q => ∃ r Q', UnR X f r ∧ r v H Q' ∧ ∀ v H, Q' v H → Q v H
theorem xUn_ok {X : Cx} {f : Value → Sem Value} : UnR X f (xUn X f) := by
  intro pins s σ H x v Q I r1 hq
  obtain ⟨r, Q', ho, h1, h2⟩ := hq
  exact thn (ho pins s σ H x v Q' I r1 h1) fun _ _ ⟨v, H', I', rr, q⟩ => ⟨v, H', I', rr, h2 _ _ q⟩
def xIx (X : Cx) : R2 := fun v u H Q => ∃ r Q', IxR X r ∧ r v u H Q' ∧ ∀ v H, Q' v H → Q v H
theorem xIx_ok {X : Cx} : IxR X (xIx X) := by
  intro value slice pins s σ H x y v u Q I r1 r2 hq hs
  obtain ⟨r, Q', ho, h1, h2⟩ := hq
  exact thn (ho value slice pins s σ H x y v u Q' I r1 r2 h1 hs) fun _ _ ⟨v, H', I', rr, q⟩ => ⟨v, H', I', rr, h2 _ _ q⟩
def xCall (X : Cx) (f : Value) : List V → Hp → VK → Prop := fun vs H Q => ∃ r Q', CallR X f r ∧ r vs H Q' ∧ ∀ v H, Q' v H → Q v H
theorem xCall_ok {X : Cx} {f : Value} : CallR X f (xCall X f) := by
  intro pins s σ H vs us Q I r1 hq
  obtain ⟨r, Q', ho, h1, h2⟩ := hq
  exact thn (ho pins s σ H vs us Q' I r1 h1) fun _ _ ⟨v, H', I', rr, q⟩ => ⟨v, H', I', rr, h2 _ _ q⟩
def xMt (X : Cx) (id : String) : V → List V → Hp → VK → Prop := fun x vs H Q => ∃ r Q', MtR X id r ∧ r x vs H Q' ∧ ∀ v H, Q' v H → Q v H
theorem xMt_ok {X : Cx} {id : String} : MtR X id (xMt X id) := by
  intro pins s σ H x vs v us Q I r0 r1 hq
  obtain ⟨r, Q', ho, h1, h2⟩ := hq
  exact thn (ho pins s σ H x vs v us Q' I r0 r1 h1) fun _ _ ⟨v, H', I', rr, q⟩ => ⟨v, H', I', rr, h2 _ _ q⟩
def xSl (X : Cx) : V → Option Int → Option Int → Hp → VK → Prop := fun x lo hi H Q => ∃ r Q', SlR X r ∧ r x lo hi H Q' ∧ ∀ v H, Q' v H → Q v H
theorem EP.mono {X : Cx} {pins : List (Addr × Obj)} {σ : L2.St} {Q Q' : VK} {u : Value} {s : Shared} (h : EP X pins σ Q u s) (k : ∀ v H, Q v H → Q' v H) : EP X pins σ Q' u s := by
  obtain ⟨v, H, I, r, q⟩ := h
  exact ⟨v, H, I, r, k _ _ q⟩
theorem xSl_ok {X : Cx} : SlR X (xSl X) := by
  intro pins s σ H x v vl vu lo hi sl Q I r1 hs pl pu hq
  obtain ⟨r, Q', ho, h1, h2⟩ := hq
  obtain ⟨T, id, e1, e2, e3⟩ := ho pins s σ H x v vl vu lo hi sl Q' I r1 hs pl pu h1
  exact ⟨T, id, e1, e2, thn e3 fun _ _ q => EP.mono q h2⟩

section
variable (X : Cx)
def AOp (f : Value → Value → Sem Value) (x y : D) (μ : Sto) (Q : DK) : Prop := ∀ η α H v u, WOk X.K α η μ H → Rep X.K α (msk α η H) v x → Rep X.K α (msk α η H) u y → xOp X f v u H (PD X.K η α H Q)
def AUn (f : Value → Sem Value) (x : D) (μ : Sto) (Q : DK) : Prop := ∀ η α H v, WOk X.K α η μ H → Rep X.K α (msk α η H) v x → xUn X f v H (PD X.K η α H Q)
def AIx (x y : D) (μ : Sto) (Q : DK) : Prop := ∀ η α H v u, WOk X.K α η μ H → Rep X.K α (msk α η H) v x → Rep X.K α (msk α η H) u y → xIx X v u H (PD X.K η α H Q)
def ACall (f : Value) (xs : List D) (μ : Sto) (Q : DK) : Prop := ∀ η α H vs, WOk X.K α η μ H → Reps X.K α (msk α η H) vs xs → xCall X f vs H (PD X.K η α H Q)
def AMt (T id : String) (x : D) (xs : List D) (μ : Sto) (Q : DK) : Prop := ∀ η α H v vs, WOk X.K α η μ H → Rep X.K α (msk α η H) v x → Reps X.K α (msk α η H) vs xs → xMt X id v vs H (PD X.K η α H Q)
def ASl (x : D) (lo hi : Option Int) (μ : Sto) (Q : DK) : Prop := ∀ η α H v, WOk X.K α η μ H → Rep X.K α (msk α η H) v x → xSl X v lo hi H (PD X.K η α H Q)
end
/-- a datum's built-in type -/
def IsL (μ : Sto) (d : D) (xs : List D) : Prop := d = .lst xs ∨ ∃ k, d = .pr k ∧ μ[k]? = some (.lst xs)
theorem IsL.l {μ : Sto} {xs : List D} : IsL μ (.lst xs) xs := .inl rfl
theorem IsL.p {μ : Sto} {xs : List D} {k : Nat} (h : μ[k]? = some (.lst xs)) : IsL μ (.pr k) xs := .inr ⟨k, rfl, h⟩
theorem IsL.at {K : PySem.W.Frag} {α η : List Addr} {μ : Sto} {H : Hp} (W : WOk K α η μ H) {v : V} {d : D} {xs : List D} (h : IsL μ d xs) (r : Rep K α (msk α η H) v d) : ∃ a vs, v = .ref a ∧ H a = some (.lst vs) ∧ Reps K α (msk α η H) vs xs := by
  rcases h with rfl | ⟨k, rfl, h⟩
  · cases r with
    | lst q r => exact ⟨_, _, rfl, (msk_some.mp q).2.2, r⟩
  · cases r with
    | pr e => exact ⟨_, (W.cell k _ _ e h).choose, rfl, (W.cell k _ _ e h).choose_spec.1, (W.cell k _ _ e h).choose_spec.2⟩
theorem SqT.unmsk {K : PySem.W.Frag} {α η : List Addr} {H : Hp} {a : Addr} {xs : List V} (h : SqT K (msk α η H) a xs) : SqT K H a xs := Same.seqT (fun b o e => (msk_some.mp e).2.2) h
theorem SqL.unmsk {K : PySem.W.Frag} {α η : List Addr} {H : Hp} {a : Addr} {xs : List V} (h : SqL K (msk α η H) a xs) : SqL K H a xs := Same.seq (fun b o e => (msk_some.mp e).2.2) h
/-- a list or a tuple that is read -/
inductive IsS (μ : Sto) : D → List D → Prop
  | l {d xs} : IsL μ d xs → IsS μ d xs
  | t {xs} : IsS μ (.tup xs) xs
  | s {xs} : IsS μ (.scr xs) xs
theorem IsS.at {K : PySem.W.Frag} {α η : List Addr} {μ : Sto} {H : Hp} (W : WOk K α η μ H) {v : V} {d : D} {xs : List D} (h : IsS μ d xs) (r : Rep K α (msk α η H) v d) :
    ∃ a vs, v = .ref a ∧ (SqL K H a vs ∨ SqT K H a vs) ∧ Reps K α (msk α η H) vs xs := by
  cases h with
  | l h => obtain ⟨a, vs, e, q, r⟩ := h.at W r; exact ⟨a, vs, e, .inl (SqL.of q), r⟩
  | t => cases r with | tup q r => exact ⟨_, _, rfl, .inr (SqT.unmsk q), r⟩
  | s => cases r with | scr q r => exact ⟨_, _, rfl, .inl (SqL.unmsk q), r⟩

section
variable {X : Cx} {e a b c : Expr} {es : List Expr} {ρ : AEnv} {μ : Sto} {Q : DK} {pos : Pos}
theorem aE_op {op : Operator} (h : aE X a ρ μ fun x μ1 => aE X b ρ μ1 fun y μ2 => AOp X (binaryOp op) x y μ2 Q) : aE X (.BinOp a op b pos) ρ μ Q := fun η α H σ W Ev =>
  tE_of (pe_op xOp_ok peE peE) (aE_then W Ev h fun v H1 α1 μ1 d W1 l1 Ev1 r1 q1 =>
    aE_then W1 Ev1 q1 fun u H2 α2 μ2 d2 W2 l2 Ev2 r2 q2 => by
      obtain ⟨r, Q', h1, h2, h3⟩ := q2 η α2 H2 v u W2 (r1.le l2) r2
      exact ⟨r, Q', h1, h2, fun v H z => (h3 v H z).le (l1.trans l2)⟩)
theorem aE_cmp {op : CmpOp} (h : aE X a ρ μ fun x μ1 => aE X b ρ μ1 fun y μ2 => AOp X (compareOp op) x y μ2 Q) (hm : behindInMarks op b = false := by first | exact nomark _ | rfl) : aE X (.Compare a [op] [b] pos) ρ μ Q := fun η α H σ W Ev =>
  tE_of (pe_cmpR xOp_ok peE peE hm) (aE_then W Ev h fun v H1 α1 μ1 d W1 l1 Ev1 r1 q1 =>
    aE_then W1 Ev1 q1 fun u H2 α2 μ2 d2 W2 l2 Ev2 r2 q2 => by
      obtain ⟨r, Q', h1, h2, h3⟩ := q2 η α2 H2 v u W2 (r1.le l2) r2
      exact ⟨r, Q', h1, h2, fun v H z => (h3 v H z).le (l1.trans l2)⟩)
/-- a test by a value that is a bool -/
theorem PD_bl {K : PySem.W.Frag} {η α : List Addr} {H : Hp} {Q : Bool → Sto → Prop} {v : V} {H' : Hp} (h : PD K η α H (fun d μ => ∃ b, d = .bl b ∧ Q b μ) v H') : ∃ k, v = .bl k ∧ PB K η α H Q k H' := by
  obtain ⟨α', μ', d, W, l, r, k, rfl, q⟩ := h
  exact ⟨k, r.blV, α', μ', W, l, q⟩
theorem aT_cmp {op : CmpOp} {Q : Bool → Sto → Prop} (h : aE X a ρ μ fun x μ1 => aE X b ρ μ1 fun y μ2 => AOp X (compareOp op) x y μ2 fun d μ3 => ∃ k, d = .bl k ∧ Q k μ3) (hm : behindInMarks op b = false := by first | exact nomark _ | rfl) :
    aT X (.Compare a [op] [b] pos) ρ μ Q := fun η α H σ W Ev =>
  tT_of (pt_cmpR xOp_ok peE peE hm) (aE_then W Ev h fun v H1 α1 μ1 d W1 l1 Ev1 r1 q1 =>
    aE_then W1 Ev1 q1 fun u H2 α2 μ2 d2 W2 l2 Ev2 r2 q2 => by
      obtain ⟨r, Q', h1, h2, h3⟩ := q2 η α2 H2 v u W2 (r1.le l2) r2
      refine ⟨r, Q', h1, h2, fun v H z => ?_⟩
      exact PD_bl ((h3 v H z).le (l1.trans l2)))
theorem aT_val {Q : Bool → Sto → Prop} (h : aE X e ρ μ fun d μ1 => ∃ k, d = .bl k ∧ Q k μ1) (he : ∀ whole, isTrue e X.env whole = (do let v ← whole; standAt e.pos; holding [v] (truthy v)) := by intro _; rfl) : aT X e ρ μ Q := fun η α H σ W Ev =>
  tT_of (pt_val peE he) (tE_mono (h η α H σ W Ev) fun _ _ z => PD_bl z)
theorem aT_not {Q : Bool → Sto → Prop} (h : aT X a ρ μ fun k μ1 => Q (!k) μ1) : aT X (.UnaryOp .Not a pos) ρ μ Q := fun η α H σ W Ev =>
  tT_of (pt_not ptT) (tT_mono (h η α H σ W Ev) fun _ _ ⟨α', μ', W', l, q⟩ => ⟨α', μ', W', l, q⟩)
theorem aT_w {Q : Bool → Sto → Prop} (h : aW X e ρ μ Q) : aT X e ρ μ Q := fun η α H σ W Ev => tT_of pwW.pt (h η α H σ W Ev)
theorem aW_and {Q : Bool → Sto → Prop} {rest : List Expr} (h : aT X a ρ μ fun k μ1 => if k = true then aW X (.BoolOp .And (b :: rest) pos) ρ μ1 Q else Q false μ1) : aW X (.BoolOp .And (a :: b :: rest) pos) ρ μ Q := fun η α H σ W Ev wh pins s I =>
  (pw_and ptT pwW).run wh pins s σ H _ I (tT_mono (h η α H σ W Ev) fun k H1 ⟨α1, μ1, W1, l1, q⟩ => by
    cases k with
    | true => exact tW_mono (q η α1 H1 σ W1 (Ev.le l1)) fun _ _ z => z.le l1
    | false => exact ⟨α1, μ1, W1, l1, q⟩)
theorem aW_or {Q : Bool → Sto → Prop} {rest : List Expr} (h : aT X a ρ μ fun k μ1 => if k = true then Q true μ1 else aW X (.BoolOp .Or (b :: rest) pos) ρ μ1 Q) : aW X (.BoolOp .Or (a :: b :: rest) pos) ρ μ Q := fun η α H σ W Ev wh pins s I =>
  (pw_or ptT pwW).run wh pins s σ H _ I (tT_mono (h η α H σ W Ev) fun k H1 ⟨α1, μ1, W1, l1, q⟩ => by
    cases k with
    | false => exact tW_mono (q η α1 H1 σ W1 (Ev.le l1)) fun _ _ z => z.le l1
    | true => exact ⟨α1, μ1, W1, l1, q⟩)
theorem aW_and1 {Q : Bool → Sto → Prop} (h : aT X a ρ μ Q) : aW X (.BoolOp .And [a] pos) ρ μ Q := fun η α H σ W Ev wh pins s I => (pw_and1 ptT).run wh pins s σ H _ I (h η α H σ W Ev)
theorem aW_or1 {Q : Bool → Sto → Prop} (h : aT X a ρ μ Q) : aW X (.BoolOp .Or [a] pos) ρ μ Q := fun η α H σ W Ev wh pins s I => (pw_or1 ptT).run wh pins s σ H _ I (h η α H σ W Ev)
/-- and, or, not as values: bools -/
theorem aE_and {rest : List Expr} (h : aE X a ρ μ fun d μ1 => ∃ k, d = .bl k ∧ if k = true then aE X (.BoolOp .And (b :: rest) pos) ρ μ1 Q else Q (.bl false) μ1) : aE X (.BoolOp .And (a :: b :: rest) pos) ρ μ Q := fun η α H σ W Ev =>
  tE_of (pe_and peE peE) (aE_then W Ev h fun v H1 α1 μ1 d W1 l1 Ev1 r1 ⟨k, e, q⟩ => by
    subst e
    refine ⟨k, r1.blV, ?_⟩
    cases k with
    | true => exact tE_mono (q η α1 H1 σ W1 Ev1) fun _ _ z => z.le l1
    | false => exact fin_le W1 l1 .bl q)
theorem aE_or {rest : List Expr} (h : aE X a ρ μ fun d μ1 => ∃ k, d = .bl k ∧ if k = true then Q (.bl true) μ1 else aE X (.BoolOp .Or (b :: rest) pos) ρ μ1 Q) : aE X (.BoolOp .Or (a :: b :: rest) pos) ρ μ Q := fun η α H σ W Ev =>
  tE_of (pe_or peE peE) (aE_then W Ev h fun v H1 α1 μ1 d W1 l1 Ev1 r1 ⟨k, e, q⟩ => by
    subst e
    refine ⟨k, r1.blV, ?_⟩
    cases k with
    | false => exact tE_mono (q η α1 H1 σ W1 Ev1) fun _ _ z => z.le l1
    | true => exact fin_le W1 l1 .bl q)
theorem aE_one {op} (h : aE X a ρ μ Q) : aE X (.BoolOp op [a] pos) ρ μ Q := fun η α H σ W Ev => tE_of (pe_one peE) (h η α H σ W Ev)
theorem aE_not (h : aE X a ρ μ fun d μ1 => ∃ k, d = .bl k ∧ Q (.bl (!k)) μ1) : aE X (.UnaryOp .Not a pos) ρ μ Q := fun η α H σ W Ev =>
  tE_of (pe_not peE) (aE_then W Ev h fun v H1 α1 μ1 d W1 l1 Ev1 r1 ⟨k, e, q⟩ => by
    subst e
    exact ⟨k, r1.blV, fin_le W1 l1 .bl q⟩)
theorem aE_un {op : UnaryOp} (h : aE X a ρ μ fun d μ1 => AUn X (unaryOp op) d μ1 Q) : aE X (.UnaryOp op a pos) ρ μ Q := fun η α H σ W Ev =>
  tE_of (pe_un xUn_ok peE) (aE_then W Ev h fun v H1 α1 μ1 d W1 l1 Ev1 r1 q => by
    obtain ⟨r, Q', h1, h2, h3⟩ := q η α1 H1 v W1 r1
    exact ⟨r, Q', h1, h2, fun v H z => (h3 v H z).le l1⟩)
theorem aE_if {c : Expr} (h : aT X c ρ μ fun k μ1 => if k = true then aE X a ρ μ1 Q else aE X b ρ μ1 Q) : aE X (.IfExp c a b pos) ρ μ Q := fun η α H σ W Ev =>
  tE_of (pe_ifExp ptT peE peE) (aT_then (R := fun k μ1 => if k = true then aE X a ρ μ1 Q else aE X b ρ μ1 Q) W Ev h fun k H1 α1 μ1 W1 l1 Ev1 q => by
    cases k with
    | true => exact tE_mono (q η α1 H1 σ W1 Ev1) fun _ _ z => z.le l1
    | false => exact tE_mono (q η α1 H1 σ W1 Ev1) fun _ _ z => z.le l1)
theorem aE_chain {op op' : CmpOp} (h : aE X a ρ μ fun x μ1 => aE X b ρ μ1 fun y μ2 => AOp X (compareOp op) x y μ2 fun z μ3 => ∃ k, z = .bl k ∧ if k = true then aE X c ρ μ3 fun w μ4 => AOp X (compareOp op') y w μ4 Q else Q (.bl false) μ3)
    (hm : lastMarks [op, op'] [b, c] = false := by with_unfolding_all rfl) : aE X (.Compare a [op, op'] [b, c] pos) ρ μ Q := fun η α H σ W Ev =>
  tE_of (pe_chain xOp_ok xOp_ok peE peE peE hm) (aE_then W Ev h fun v H1 α1 μ1 d W1 l1 Ev1 r1 q1 =>
    aE_then W1 Ev1 q1 fun u H2 α2 μ2 d2 W2 l2 Ev2 r2 q2 => by
      obtain ⟨r, Q', h1, h2, h3⟩ := q2 η α2 H2 v u W2 (r1.le l2) r2
      refine ⟨r, Q', h1, h2, fun z H3 hz => ?_⟩
      obtain ⟨α3, μ3, d3, W3, l3, r3, k, e, q3⟩ := h3 z H3 hz
      subst e
      refine ⟨k, r3.blV, ?_⟩
      cases k with
      | false => exact fin_le W3 (l1.trans (l2.trans l3)) .bl q3
      | true =>
        refine aE_then W3 (Ev2.le l3) q3 fun w H4 α4 μ4 d4 W4 l4 Ev4 r4 q4 => ?_
        obtain ⟨r', Q2, g1, g2, g3⟩ := q4 η α4 H4 u w W4 ((r2.le l3).le l4) r4
        exact ⟨r', Q2, g1, g2, fun v H z => (g3 v H z).le (l1.trans (l2.trans (l3.trans l4)))⟩)
/-- subscripts -/
theorem aE_ix (h : aE X a ρ μ fun x μ1 => aE X b ρ μ1 fun y μ2 => AIx X x y μ2 Q) (hs : PlainIx b := by exact fun _ _ => rfl) : aE X (.Subscript a b pos) ρ μ Q := fun η α H σ W Ev =>
  tE_of (pe_ix xIx_ok peE peE hs) (aE_then W Ev h fun v H1 α1 μ1 d W1 l1 Ev1 r1 q1 =>
    aE_then W1 Ev1 q1 fun u H2 α2 μ2 d2 W2 l2 Ev2 r2 q2 => by
      obtain ⟨r, Q', h1, h2, h3⟩ := q2 η α2 H2 v u W2 (r1.le l2) r2
      exact ⟨r, Q', h1, h2, fun v H z => (h3 v H z).le (l1.trans l2)⟩)
/-- a slice whose parts are pure ints, or left out -/
theorem aE_sl {lo hi : Option Expr} {l u : Option Int} {p2 : Pos} {x : D} (ha : EV X a ρ μ x) (hl : match lo, l with | none, none => True | some e, some i => EV X e ρ μ (.int i) | _, _ => False)
    (hu : match hi, u with | none, none => True | some e, some i => EV X e ρ μ (.int i) | _, _ => False) (h : ASl X x l u μ Q) : aE X (.Subscript a (.Slice lo hi none p2) pos) ρ μ Q := fun η α H σ W Ev => by
  have pl : ∀ {part : Option Expr} {i : Option Int}, (match part, i with | none, none => True | some e, some i => EV X e ρ μ (.int i) | _, _ => False) → ∃ t, PO X part t ∧ ∀ α1 H1 (Qq : Option Int → Hp → Prop), WOk X.K α1 η μ H1 → EnvR X.K α1 η H1 ρ σ →
      (∀ α2 H2, WOk X.K α2 η μ H2 → Le η α1 H1 α2 H2 → EnvR X.K α2 η H2 ρ σ → Qq i H2) → t σ H1 Qq := fun {part i} hp => by
    cases part with
    | none =>
      cases i with
      | none => exact ⟨_, po_none, fun α1 H1 Qq W1 E1 k => k α1 H1 W1 Le.refl E1⟩
      | some i => exact hp.elim
    | some e =>
      cases i with
      | none => exact hp.elim
      | some i =>
        refine ⟨_, po_some (peE (X := X) (e := e)), fun α1 H1 Qq W1 E1 k => ?_⟩
        refine aE_then W1 E1 hp fun v H2 α2 μ2 d W2 l2 E2 r2 ⟨e1, e2⟩ => ?_
        subst e1 e2
        exact ⟨i, r2.intV, k α2 H2 W2 l2 E2⟩
  obtain ⟨tl, pol, kl⟩ := pl hl
  obtain ⟨tu, pou, ku⟩ := pl hu
  refine tE_of (pe_slice xSl_ok peE pol pou) (aE_then W Ev ha fun v H1 α1 μ1 d W1 l1 E1 r1 ⟨e1, e2⟩ => ?_)
  subst e1 e2
  refine kl α1 H1 _ W1 E1 fun α2 H2 W2 l2 E2 => ku α2 H2 _ W2 E2 fun α3 H3 W3 l3 E3 => ?_
  obtain ⟨r, Q', h1, h2, h3⟩ := h η α3 H3 v W3 ((r1.le l2).le l3)
  exact ⟨r, Q', h1, h2, fun v H z => (h3 v H z).le (l1.trans (l2.trans l3))⟩

/-! ### argument lists, displays -/
theorem aA_nil {Q : List D → Sto → Prop} (h : Q [] μ) : aA X [] ρ μ Q := fun η α H σ W Ev pos pins s I => pa_nil.run pos pins s σ H _ I ⟨α, μ, [], W, Le.refl, .nil, h⟩
theorem aA_cons {Q : List D → Sto → Prop} (h : aE X e ρ μ fun d μ1 => aA X es ρ μ1 fun ds μ2 => Q (d :: ds) μ2) (hs : starEach (e :: es) X.env = (false, eval e X.env) :: starEach es X.env := by rfl) : aA X (e :: es) ρ μ Q := fun η α H σ W Ev pos pins s I =>
  (pa_cons peE paA hs).run pos pins s σ H _ I (aE_then W Ev h fun v H1 α1 μ1 d W1 l1 Ev1 r1 q1 =>
    tA_mono (q1 η α1 H1 σ W1 Ev1) fun vs H2 ⟨α2, μ2, ds, W2, l2, r2, q2⟩ => ⟨α2, μ2, d :: ds, W2, l1.trans l2, .cons (r1.le l2) r2, q2⟩)
theorem new_lst {K : PySem.W.Frag} {η α : List Addr} {H : Hp} {vs : List V} {ds : List D} (W : WOk K α η μ H) (r : Reps K α (msk α η H) vs ds) (q : Q (.lst ds) μ) {p : Addr} (n : H p = none) : PD K η α H Q (.ref p) (upd H p (.lst vs)) := by
  obtain ⟨W1, l1, n1, n2⟩ := W.new n (.lst vs)
  exact fin_le W1 l1 (.lst (msk_some.mpr ⟨n1, n2, upd_same⟩) (r.le l1)) q
theorem new_tup {K : PySem.W.Frag} {η α : List Addr} {H : Hp} {vs : List V} {ds : List D} (W : WOk K α η μ H) (r : Reps K α (msk α η H) vs ds) (q : Q (.tup ds) μ) {p : Addr} (n : H p = none) : PD K η α H Q (.ref p) (upd H p (.tup vs)) := by
  obtain ⟨W1, l1, n1, n2⟩ := W.new n (.tup vs)
  exact fin_le W1 l1 (.tup (.inl (.inl (msk_some.mpr ⟨n1, n2, upd_same⟩))) (r.le l1)) q
theorem new_lstC {K : PySem.W.Frag} {η α : List Addr} {H : Hp} {vs : List V} {ds : List D} (W : WOk K α η μ H) (r : Reps K α (msk α η H) vs ds) (q : Q (.pr μ.length) (μ ++ [.lst ds])) {p : Addr} (n : H p = none) : PD K η α H Q (.ref p) (upd H p (.lst vs)) := by
  obtain ⟨W1, l1, g⟩ := W.newCell n (o := .lst vs) (c := .lst ds) fun l => ⟨vs, upd_same, r.le l⟩
  exact fin_le W1 l1 (.pr g) q
theorem aE_lst (h : aA X es ρ μ fun ds μ1 => ds.length ≤ sizeLine ∧ Q (.lst ds) μ1) : aE X (.List es pos) ρ μ Q := fun η α H σ W Ev =>
  tE_of (pe_lst paA) (aA_then W Ev h fun vs H1 α1 μ1 ds W1 l1 E1 r1 ⟨hz, q⟩ => ⟨by rw [r1.len]; exact hz, fun p n => (new_lst W1 r1 q n).le l1⟩)
/-- a new list that will change -/
theorem aE_lstC (h : aA X es ρ μ fun ds μ1 => ds.length ≤ sizeLine ∧ Q (.pr μ1.length) (μ1 ++ [.lst ds])) : aE X (.List es pos) ρ μ Q := fun η α H σ W Ev =>
  tE_of (pe_lst paA) (aA_then W Ev h fun vs H1 α1 μ1 ds W1 l1 E1 r1 ⟨hz, q⟩ => ⟨by rw [r1.len]; exact hz, fun p n => (new_lstC W1 r1 q n).le l1⟩)
theorem aE_tup {x1} (h : aA X es ρ μ fun ds μ1 => ds.length ≤ sizeLine ∧ Q (.tup ds) μ1) : aE X (.Tuple es x1 pos) ρ μ Q := fun η α H σ W Ev =>
  tE_of (pe_tup paA) (aA_then W Ev h fun vs H1 α1 μ1 ds W1 l1 E1 r1 ⟨hz, q⟩ => ⟨by rw [r1.len]; exact hz, fun p n => (new_tup W1 r1 q n).le l1⟩)
/-! ### built-ins by name -/
variable {x id T name : Str} {p : Pos}
theorem aE_callB {id : String} (h : aA X (e :: es) ρ μ fun ds μ1 => ACall X (.builtin id) ds μ1 Q) (hm : X.mg x = none) (hv : bootBuiltins x = some (.builtin id)) (hg : Gl X x := by rfl) (hn : x ≠ "__name__" := by decide) (hdb : (x == ("__debug__" : Str)) = false := by decide)
    (he : starEach (e :: es) X.env = (false, eval e X.env) :: starEach es X.env := by rfl) (hpl : (backTo pos (starEach es X.env)).any (·.1) = false := by rfl) : aE X (.Call (.Name x p) (e :: es) [] pos) ρ μ Q := fun η α H σ W Ev =>
  tE_of (pe_callB xCall_ok hg hm hv paA hn hdb he hpl) (aA_then W Ev h fun vs H1 α1 μ1 ds W1 l1 E1 r1 q => by
    obtain ⟨r, Q', h1, h2, h3⟩ := q η α1 H1 vs W1 r1
    exact ⟨r, Q', h1, h2, fun v H z => (h3 v H z).le l1⟩)
theorem aE_callTy {T : String} (h : aA X (e :: es) ρ μ fun ds μ1 => ACall X (.type T) ds μ1 Q) (hm : X.mg x = none) (hv : bootBuiltins x = some (.type T)) (hg : Gl X x := by rfl) (hn : x ≠ "__name__" := by decide) (hdb : (x == ("__debug__" : Str)) = false := by decide)
    (he : starEach (e :: es) X.env = (false, eval e X.env) :: starEach es X.env := by rfl) (hpl : (backTo pos (starEach es X.env)).any (·.1) = false := by rfl) : aE X (.Call (.Name x p) (e :: es) [] pos) ρ μ Q := fun η α H σ W Ev =>
  tE_of (pe_callTy xCall_ok hg hm hv paA hn hdb he hpl) (aA_then W Ev h fun vs H1 α1 μ1 ds W1 l1 E1 r1 q => by
    obtain ⟨r, Q', h1, h2, h3⟩ := q η α1 H1 vs W1 r1
    exact ⟨r, Q', h1, h2, fun v H z => (h3 v H z).le l1⟩)
end
end HF

/-! ## A4 -/
namespace HF
open PySem PySem.Spec PyProof.Rows L2

section
variable {X : Cx} {e a b c : Expr} {es : List Expr} {ρ : AEnv} {μ : Sto} {Q : DK} {pos : Pos} {st : Stmt} {rest : List Stmt} {E : AEnds}
theorem PN_le_conc {K : PySem.W.Frag} {η α α' : List Addr} {H H' : Hp} (l : Le η α H α' H') {sts : List Stmt} {σ : L2.St} (h : tSs X sts (conc K η α' H' E) σ H') : tSs X sts (conc K η α H E) σ H' :=
  tSs_mono h (fun _ _ z => PN.le l z) (fun _ _ z => PD.le l z) (fun _ _ z => PN.le l z) (fun _ _ z => PN.le l z)
theorem PN_le_conc1 {K : PySem.W.Frag} {η α α' : List Addr} {H H' : Hp} (l : Le η α H α' H') {st : Stmt} {σ : L2.St} (h : tS X st (conc K η α' H' E) σ H') : tS X st (conc K η α H E) σ H' :=
  tS_mono h (fun _ _ z => PN.le l z) (fun _ _ z => PD.le l z) (fun _ _ z => PN.le l z) (fun _ _ z => PN.le l z)

/-! ### blocks -/
theorem aSs_nil (h : E.nx ρ μ) : aSs X [] ρ μ E := fun η α H σ W Ev pins s I => pss_nil.run pins s σ H _ I ⟨α, μ, ρ, W, Le.refl, Ev, h⟩
theorem aSs_cons (h : aS X st ρ μ { E with nx := fun ρ' μ' => aSs X rest ρ' μ' E }) : aSs X (st :: rest) ρ μ E := fun η α H σ W Ev pins s I =>
  (pss_cons psS pssS).run pins s σ H _ I (tS_mono (h η α H σ W Ev) (fun σ' H' ⟨α', μ', ρ', W', l, R', q⟩ => PN_le_conc l (q η α' H' σ' W' R')) (fun _ _ z => z) (fun _ _ z => z) (fun _ _ z => z))
theorem aSs_one (h : aS X st ρ μ E) : aSs X [st] ρ μ E := fun η α H σ W Ev pins s I => (pss_one psS).run pins s σ H _ I (h η α H σ W Ev)
theorem aS_pass (h : E.nx ρ μ) : aS X (.Pass pos) ρ μ E := fun η α H σ W Ev pins s I => ps_pass.run pins s σ H _ I ⟨α, μ, ρ, W, Le.refl, Ev, h⟩
theorem aS_never (h : False) : aS X st ρ μ E := h.elim
theorem aS_ret (h : aE X e ρ μ E.rt) : aS X (.Return (some e) pos) ρ μ E := fun η α H σ W Ev pins s I => (ps_ret peE).run pins s σ H _ I (h η α H σ W Ev)
theorem aS_retN (h : E.rt .non μ) : aS X (.Return none pos) ρ μ E := fun η α H σ W Ev pins s I => ps_retN.run pins s σ H _ I (fin_le W Le.refl .non h)
theorem aS_expr (h : aE X e ρ μ fun _ μ1 => E.nx ρ μ1) (hs : swapsWith e none pos.line X.env = pure false := by rfl) : aS X (.Expr e pos) ρ μ E := fun η α H σ W Ev pins s I =>
  (ps_expr peE hs).run pins s σ H _ I (aE_then W Ev h fun v H1 α1 μ1 d W1 l1 E1 r1 q => ⟨α1, μ1, ρ, W1, l1, E1, q⟩)
theorem aS_if {c : Expr} {A B : List Stmt} (h : aT X c ρ μ fun k μ1 => if k = true then aSs X A ρ μ1 E else aSs X B ρ μ1 E) : aS X (.If c A B pos) ρ μ E := fun η α H σ W Ev pins s I =>
  (ps_if ptT pssS pssS).run pins s σ H _ I (aT_then (R := fun k μ1 => if k = true then aSs X A ρ μ1 E else aSs X B ρ μ1 E) W Ev h fun k H1 α1 μ1 W1 l1 E1 q => by
    cases k with
    | true => exact PN_le_conc l1 (q η α1 H1 σ W1 E1)
    | false => exact PN_le_conc l1 (q η α1 H1 σ W1 E1))

/-! ### targets -/
theorem aG_name {i : Nat} {x : Str} {d : D} {N : AEnv → Sto → Prop} (h : N (ρ.set i (some d)) μ) (hN : X.N.Nodup) (hi : X.N[i]? = some x := by rfl) (hx : Loc X.env.scope x := by first | exact Or.inl rfl | exact Or.inr rfl)
    (hf : X.fn x = true ∨ X.env.scope.names.lookup x = some .local := by first | exact .inl rfl | exact .inr rfl) : aG X (.Name x pos) d ρ μ N := fun η α H σ v W Ev r pins s u I rv =>
  (pg_name hN hi hx hf).run pins s σ H v u _ I rv ⟨α, μ, _, W, Le.refl, Ev.set r i, h⟩
theorem aGs_nil {N : AEnv → Sto → Prop} (h : N ρ μ) : aGs X [] [] ρ μ N := fun η α H σ v W Ev r pins s u I rv => by
  cases r
  exact pgs_nil.run pins s σ H [] u _ I rv ⟨rfl, α, μ, ρ, W, Le.refl, Ev, h⟩
theorem aGs_cons {d : D} {ds : List D} {N : AEnv → Sto → Prop} (h : aG X e d ρ μ fun ρ1 μ1 => aGs X es ds ρ1 μ1 N) (hs : (assignEach (e :: es) X.env).map (·.2) = assign e X.env :: (assignEach es X.env).map (·.2) := by rfl) : aGs X (e :: es) (d :: ds) ρ μ N := fun η α H σ v W Ev r pins s u I rv => by
  cases r with
  | cons r1 r2 =>
    rename_i v1 vs
    refine (pgs_cons pgG pgsG hs).run pins s σ H (v1 :: vs) u _ I rv ⟨v1, vs, rfl, tG_mono (h η α H σ v1 W Ev r1) fun σ1 H1 ⟨α1, μ1, ρ1, W1, l1, E1, q⟩ => ?_⟩
    exact tGs_mono (q η α1 H1 σ1 vs W1 E1 (r2.le l1)) fun _ _ z => PN.le l1 z
theorem aG_tup {ds : List D} {k : Nat} {N : AEnv → Sto → Prop} (h : aGs X es ds ρ μ N) (hl : ds.length = es.length := by rfl) (hc : X.calm = true := by rfl) (hn : (assignEach es X.env).length = es.length := by rfl)
    (hst : (assignEach es X.env).findIdx? (·.1) = none := by rfl) : aG X (.Tuple es k pos) (.tup ds) ρ μ N := fun η α H σ v W Ev r pins s u I rv => by
  cases r with
  | tup q r =>
    rename_i a vs
    exact (pg_tup hc pgsG hn hst).run pins s σ H (.ref a) u _ I rv ⟨a, vs, rfl, SqT.unmsk q, r.len.trans hl, h η α H σ vs W Ev r⟩
/-- o.f = .. as a target -/
theorem pg_fld {X : Cx} {o : Expr} {f : Str} {pos : Pos} {to : TE} (ho : PE X o to) (ha : ∀ v, assign (.Attribute o f pos) X.env v = (do
      let ov ← holding [v] (eval o X.env)
      standAt pos.atName
      holding [v, ov] (setAttr ov f v)
      release [v, ov] []) := by intro _; rfl) :
    PG X (.Attribute o f pos) (fun v σ H Q => to σ H fun x H1 => ∃ a C dx fs, x = .ref a ∧ H1 a = some (.ins C dx fs) ∧ Cls X.K C ∧ NoAttr X.K C f ∧ fs.length < 1000 ∧ Q σ (upd H1 a (.ins C dx (putF f v fs)))) := by
  refine ⟨fun pins s σ H v u Q I r h => ?_⟩
  rw [ha]
  refine wpAny_bind (wpAny_holding (thn (ho.run pins s σ H _ I h) fun ov s1 ⟨x, H1, I1, r1, q1⟩ => ?_))
  obtain ⟨a, C, dx, fs, e, hq, c, n, l, q⟩ := q1
  subst e
  obtain rfl : ov = Value.ref a := r1
  refine wpAny_bind (wpAny_standAt (wpAny_bind (wpAny_holding (setattr_ok I1 hq c n l r fun s3 I3 => ?_))))
  exact wpAny_release ⟨σ, _, I3, q⟩

/-! ### assignments -/
theorem aS_asg {tg e : Expr} (h : aE X e ρ μ fun d μ1 => aG X tg d ρ μ1 E.nx) (hs : swapsWithSole [tg] e pos.line X.env = pure false := by rfl) (hw : swappedStores [tg] e X.env = pure none := by rfl)
    (h1 : (assignEach [tg] X.env).map (·.2) = [assign tg X.env] := by rfl) : aS X (.Assign [tg] e pos) ρ μ E := fun η α H σ W Ev pins s I =>
  (ps_asg peE pgG hs hw h1).run pins s σ H _ I (aE_then W Ev h fun v H1 α1 μ1 d W1 l1 E1 r1 q => tG_mono (q η α1 H1 σ v W1 E1 r1) fun _ _ z => PN.le l1 z)
theorem aS_set {i : Nat} {x : Str} {pos' : Pos} (h : aE X e ρ μ fun d μ1 => E.nx (ρ.set i (some d)) μ1) (hN : X.N.Nodup) (hi : X.N[i]? = some x := by rfl) (hx : Loc X.env.scope x := by first | exact Or.inl rfl | exact Or.inr rfl)
    (hs : swapsWith e (some (.Name x pos')) pos.line X.env = pure false := by rfl) (hf : X.fn x = true ∨ X.env.scope.names.lookup x = some .local := by first | exact .inl rfl | exact .inr rfl) : aS X (.Assign [.Name x pos'] e pos) ρ μ E := fun η α H σ W Ev pins s I =>
  (ps_set hN hi hx peE hs hf).run pins s σ H _ I (aE_then W Ev h fun v H1 α1 μ1 d W1 l1 E1 r1 q => ⟨α1, μ1, _, W1, l1, E1.set r1 i, q⟩)
theorem aS_par {i j : Nat} {x y : Str} {px py pt : Pos} {kt k2 pt2} (h : aE X a ρ μ fun d1 μ1 => aE X b ρ μ1 fun d2 μ2 => E.nx ((ρ.set i (some d1)).set j (some d2)) μ2) (hN : X.N.Nodup) (hi : X.N[i]? = some x := by rfl) (hj : X.N[j]? = some y := by rfl) (hij : i ≠ j := by decide)
    (hx : X.env.scope.names.lookup x = some .local := by rfl) (hy : X.env.scope.names.lookup y = some .local := by rfl)
    (hw : swappedStores [.Tuple [.Name x px, .Name y py] kt pt] (.Tuple [a, b] k2 pt2) X.env = pure (some [x, y]) := by rfl) (hc : X.calm = true := by rfl)
    (hs : swapsWithSole [.Tuple [.Name x px, .Name y py] kt pt] (.Tuple [a, b] k2 pt2) pos.line X.env = pure false := by rfl)
    (s1 : starEach [a, b] X.env = (false, eval a X.env) :: starEach [b] X.env := by rfl) (s2 : starEach [b] X.env = (false, eval b X.env) :: starEach [] X.env := by rfl) :
    aS X (.Assign [.Tuple [.Name x px, .Name y py] kt pt] (.Tuple [a, b] k2 pt2) pos) ρ μ E := fun η α H σ W Ev pins s I =>
  (ps_par hc hN hi hj hij hx hy paA hw hs).run pins s σ H _ I (by
    have q : aA X [a, b] ρ μ fun ds μ2 => ∃ d1 d2, ds = [d1, d2] ∧ E.nx ((ρ.set i (some d1)).set j (some d2)) μ2 :=
      aA_cons (aE_mono h fun d1 μ1 h1 => aA_cons (aE_mono h1 fun d2 μ2 h2 => aA_nil ⟨d1, d2, rfl, h2⟩) s2) s1
    refine aA_then W Ev q fun vs H1 α1 μ1 ds W1 l1 E1 r1 ⟨d1, d2, e, z⟩ => ?_
    subst e
    cases r1 with
    | cons r1 r2 =>
      cases r2 with
      | cons r2 r3 =>
        cases r3
        exact ⟨_, _, rfl, α1, μ1, _, W1, l1, (E1.set r1 i).set r2 j, z⟩)
/-- name += e, of ints -/
theorem aS_aug {i : Nat} {x : Str} {pos' : Pos} {k : Int} (hk : ρ[i]? = some (some (.int k))) (h : aE X e ρ μ fun d μ1 => ∃ j, d = .int j ∧ E.nx (ρ.set i (some (.int (k + j)))) μ1) (hN : X.N.Nodup) (hi : X.N[i]? = some x := by rfl) (hx : Loc X.env.scope x := by first | exact Or.inl rfl | exact Or.inr rfl)
    (hf : X.fn x = true ∨ X.env.scope.names.lookup x = some .local := by first | exact .inl rfl | exact .inr rfl) : aS X (.AugAssign (.Name x pos') .Add e pos) ρ μ E := fun η α H σ W Ev pins s I =>
  (ps_aug hN hi hx peE ip_add hf).run pins s σ H _ I (by
    obtain ⟨v, hv, r⟩ := Ev.get i _ hk
    refine ⟨v, hv, aE_then W Ev h fun u H1 α1 μ1 d W1 l1 E1 r1 ⟨j, e, q⟩ => ?_⟩
    subst e
    exact ⟨k, j, r.intV, r1.intV, α1, μ1, _, W1, l1, E1.set .int i, q⟩)

/-! ### while, for -/
theorem aS_while {c : Expr} {body : List Stmt} (P : Nat → AEnv → Sto → Prop) {m0 : Nat} (h0 : P m0 ρ μ)
    (h : ∀ m ρ' μ', P m ρ' μ' → aT X c ρ' μ' fun k μ1 => if k = true then aSs X body ρ' μ1 { E with nx := fun ρ2 μ2 => ∃ m', m' < m ∧ P m' ρ2 μ2, ct := fun ρ2 μ2 => ∃ m', m' < m ∧ P m' ρ2 μ2, bk := E.nx } else E.nx ρ' μ1)
    (hp : PassesOwn (model X.prog X.w) X.A X.env X.xe := by exact PassesOwn.never) : aS X (.While c body [] pos) ρ μ E := fun η α H σ W Ev pins s I =>
  (ps_while hp ptT pssS).run pins s σ H _ I (by
    refine ⟨fun m σ' H' => PN X.K η α H (P m) σ' H', ⟨m0, α, μ, ρ, W, Le.refl, Ev, h0⟩, ?_⟩
    rintro m σ1 H1 ⟨α1, μ1, ρ1, W1, l1, E1, p⟩
    refine aT_then W1 E1 (h m ρ1 μ1 p) fun k H2 α2 μ2 W2 l2 E2 q => ?_
    cases k with
    | true =>
      refine ⟨PN X.K η α H fun ρ2 μ2 => ∃ m', m' < m ∧ P m' ρ2 μ2, ?_, ?_⟩
      · rintro σ3 H3 ⟨α3, μ3, ρ3, W3, l3, E3, m', hm, p3⟩
        exact ⟨m', hm, α3, μ3, ρ3, W3, l3, E3, p3⟩
      · have l := l1.trans l2
        exact tSs_mono (q η α2 H2 σ1 W2 E2) (fun _ _ z => PN.le l z) (fun _ _ z => PD.le l z) (fun _ _ z => PN.le l z) (fun _ _ z => PN.le l z)
    | false => exact ⟨α2, μ2, ρ1, W2, l1.trans l2, E2, q⟩)
theorem aS_for {tg iter : Expr} {body : List Stmt}
    (h : aI X tg iter ρ μ fun it μ1 => ∃ P : Nat → AEnv → Sto → Prop, P 0 ρ μ1 ∧ (∀ i ρ' μ', P i ρ' μ' → it.cond μ') ∧
      (∀ i d ρ' μ', it.items[i]? = some d → P i ρ' μ' → aG X tg d ρ' μ' fun ρ2 μ2 => aSs X body ρ2 μ2 { E with nx := P (i + 1), ct := P (i + 1), bk := E.nx }) ∧ ∀ ρ' μ', P it.items.length ρ' μ' → E.nx ρ' μ')
    (hp : PassesOwn (model X.prog X.w) X.A X.env X.xe := by exact PassesOwn.never) (hc : X.calm = true := by rfl) (hs : ∀ x, foldedSetIterable iter X.env x = pure x := by intro _; rfl) : aS X (.For tg iter body [] pos) ρ μ E := fun η α H σ W Ev pins s I =>
  (ps_for hp hc piI pgG pssS hs).run pins s σ H _ I (by
    refine tI_mono (h η α H σ W Ev) fun J H1 ⟨α1, μ1, it, W1, l1, Y, P, p0, pc, ps, pd⟩ => ?_
    refine ⟨fun i m σ' H' => m = it.items.length - i ∧ i ≤ it.items.length ∧ PN X.K η α1 H1 (P i) σ' H', ⟨it.items.length, rfl, Nat.zero_le _, α1, μ1, ρ, W1, Le.refl, Ev.le l1, p0⟩, ?_⟩
    rintro i m σ2 H2 ⟨rfl, hi, α2, μ2, ρ2, W2, l2, E2, p2⟩
    have y := Y [] i α2 μ2 H2 W2 l2.pre l2.same (pc i ρ2 μ2 p2)
    by_cases hlt : i < it.items.length
    · have e := List.getElem?_eq_getElem hlt
      obtain ⟨go, yl⟩ := y.1 _ e
      refine .inr ⟨go, PN X.K η α1 H1 (P (i + 1)), ?_, fun x H3 yx => ?_⟩
      · intro σ' H' p'
        exact ⟨it.items.length - (i + 1), by omega, rfl, hlt, p'⟩
      · obtain ⟨W3, l3, r3⟩ := yl x H3 yx
        refine tG_mono (ps i _ ρ2 μ2 e p2 η α2 H3 σ2 x W3 (E2.le l3) r3) fun σ4 H4 ⟨α4, μ4, ρ4, W4, l4, E4, q⟩ => ?_
        have la := l2.trans (l3.trans l4)
        have lb := l1.trans la
        exact tSs_mono (q η α4 H4 σ4 W4 E4) (fun _ _ z => PN.le la z) (fun _ _ z => PD.le lb z) (fun _ _ z => PN.le lb z) (fun _ _ z => PN.le la z)
    · have e : i = it.items.length := by omega
      subst e
      exact .inl ⟨y.2 (Nat.le_refl _), α2, μ2, ρ2, W2, l1.trans l2, E2, pd ρ2 μ2 p2⟩)

/-! ### what is walked -/
theorem aI_list {tg l : Expr} {R : AIt → Sto → Prop} (h : aE X l ρ μ fun d μ1 => (∃ xs, d = .lst xs ∧ R ⟨xs, fun _ => True⟩ μ1) ∨ ∃ k xs, d = .pr k ∧ μ1[k]? = some (.lst xs) ∧ R ⟨xs, fun μ' => μ'[k]? = some (.lst xs)⟩ μ1) : aI X tg l ρ μ R := fun η α H σ W Ev pins s I =>
  (pi_list (tg := tg) peE).run pins s σ H _ I (aE_then W Ev h fun v H1 α1 μ1 d W1 l1 E1 r1 q => by
    rcases q with ⟨xs, rfl, q⟩ | ⟨k, xs, rfl, e, q⟩
    · cases r1 with
      | lst hq rr =>
        rename_i a vs
        refine ⟨a, rfl, ⟨vs, SqL.of (msk_some.mp hq).2.2⟩, α1, μ1, _, W1, l1, ?_, q⟩
        intro ζ i α2 μ2 H2 W2 p2 s2 _
        have z := s2 _ _ hq
        have sl : SqL X.K H2 a vs := SqL.of (msk_some.mp z).2.2
        refine ⟨fun d hd => ?_, fun hi => ⟨vs, sl, by rw [rr.len]; exact hi⟩⟩
        obtain ⟨x, hx, rx⟩ := rr.get hd
        refine ⟨⟨vs, x, sl, hx⟩, fun y H3 ⟨e3, hy⟩ => ?_⟩
        subst e3
        have : y = x := Option.some.inj ((hy vs sl).symm.trans hx)
        subst this
        exact ⟨W2, Le.refl, rx.mono p2 s2⟩
    · cases r1 with
      | pr ea =>
        rename_i a
        obtain ⟨vs, hq, rr⟩ := W1.cell k a _ ea e
        refine ⟨a, rfl, ⟨vs, SqL.of hq⟩, α1, μ1, _, W1, l1, ?_, q⟩
        intro ζ i α2 μ2 H2 W2 p2 s2 hc
        obtain ⟨vs2, hq2, rr2⟩ := W2.cell k a _ (pre_get p2 ea) hc
        have sl : SqL X.K H2 a vs2 := SqL.of hq2
        refine ⟨fun d hd => ?_, fun hi => ⟨vs2, sl, by rw [rr2.len]; exact hi⟩⟩
        obtain ⟨x, hx, rx⟩ := rr2.get hd
        refine ⟨⟨vs2, x, sl, hx⟩, fun y H3 ⟨e3, hy⟩ => ?_⟩
        subst e3
        have : y = x := Option.some.inj ((hy vs2 sl).symm.trans hx)
        subst this
        exact ⟨W2, Le.refl, rx⟩)
theorem aI_tup {tg l : Expr} {R : AIt → Sto → Prop} (h : aE X l ρ μ fun d μ1 => ∃ xs, d = .tup xs ∧ R ⟨xs, fun _ => True⟩ μ1) : aI X tg l ρ μ R := fun η α H σ W Ev pins s I =>
  (pi_tup (tg := tg) peE).run pins s σ H _ I (aE_then W Ev h fun v H1 α1 μ1 d W1 l1 E1 r1 ⟨xs, e, q⟩ => by
    subst e
    cases r1 with
    | tup hq rr =>
      rename_i a vs
      refine ⟨a, rfl, ⟨vs, SqT.unmsk hq⟩, α1, μ1, _, W1, l1, ?_, q⟩
      intro ζ i α2 μ2 H2 W2 p2 s2 _
      have sl : SqT X.K H2 a vs := SqT.unmsk (Same.seqT s2 hq)
      refine ⟨fun d hd => ?_, fun hi => ⟨vs, sl, by rw [rr.len]; exact hi⟩⟩
      obtain ⟨x, hx, rx⟩ := rr.get hd
      refine ⟨⟨vs, x, sl, hx⟩, fun y H3 ⟨e3, hy⟩ => ?_⟩
      subst e3
      have : y = x := Option.some.inj ((hy vs sl).symm.trans hx)
      subst this
      exact ⟨W2, Le.refl, rx.mono p2 s2⟩)
def rangeD (n : Nat) : List D := (List.range n).map fun i : Nat => .int (i : Int)
theorem rangeD_get {n i : Nat} {d : D} (h : (rangeD n)[i]? = some d) : i < n ∧ d = .int (i : Int) := by
  unfold rangeD at h
  rw [List.getElem?_map] at h
  by_cases hi : i < n
  · rw [List.getElem?_range hi] at h
    exact ⟨hi, (Option.some.inj h).symm⟩
  · rw [List.getElem?_eq_none (by simpa using hi)] at h
    cases h
theorem aI_range1 {tg a : Expr} {p : Pos} {R : AIt → Sto → Prop} (h : aE X a ρ μ fun d μ1 => ∃ n : Nat, d = .int n ∧ n < 2 ^ 62 ∧ R ⟨rangeD n, fun _ => True⟩ μ1) (hm : X.mg "range" = none) (hg : Gl X "range" := by rfl) (hs : starEach [a] X.env = [(false, eval a X.env)] := by rfl)
    (s1 : starEach [a] X.env = (false, eval a X.env) :: starEach [] X.env := by rfl) : aI X tg (.Call (.Name "range" p) [a] [] pos) ρ μ R := fun η α H σ W Ev pins s I =>
  (pi_range1 (tg := tg) hg hm paA hs).run pins s σ H _ I (by
    have q : aA X [a] ρ μ fun ds μ1 => ∃ d, ds = [d] ∧ ∃ n : Nat, d = .int n ∧ n < 2 ^ 62 ∧ R ⟨rangeD n, fun _ => True⟩ μ1 := aA_cons (aE_mono h fun d μ1 z => aA_nil ⟨d, rfl, z⟩) s1
    refine aA_then W Ev q fun vs H1 α1 μ1 ds W1 l1 E1 r1 ⟨d, e, n, e2, hn, z⟩ => ?_
    subst e e2
    cases r1 with
    | cons r1 r2 =>
      cases r2
      refine ⟨(n : Int), by rw [r1.intV], by omega, by omega, α1, μ1, _, W1, l1, ?_, z⟩
      intro ζ i α2 μ2 H2 W2 p2 s2 _
      refine ⟨fun d hd => ?_, fun hi => ?_⟩
      · obtain ⟨hi, rfl⟩ := rangeD_get hd
        refine ⟨by show i < (n : Int).toNat; omega, fun y H3 ⟨e3, hy⟩ => ?_⟩
        subst e3 hy
        exact ⟨W2, Le.refl, by rw [Int.zero_add]; exact .int⟩
      · have hi' : (rangeD n).length ≤ i := hi
        have : (rangeD n).length = n := by unfold rangeD; rw [List.length_map, List.length_range]
        show (n : Int).toNat ≤ i
        omega)
end

/-! ### comprehensions -/
def wipeA (ρ : AEnv) : List Nat → AEnv
  | [] => ρ
  | i :: is => (wipeA ρ is).set i none
theorem EnvR.wipe {K : PySem.W.Frag} {α η : List Addr} {H : Hp} {ρ : AEnv} {σ : L2.St} (E : EnvR K α η H ρ σ) : ∀ vs : List Nat, EnvR K α η H (wipeA ρ vs) (L2.wipe σ vs)
  | [] => E
  | i :: is => by
    have E' := EnvR.wipe E is
    refine ⟨by show ((wipeA ρ is).set i none).length = ((L2.wipe σ is).set i none).length; rw [List.length_set, List.length_set, E'.len], fun j d h => ?_⟩
    have h : ((wipeA ρ is).set i none)[j]? = some (some d) := h
    by_cases hj : j = i
    · subst hj
      have hl : j < (wipeA ρ is).length := by
        have := (List.getElem?_eq_some_iff.mp h).1
        rwa [List.length_set] at this
      rw [List.getElem?_set_self hl] at h
      cases h
    · rw [List.getElem?_set_ne (Ne.symm hj)] at h
      obtain ⟨v, hv, r⟩ := E'.get j d h
      refine ⟨v, ?_, r⟩
      show ((L2.wipe σ is).set i none)[j]? = _
      rw [List.getElem?_set_ne (Ne.symm hj)]
      exact hv
end HF

/-! ## A5 -/
namespace HF
open PySem PySem.Spec PyProof.Rows L2

theorem wipe_set {i : Nat} {x : Option V} : ∀ {vs : List Nat} {σ : L2.St}, i ∈ vs → L2.wipe (σ.set i x) vs = L2.wipe σ vs
  | [], σ, h => by cases h
  | j :: vs, σ, h => by
    show (L2.wipe (σ.set i x) vs).set j none = (L2.wipe σ vs).set j none
    by_cases hi : i ∈ vs
    · rw [wipe_set hi]
    · have e : i = j := by
        rcases List.mem_cons.mp h with e | h
        · exact e
        · exact absurd h hi
      subst e
      have : ∀ ws : List Nat, i ∉ ws → L2.wipe (σ.set i x) ws = (L2.wipe σ ws).set i x := by
        intro ws
        induction ws with
        | nil => intro _; rfl
        | cons k ws ih =>
          intro hk
          have hk1 : i ≠ k := fun z => hk (z ▸ List.mem_cons_self)
          show (L2.wipe (σ.set i x) ws).set k none = ((L2.wipe σ ws).set k none).set i x
          rw [ih fun z => hk (List.mem_cons_of_mem _ z), List.set_comm _ _ hk1]
      rw [this vs hi, List.set_set]
theorem wipe_idem (σ : L2.St) : ∀ vs : List Nat, L2.wipe (L2.wipe σ vs) vs = L2.wipe σ vs := by
  have key : ∀ (vs ws : List Nat) (τ : L2.St), (∀ i ∈ ws, i ∈ vs) → L2.wipe (L2.wipe τ ws) vs = L2.wipe τ vs := by
    intro vs ws
    induction ws with
    | nil => intro τ _; rfl
    | cons k ws ih =>
      intro τ h
      show L2.wipe ((L2.wipe τ ws).set k none) vs = _
      rw [wipe_set (h k List.mem_cons_self), ih τ fun i hi => h i (List.mem_cons_of_mem _ hi)]
  exact fun vs => key vs vs σ fun _ h => h

/-! ### a comprehension's target -/
def aGc (X : Cx) (tg : Expr) (vs : List Nat) (d : D) (ρ : AEnv) (μ : Sto) (N : AEnv → Sto → Prop) : Prop := ∀ η α H σ v, WOk X.K α η μ H → EnvR X.K α η H ρ σ → Rep X.K α (msk α η H) v d →
  tG X tg v σ H fun σ' H' => L2.wipe σ' vs = L2.wipe σ vs ∧ PN X.K η α H N σ' H'
def aGcs (X : Cx) (tg : List Expr) (vs : List Nat) (d : List D) (ρ : AEnv) (μ : Sto) (N : AEnv → Sto → Prop) : Prop := ∀ η α H σ v, WOk X.K α η μ H → EnvR X.K α η H ρ σ → Reps X.K α (msk α η H) v d →
  tGs X tg v σ H fun σ' H' => L2.wipe σ' vs = L2.wipe σ vs ∧ PN X.K η α H N σ' H'
section
variable {X : Cx} {e a b c : Expr} {es : List Expr} {ρ : AEnv} {μ : Sto} {Q : DK} {pos : Pos} {vs : List Nat}
theorem aGc_name {i : Nat} {x : Str} {d : D} {N : AEnv → Sto → Prop} (h : N (ρ.set i (some d)) μ) (hN : X.N.Nodup) (hi : X.N[i]? = some x := by rfl) (hv : i ∈ vs := by decide) (hx : Loc X.env.scope x := by first | exact Or.inl rfl | exact Or.inr rfl)
    (hf : X.fn x = true ∨ X.env.scope.names.lookup x = some .local := by first | exact .inl rfl | exact .inr rfl) : aGc X (.Name x pos) vs d ρ μ N := fun η α H σ v W Ev r pins s u I rv =>
  (pg_name hN hi hx hf).run pins s σ H v u _ I rv ⟨wipe_set hv, α, μ, _, W, Le.refl, Ev.set r i, h⟩
theorem aGcs_nil {N : AEnv → Sto → Prop} (h : N ρ μ) : aGcs X [] vs [] ρ μ N := fun η α H σ v W Ev r pins s u I rv => by
  cases r
  exact pgs_nil.run pins s σ H [] u _ I rv ⟨rfl, rfl, α, μ, ρ, W, Le.refl, Ev, h⟩
theorem aGcs_cons {d : D} {ds : List D} {N : AEnv → Sto → Prop} (h : aGc X e vs d ρ μ fun ρ1 μ1 => aGcs X es vs ds ρ1 μ1 N) (hs : (assignEach (e :: es) X.env).map (·.2) = assign e X.env :: (assignEach es X.env).map (·.2) := by rfl) : aGcs X (e :: es) vs (d :: ds) ρ μ N := fun η α H σ v W Ev r pins s u I rv => by
  cases r with
  | cons r1 r2 =>
    rename_i v1 ws
    refine (pgs_cons pgG pgsG hs).run pins s σ H (v1 :: ws) u _ I rv ⟨v1, ws, rfl, tG_mono (h η α H σ v1 W Ev r1) fun σ1 H1 ⟨e1, α1, μ1, ρ1, W1, l1, E1, q⟩ => ?_⟩
    exact tGs_mono (q η α1 H1 σ1 ws W1 E1 (r2.le l1)) fun _ _ z => ⟨z.1.trans e1, PN.le l1 z.2⟩
theorem aGc_tup {ds : List D} {k : Nat} {N : AEnv → Sto → Prop} (h : aGcs X es vs ds ρ μ N) (hl : ds.length = es.length := by rfl) (hc : X.calm = true := by rfl) (hn : (assignEach es X.env).length = es.length := by rfl)
    (hst : (assignEach es X.env).findIdx? (·.1) = none := by rfl) : aGc X (.Tuple es k pos) vs (.tup ds) ρ μ N := fun η α H σ v W Ev r pins s u I rv => by
  cases r with
  | tup q r =>
    rename_i a ws
    exact (pg_tup hc pgsG hn hst).run pins s σ H (.ref a) u _ I rv ⟨a, ws, rfl, SqT.unmsk q, r.len.trans hl, h η α H σ ws W Ev r⟩
theorem aTs_nil {Q : Bool → Sto → Prop} (h : Q true μ) : aTs X [] ρ μ Q := fun η α H σ W Ev pins s I => pts_nil.run pins s σ H _ I ⟨α, μ, W, Le.refl, h⟩
theorem aTs_one {Q : Bool → Sto → Prop} (h : aT X a ρ μ Q) : aTs X [a] ρ μ Q := fun η α H σ W Ev pins s I => (pts_one ptT).run pins s σ H _ I (h η α H σ W Ev)
end

section
variable {K : PySem.W.Frag} {α α' η : List Addr} {H H' : Hp} {μ : Sto}
theorem msk_cons_le {p : Addr} : Same (msk α (p :: η) H) (msk α η H) := fun b u e => by
  obtain ⟨h1, h2, h3⟩ := msk_some.mp e
  exact msk_some.mpr ⟨h1, fun z => h2 (List.mem_cons_of_mem _ z), h3⟩
theorem CellOk.mono {a : Addr} {c : Cell} (s : Same (msk α η H) (msk α η' H)) (x : CellOk K α η H a c) : CellOk K α η' H a c := by
  cases c with
  | lst xs => obtain ⟨vs, h, r⟩ := x; exact ⟨vs, h, r.mono (List.prefix_refl _) s⟩
  | dK kvs => obtain ⟨vs, h, r⟩ := x; exact ⟨vs, h, L2.Paired.mapP r fun _ _ z => ⟨z.1, z.2.mono (List.prefix_refl _) s⟩⟩
  | dT kvs => obtain ⟨vs, h, r⟩ := x; exact ⟨vs, h, L2.Paired.mapP r fun _ _ z => ⟨z.1, z.2.mono (List.prefix_refl _) s⟩⟩
  | ins C fs => obtain ⟨dx, vs, h, r⟩ := x; exact ⟨dx, vs, h, L2.Paired.mapP r fun _ _ z => ⟨z.1, z.2.mono (List.prefix_refl _) s⟩⟩
  | fK od ws kvs => obtain ⟨h, r⟩ := x; exact ⟨h, L2.Paired.mapP r fun _ _ z => ⟨z.1, z.2.mono (List.prefix_refl _) s⟩⟩
theorem WOk.unhide {p : Addr} (W : WOk K α (p :: η) μ H) : WOk K α η μ H :=
  ⟨W.len, W.nd, fun a h z => W.dis a h (List.mem_cons_of_mem _ z), fun b hb => W.hid b (List.mem_cons_of_mem _ hb), fun k a c e1 e2 => (W.cell k a c e1 e2).mono msk_cons_le⟩
/-- a new hidden object -/
theorem WOk.hide (W : WOk K α η μ H) {p : Addr} (n : H p = none) (o : HO) (no : ∀ xs, o ≠ .tup xs := by intro xs h; cases h) : WOk K α (p :: η) μ (upd H p o) ∧ Same (msk α η H) (msk α (p :: η) (upd H p o)) ∧ (∀ b ∈ η, upd H p o b = H b) ∧ p ∉ α ∧ p ∉ η := by
  obtain ⟨W1, l1, ha, hh⟩ := W.new n o
  have s : Same (msk α η H) (msk α (p :: η) (upd H p o)) := fun b u e => by
    obtain ⟨h1, h2, h3⟩ := msk_some.mp e
    have hb := ne_of_none h3 n
    refine msk_some.mpr ⟨h1, fun z => ?_, by rw [upd_ne hb]; exact h3⟩
    rcases List.mem_cons.mp z with z | z
    · exact hb z
    · exact h2 z
  refine ⟨⟨W.len, W.nd, fun a h z => ?_, fun b hb => ?_, fun k a c e1 e2 => ?_⟩, s, l1.hid, ha, hh⟩
  · rcases List.mem_cons.mp z with z | z
    · exact ha (z ▸ h)
    · exact W.dis a h z
  · rcases List.mem_cons.mp hb with z | z
    · rw [z, upd_same]; exact ⟨Option.some_ne_none _, fun xs h => no xs (Option.some.inj h)⟩
    · rw [l1.hid b z]; exact W.hid b z
  · have hne : a ≠ p := fun z => ha (z ▸ List.mem_of_getElem? e1)
    have x := W.cell k a c e1 e2
    cases c with
    | lst xs => obtain ⟨vs, h, r⟩ := x; exact ⟨vs, (upd_ne hne).trans h, r.mono (List.prefix_refl _) s⟩
    | dK kvs => obtain ⟨vs, h, r⟩ := x; exact ⟨vs, (upd_ne hne).trans h, L2.Paired.mapP r fun _ _ z => ⟨z.1, z.2.mono (List.prefix_refl _) s⟩⟩
    | dT kvs => obtain ⟨vs, h, r⟩ := x; exact ⟨vs, (upd_ne hne).trans h, L2.Paired.mapP r fun _ _ z => ⟨z.1, z.2.mono (List.prefix_refl _) s⟩⟩
    | ins C fs => obtain ⟨dx, vs, h, r⟩ := x; exact ⟨dx, vs, (upd_ne hne).trans h, L2.Paired.mapP r fun _ _ z => ⟨z.1, z.2.mono (List.prefix_refl _) s⟩⟩
    | fK od ws kvs => obtain ⟨h, r⟩ := x; exact ⟨(upd_ne hne).trans h, L2.Paired.mapP r fun _ _ z => ⟨z.1, z.2.mono (List.prefix_refl _) s⟩⟩
/-- the hidden object is written -/
theorem msk_updH {p : Addr} (h : p ∈ η) {o : HO} : msk α η (upd H p o) = msk α η H := by
  funext b
  unfold msk
  by_cases hb : b ∈ α ∨ b ∈ η
  · rw [if_pos hb, if_pos hb]
  · rw [if_neg hb, if_neg hb]
    exact upd_ne fun z => hb (.inr (z ▸ h))
theorem WOk.writeH (W : WOk K α η μ H) {p : Addr} (h : p ∈ η) (o : HO) (no : ∀ xs, o ≠ .tup xs := by intro xs h; cases h) : WOk K α η μ (upd H p o) := by
  refine ⟨W.len, W.nd, W.dis, fun b hb => ?_, fun k a c e1 e2 => ?_⟩
  · by_cases e : b = p
    · rw [e, upd_same]; exact ⟨Option.some_ne_none _, fun xs h => no xs (Option.some.inj h)⟩
    · rw [upd_ne e]; exact W.hid b hb
  · have hne : a ≠ p := fun z => W.dis a (List.mem_of_getElem? e1) (z ▸ h)
    have x := W.cell k a c e1 e2
    have em : msk α η (upd H p o) = msk α η H := msk_updH h
    cases c with
    | lst xs => obtain ⟨vs, h, r⟩ := x; exact ⟨vs, (upd_ne hne).trans h, by rw [em]; exact r⟩
    | dK kvs => obtain ⟨vs, h, r⟩ := x; exact ⟨vs, (upd_ne hne).trans h, by rw [em]; exact r⟩
    | dT kvs => obtain ⟨vs, h, r⟩ := x; exact ⟨vs, (upd_ne hne).trans h, by rw [em]; exact r⟩
    | ins C fs => obtain ⟨dx, vs, h, r⟩ := x; exact ⟨dx, vs, (upd_ne hne).trans h, by rw [em]; exact r⟩
    | fK od ws kvs => obtain ⟨h, r⟩ := x; exact ⟨(upd_ne hne).trans h, by rw [em]; exact r⟩
/-- a hidden list comes out as data, as a cell -/
theorem WOk.out {p : Addr} {vs : List V} {xs : List D} (W : WOk K α (p :: η) μ H) (hp : H p = some (.lst vs)) (r : Reps K α (msk α (p :: η) H) vs xs) (hh : p ∉ η) : Rep K α (msk α η H) (.ref p) (.lst xs) :=
  .lst (msk_some.mpr ⟨fun z => W.dis p z List.mem_cons_self, hh, hp⟩) (r.mono (List.prefix_refl _) msk_cons_le)
theorem WOk.outC {p : Addr} {c : Cell} (W : WOk K α (p :: η) μ H) (hh : p ∉ η) (x : ∀ s : Same (msk α (p :: η) H) (msk (α ++ [p]) η H), CellOk K (α ++ [p]) η H p c) :
    WOk K (α ++ [p]) η (μ ++ [c]) H ∧ Same (msk α (p :: η) H) (msk (α ++ [p]) η H) ∧ (α ++ [p])[μ.length]? = some p := by
  have ha : p ∉ α := fun z => W.dis p z List.mem_cons_self
  have s : Same (msk α (p :: η) H) (msk (α ++ [p]) η H) := fun b u e => by
    obtain ⟨h1, h2, h3⟩ := msk_some.mp e
    refine msk_some.mpr ⟨fun z => ?_, fun z => h2 (List.mem_cons_of_mem _ z), h3⟩
    rcases List.mem_append.mp z with z | z
    · exact h1 z
    · exact h2 (by have : b = p := by simpa using z
                   rw [this]; exact List.mem_cons_self)
  have gp : (α ++ [p])[μ.length]? = some p := by
    rw [← W.len, List.getElem?_append_right (Nat.le_refl _), Nat.sub_self]; rfl
  refine ⟨⟨by rw [List.length_append, List.length_append, W.len]; rfl, ?_, fun a h => ?_, fun b hb => W.hid b (List.mem_cons_of_mem _ hb), fun k a d e1 e2 => ?_⟩, s, gp⟩
  · rw [List.nodup_append]
    exact ⟨W.nd, by simp, fun x hx y hy z => by
      have : y = p := by simpa using hy
      exact ha (by rw [← this, ← z]; exact hx)⟩
  · rcases List.mem_append.mp h with z | z
    · exact fun w => W.dis a z (List.mem_cons_of_mem _ w)
    · have : a = p := by simpa using z
      rw [this]; exact hh
  · by_cases hk : k < μ.length
    · have hk' : k < α.length := by rw [W.len]; exact hk
      rw [List.getElem?_append_left hk'] at e1
      rw [List.getElem?_append_left hk] at e2
      have x := W.cell k a d e1 e2
      cases d with
      | lst xs => obtain ⟨vs, h, r⟩ := x; exact ⟨vs, h, r.mono (List.prefix_append _ _) s⟩
      | dK kvs => obtain ⟨vs, h, r⟩ := x; exact ⟨vs, h, L2.Paired.mapP r fun _ _ z => ⟨z.1, z.2.mono (List.prefix_append _ _) s⟩⟩
      | dT kvs => obtain ⟨vs, h, r⟩ := x; exact ⟨vs, h, L2.Paired.mapP r fun _ _ z => ⟨z.1, z.2.mono (List.prefix_append _ _) s⟩⟩
      | ins C fs => obtain ⟨dx, vs, h, r⟩ := x; exact ⟨dx, vs, h, L2.Paired.mapP r fun _ _ z => ⟨z.1, z.2.mono (List.prefix_append _ _) s⟩⟩
      | fK od ws kvs => obtain ⟨h, r⟩ := x; exact ⟨h, L2.Paired.mapP r fun _ _ z => ⟨z.1, z.2.mono (List.prefix_append _ _) s⟩⟩
    · have hk2 : k = μ.length := by
        have := (List.getElem?_eq_some_iff.mp e2).1
        rw [List.length_append, List.length_singleton] at this
        omega
      subst hk2
      rw [gp] at e1
      have e3 : (μ ++ [c])[μ.length]? = some c := by
        rw [List.getElem?_append_right (Nat.le_refl _), Nat.sub_self]; rfl
      rw [e3] at e2
      cases e1; cases e2
      exact x s
end

/-! ### list comprehensions, one clause -/
/-- how the list comes out: as data or as a cell -/
def LcOut (c : Bool) (acc : List D) (μ : Sto) (Q : DK) : Prop := if c = true then Q (.pr μ.length) (μ ++ [.lst acc]) else Q (.lst acc) μ
theorem lc_out {K : PySem.W.Frag} {η α α1 α' : List Addr} {H H1 H' : Hp} {μ' : Sto} {p : Addr} {vs : List V} {acc : List D} {Q : DK} {c : Bool} (l : Le η α H α1 H1) (W : WOk K α' (p :: η) μ' H') (pr : α1 <+: α') (s : Same (msk α1 η H1) (msk α' (p :: η) H'))
    (hi : ∀ b ∈ η, H' b = H1 b) (hh : p ∉ η) (hp : H' p = some (.lst vs)) (r : Reps K α' (msk α' (p :: η) H') vs acc) (q : LcOut c acc μ' Q) : PD K η α H Q (.ref p) H' := by
  cases c with
  | false => exact fin_le W.unhide (l.trans ⟨pr, s.trans msk_cons_le, hi⟩) (W.out hp r hh) q
  | true =>
    obtain ⟨W2, s2, g⟩ := W.outC (c := .lst acc) hh fun s2 => ⟨vs, hp, r.mono (List.prefix_append _ _) s2⟩
    exact fin_le W2 (l.trans ⟨pr.trans (List.prefix_append _ _), s.trans s2, hi⟩) (.pr g) q
section
variable {X : Cx} {ρ : AEnv} {μ : Sto} {Q : DK} {pos : Pos} {elt tg iter : Expr} {ifs : List Expr} {scope : Scope} {own : List (Str × Nat)}
/-- the readings in every context of the block -/
def gAll (X : Cx) (scope : Scope) (tg : Expr) : TG := fun v σ H Q => ∀ (s : Shared) (H0 : Hp) (C : Addr) (cl : List (Str × Addr)) (fp : List Addr), tG (X.blk s H0 scope (compEnvC scope cl C X.env) fp) tg v σ H Q
def sAll (X : Cx) (scope : Scope) (ifs : List Expr) : TT := fun σ H Q => ∀ (s : Shared) (H0 : Hp) (C : Addr) (cl : List (Str × Addr)) (fp : List Addr), tTs (X.blk s H0 scope (compEnvC scope cl C X.env) fp) ifs σ H Q
def eAll (X : Cx) (scope : Scope) (elt : Expr) : TE := fun σ H Q => ∀ (s : Shared) (H0 : Hp) (C : Addr) (cl : List (Str × Addr)) (fp : List Addr), tE (X.blk s H0 scope (compEnvC scope cl C X.env) fp) elt σ H Q
theorem gAll_ok (s : Shared) (H : Hp) (C : Addr) (cl : List (Str × Addr)) (fp : List Addr) : PG (X.blk s H scope (compEnvC scope cl C X.env) fp) tg (gAll X scope tg) := ⟨fun pins s' σ H' v u Q I r q => q s H C cl fp pins s' u I r⟩
theorem sAll_ok (s : Shared) (H : Hp) (C : Addr) (cl : List (Str × Addr)) (fp : List Addr) : PTs (X.blk s H scope (compEnvC scope cl C X.env) fp) ifs (sAll X scope ifs) := ⟨fun pins s' σ H' Q I q => q s H C cl fp pins s' I⟩
theorem eAll_ok (s : Shared) (H : Hp) (C : Addr) (cl : List (Str × Addr)) (fp : List Addr) : PE (X.blk s H scope (compEnvC scope cl C X.env) fp) elt (eAll X scope elt) := ⟨fun pins s' σ H' Q I q => q s H C cl fp pins s' I⟩
/-- what a comprehension asks, at its source -/
def LcAsk (X : Cx) (elt tg iter : Expr) (ifs : List Expr) (scope : Scope) (vs : List Nat) (ρ : AEnv) (μ : Sto) (c : Bool) (Q : DK) : Prop :=
  aI X tg iter ρ μ fun it μ1 => ∃ P : Nat → List D → Sto → Prop, P 0 [] μ1 ∧ (∀ i acc μ', P i acc μ' → it.cond μ' ∧ acc.length < sizeLine) ∧
    (∀ i d acc μ', it.items[i]? = some d → P i acc μ' → ∀ (s : Shared) (H : Hp) (C : Addr) (cl : List (Str × Addr)) (fp : List Addr), aGc (X.blk s H scope (compEnvC scope cl C X.env) fp) tg vs d (wipeA ρ vs) μ' fun ρ2 μ2 =>
      ∀ (s : Shared) (H : Hp) (C : Addr) (cl : List (Str × Addr)) (fp : List Addr), aTs (X.blk s H scope (compEnvC scope cl C X.env) fp) ifs ρ2 μ2 fun k μ3 => if k = true then
        (∀ (s : Shared) (H : Hp) (C : Addr) (cl : List (Str × Addr)) (fp : List Addr), aE (X.blk s H scope (compEnvC scope cl C X.env) fp) elt ρ2 μ3 fun y μ4 => P (i + 1) (acc ++ [y]) μ4) else P (i + 1) acc μ3) ∧
    ∀ acc μ', P it.items.length acc μ' → LcOut c acc μ' Q
theorem lc_read {c : Bool} {η α : List Addr} {H : Hp} {σ : L2.St} {vs : List Nat} (W : WOk X.K α η μ H) (Ev : EnvR X.K α η H ρ σ) (h : LcAsk X elt tg iter ifs scope vs ρ μ c Q) :
    tLc (tI X tg iter) (gAll X scope tg) (sAll X scope ifs) (eAll X scope elt) vs σ H (PD X.K η α H Q) := by
  refine tI_mono (h η α H σ W Ev) fun J H1 ⟨α1, μ1, it, W1, l1, Y, P, p0, pc, ps, pd⟩ => ?_
  intro p np
  obtain ⟨Wh, s1, k1, ha, hh⟩ := W1.hide np (.lst [])
  refine ⟨fun i m H' => m = it.items.length - i ∧ i ≤ it.items.length ∧ ∃ α' μ' acc ws, WOk X.K α' (p :: η) μ' H' ∧ α1 <+: α' ∧ Same (msk α1 η H1) (msk α' (p :: η) H') ∧ (∀ b ∈ η, H' b = H1 b) ∧ H' p = some (.lst ws) ∧ Reps X.K α' (msk α' (p :: η) H') ws acc ∧ P i acc μ',
    ⟨it.items.length, rfl, Nat.zero_le _, α1, μ1, [], [], Wh, List.prefix_refl _, s1, k1, upd_same, .nil, p0⟩, ?_⟩
  rintro i m H2 ⟨rfl, hi, α2, μ2, acc, ws, W2, pr2, s2, k2, e2, r2, p2⟩
  have E2 : EnvR X.K α2 (p :: η) H2 ρ σ := ⟨Ev.len, fun j d e => by
    obtain ⟨v, hv, r⟩ := (Ev.le l1).get j d e
    exact ⟨v, hv, r.mono pr2 s2⟩⟩
  have y := Y [p] i α2 μ2 H2 W2 pr2 s2 (pc i acc μ2 p2).1
  by_cases hlt : i < it.items.length
  · have e := List.getElem?_eq_getElem hlt
    obtain ⟨go, yl⟩ := y.1 _ e
    refine .inr ⟨go, fun H' => ∃ α' μ' acc ws, WOk X.K α' (p :: η) μ' H' ∧ α1 <+: α' ∧ Same (msk α1 η H1) (msk α' (p :: η) H') ∧ (∀ b ∈ η, H' b = H1 b) ∧ H' p = some (.lst ws) ∧ Reps X.K α' (msk α' (p :: η) H') ws acc ∧ P (i + 1) acc μ', ?_, fun x H3 yx => ?_⟩
    · intro H' p'
      exact ⟨it.items.length - (i + 1), by omega, rfl, hlt, p'⟩
    · obtain ⟨W3, l3, r3⟩ := yl x H3 yx
      intro s H0 C cl fp
      have E3 := (E2.le l3).wipe vs
      refine tG_mono (ps i _ acc μ2 e p2 s H0 C cl fp (p :: η) α2 H3 (L2.wipe σ vs) x W3 E3 r3) fun σ4 H4 ⟨w4, α4, μ4, ρ4, W4, l4, E4, q4⟩ => ⟨w4.trans (wipe_idem _ _), fun s H0 C cl fp => ?_⟩
      refine tTs_mono (q4 s H0 C cl fp (p :: η) α4 H4 σ4 W4 E4) fun k H5 ⟨α5, μ5, W5, l5, q5⟩ => ?_
      have l35 : Le (p :: η) α2 H2 α5 H5 := l3.trans (l4.trans l5)
      cases k with
      | false => exact ⟨α5, μ5, acc, ws, W5, pr2.trans l35.pre, s2.trans l35.same, fun b hb => (l35.hid b (List.mem_cons_of_mem _ hb)).trans (k2 b hb), (l35.hid p List.mem_cons_self).trans e2, r2.le l35, q5⟩
      | true =>
        intro s H0 C cl fp
        refine tE_mono (q5 s H0 C cl fp (p :: η) α5 H5 σ4 W5 (E4.le l5)) fun v H6 ⟨α6, μ6, d6, W6, l6, r6, q6⟩ => ?_
        have l26 := l35.trans l6
        have e6 : H6 p = some (.lst ws) := (l26.hid p List.mem_cons_self).trans e2
        refine ⟨ws, e6, by rw [r2.len]; exact (pc i acc μ2 p2).2, α6, μ6, acc ++ [d6], ws ++ [v], W6.writeH List.mem_cons_self _, pr2.trans l26.pre, ?_, fun b hb => ?_, upd_same, ?_, q6⟩
        · rw [msk_updH List.mem_cons_self]; exact s2.trans l26.same
        · rw [upd_ne (show b ≠ p from fun z => hh (z ▸ hb))]
          exact (l26.hid b (List.mem_cons_of_mem _ hb)).trans (k2 b hb)
        · rw [msk_updH List.mem_cons_self]; exact (r2.le l26).app (.cons r6 .nil)
  · have e : i = it.items.length := by omega
    subst e
    exact .inl ⟨y.2 (Nat.le_refl _), lc_out l1 W2 pr2 s2 k2 hh e2 r2 (pd acc μ2 p2)⟩
theorem aE_lc {c : Bool} {own : List (Str × Nat)} (h : LcAsk X elt tg iter ifs scope (own.map (·.2)) ρ μ c Q) (ok : BlkOk X.N X.env.scope scope own) (hN : X.N.Nodup) (hc : X.calm = true := by rfl) (hs : ∀ x, foldedSetIterable iter X.env x = pure x := by intro _; rfl) :
    aE X (.ListComp elt [⟨tg, iter, ifs, 0⟩] scope pos) ρ μ Q := fun η α H σ W Ev =>
  tE_of (pe_lc hc hN piI ok gAll_ok sAll_ok eAll_ok hs) (lc_read W Ev h)
theorem aS_setLc {c : Bool} {own : List (Str × Nat)} {E : AEnds} {i : Nat} {y : Str} {py spos : Pos} (h : LcAsk X elt tg iter ifs scope (own.map (·.2)) ρ μ c fun d μ1 => E.nx (ρ.set i (some d)) μ1) (ok : BlkOk X.N X.env.scope scope own) (hN : X.N.Nodup)
    (hsw : swapsWith (.ListComp elt [⟨tg, iter, ifs, 0⟩] scope pos) (some (.Name y py)) spos.line X.env = pure true) (hy : X.N[i]? = some y := by rfl) (hyl : X.env.scope.names.lookup y = some .local := by rfl) (hc : X.calm = true := by rfl) (hs : ∀ x, foldedSetIterable iter X.env x = pure x := by intro _; rfl) :
    aS X (.Assign [.Name y py] (.ListComp elt [⟨tg, iter, ifs, 0⟩] scope pos) spos) ρ μ E := fun η α H σ W Ev pins s I =>
  (ps_setLc hc hN hy hyl hsw piI ok gAll_ok sAll_ok eAll_ok hs).run pins s σ H _ I (by
    obtain z := lc_read W Ev h
    show tLc _ _ _ _ _ σ H _
    have mono : ∀ {wi : TI} {g : TG} {tt : TT} {te : TE} {vs : List Nat} {Q Q' : VK}, (∀ σ H R R', (∀ J H, R J H → R' J H) → wi σ H R → wi σ H R') → (∀ v H, Q v H → Q' v H) → tLc wi g tt te vs σ H Q → tLc wi g tt te vs σ H Q' := by
      intro wi g tt te vs Q Q' hw hq t
      refine hw _ _ _ _ (fun J H1 z D hD => ?_) t
      obtain ⟨W, w0, st⟩ := z D hD
      exact ⟨W, w0, fun i m H w => (st i m H w).imp (fun z => ⟨z.1, hq _ _ z.2⟩) fun z => z⟩
    refine mono (fun σ H R R' k z => tI_mono z k) (fun v H1 ⟨α1, μ1, d, W1, l1, r1, q⟩ => ?_) z
    exact ⟨α1, μ1, _, W1, l1, (Ev.le l1).set r1 i, q⟩)
end
end HF

/-! ## A6 -/
namespace HF
open PySem PySem.Spec PyProof.Rows L2

/-! ### what a def promises, without addresses -/
/-- S ds μ R: called with ds at the cells μ it ends with a result that R allows -/
abbrev ASp := List D → Sto → DK → Prop
def absSp (K : PySem.W.Frag) (S : ASp) : Sp := fun vs H Q _ => ∃ η α μ ds R, WOk K α η μ H ∧ Reps K α (msk α η H) vs ds ∧ S ds μ R ∧ ∀ d μ', R d μ' → ∀ v H' α', WOk K α' η μ' H' → Le η α H α' H' → Rep K α' (msk α' η H') v d → Q v H'
/-! ### leaving a def: cells of its own are dropped, a list cell becomes data -/
mutual
def D.clo (n : Nat) : D → Bool
  | .lst xs => cloL n xs
  | .tup xs => cloL n xs
  | .scr xs => cloL n xs
  | .pr k => decide (k < n)
  | _ => true
def cloL (n : Nat) : List D → Bool
  | [] => true
  | x :: r => x.clo n && cloL n r
end
theorem cloL_append {n : Nat} : ∀ {xs ys : List D}, cloL n (xs ++ ys) = (cloL n xs && cloL n ys)
  | [], ys => by simp [cloL]
  | x :: r, ys => by
    show (x.clo n && cloL n (r ++ ys)) = ((x.clo n && cloL n r) && cloL n ys)
    rw [cloL_append, Bool.and_assoc]
theorem cloL_map {n : Nat} {τ : Type} {f : τ → D} : ∀ {L : List τ}, (∀ t ∈ L, (f t).clo n = true) → cloL n (L.map f) = true
  | [], _ => rfl
  | t :: L, h => by
    show ((f t).clo n && cloL n (L.map f)) = true
    rw [h t List.mem_cons_self, cloL_map fun u hu => h u (List.mem_cons_of_mem _ hu)]
    rfl
theorem cloL_iff {n : Nat} : ∀ {xs : List D}, cloL n xs = true ↔ ∀ x ∈ xs, x.clo n = true
  | [] => by simp [cloL]
  | x :: r => by
    show (x.clo n && cloL n r) = true ↔ _
    rw [Bool.and_eq_true, cloL_iff, List.forall_mem_cons]
mutual
theorem Rep.clo {K : PySem.W.Frag} {α : List Addr} {G : Hp} : ∀ {v : V} {d : D}, Rep K α G v d → d.clo α.length = true
  | _, _, .non => rfl
  | _, _, .bl => rfl
  | _, _, .int => rfl
  | _, _, .str => rfl
  | _, _, .lst _ r => Reps.clo r
  | _, _, .scr _ r => Reps.clo r
  | _, _, .tup _ r => Reps.clo r
  | _, _, .pr e => decide_eq_true (List.getElem?_eq_some_iff.mp e).1
  | _, _, .ty => rfl
  | _, _, .kt _ => rfl
theorem Reps.clo {K : PySem.W.Frag} {α : List Addr} {G : Hp} : ∀ {v : List V} {d : List D}, Reps K α G v d → cloL α.length d = true
  | _, _, .nil => rfl
  | _, _, .cons r t => by
    show (D.clo _ _ && cloL _ _) = true
    rw [r.clo, t.clo]; rfl
end
mutual
theorem D.clo_mono {n m : Nat} (h : n ≤ m) : ∀ {d : D}, d.clo n = true → d.clo m = true
  | .non, _ => rfl
  | .bl _, _ => rfl
  | .int _, _ => rfl
  | .str _, _ => rfl
  | .lst xs, q => cloL_mono h (xs := xs) q
  | .tup xs, q => cloL_mono h (xs := xs) q
  | .scr xs, q => cloL_mono h (xs := xs) q
  | .pr k, q => decide_eq_true (Nat.lt_of_lt_of_le (of_decide_eq_true q) h)
  | .ty _, _ => rfl
  | .kt _, _ => rfl
theorem cloL_mono {n m : Nat} (h : n ≤ m) : ∀ {xs : List D}, cloL n xs = true → cloL m xs = true
  | [], _ => rfl
  | x :: r, q => by
    have q : (x.clo n && cloL n r) = true := q
    rw [Bool.and_eq_true] at q
    show (x.clo m && cloL m r) = true
    rw [D.clo_mono h q.1, cloL_mono h q.2]; rfl
end
/-! the same in the world with the first m cells alone -/
mutual
theorem Rep.cut {K : PySem.W.Frag} {α : List Addr} {G G' : Hp} {m : Nat} (s : Same G G') : ∀ {v : V} {d : D}, Rep K α G v d → d.clo m = true → Rep K (α.take m) G' v d
  | _, _, .non, _ => .non
  | _, _, .bl, _ => .bl
  | _, _, .int, _ => .int
  | _, _, .str, _ => .str
  | _, _, .lst q r, c => .lst (s _ _ q) (Reps.cut s r c)
  | _, _, .scr q r, c => .scr (s.seq q) (Reps.cut s r c)
  | _, _, .tup q r, c => .tup (Same.seqT s q) (Reps.cut s r c)
  | _, _, .pr e, c => .pr (by rw [List.getElem?_take_of_lt (of_decide_eq_true c)]; exact e)
  | _, _, .ty, _ => .ty
  | _, _, .kt q, _ => .kt (s _ _ q)
theorem Reps.cut {K : PySem.W.Frag} {α : List Addr} {G G' : Hp} {m : Nat} (s : Same G G') : ∀ {v : List V} {d : List D}, Reps K α G v d → cloL m d = true → Reps K (α.take m) G' v d
  | _, _, .nil, _ => .nil
  | _, x :: r, .cons a t, c => by
    have c : (x.clo m && cloL m r) = true := c
    rw [Bool.and_eq_true] at c
    exact .cons (a.cut s c.1) (t.cut s c.2)
end
def cloKV {κ : Type} (n : Nat) (l : List (κ × D)) : Bool := cloL n (l.map (·.2))
def Cell.clo (n : Nat) : Cell → Bool
  | .lst xs => cloL n xs
  | .dK kvs => cloKV n kvs
  | .dT kvs => cloKV n kvs
  | .ins _ fs => cloKV n fs
  | .fK _ _ kvs => cloKV n kvs
theorem RepKV.cut {κ : Type} {K : PySem.W.Frag} {α : List Addr} {G G' : Hp} {m : Nat} (s : Same G G') : ∀ {ws : List (κ × V)} {ds : List (κ × D)}, RepKV K α G ws ds → cloKV m ds = true → RepKV K (α.take m) G' ws ds
  | _, _, .nil, _ => .nil
  | _, (k, x) :: r, .cons a t, c => by
    have c : (x.clo m && cloL m (r.map (·.2))) = true := c
    rw [Bool.and_eq_true] at c
    exact .cons ⟨a.1, a.2.cut s c.1⟩ (RepKV.cut s t c.2)
theorem RepKV.clo {κ : Type} {K : PySem.W.Frag} {α : List Addr} {G : Hp} : ∀ {ws : List (κ × V)} {ds : List (κ × D)}, RepKV K α G ws ds → cloKV α.length ds = true
  | _, _, .nil => rfl
  | _, (k, x) :: r, .cons a t => by
    show (x.clo _ && cloL _ (r.map (·.2))) = true
    have c := RepKV.clo t
    unfold cloKV at c
    rw [a.2.clo, c]; rfl
theorem CellOk.clo {K : PySem.W.Frag} {α η : List Addr} {H : Hp} {a : Addr} {c : Cell} (x : CellOk K α η H a c) : c.clo α.length = true := by
  cases c with
  | lst xs => obtain ⟨vs, h, r⟩ := x; exact r.clo
  | dK kvs => obtain ⟨vs, h, r⟩ := x; exact r.clo
  | dT kvs => obtain ⟨vs, h, r⟩ := x; exact r.clo
  | ins C fs => obtain ⟨dx, vs, h, r⟩ := x; exact r.clo
  | fK od ws kvs => obtain ⟨h, r⟩ := x; exact r.clo
theorem CellOk.cut {K : PySem.W.Frag} {α η : List Addr} {H : Hp} {a : Addr} {c : Cell} {m : Nat} (s : Same (msk α η H) (msk (α.take m) η H)) (x : CellOk K α η H a c) (hc : c.clo m = true) : CellOk K (α.take m) η H a c := by
  cases c with
  | lst xs => obtain ⟨vs, h, r⟩ := x; exact ⟨vs, h, r.cut s hc⟩
  | dK kvs => obtain ⟨vs, h, r⟩ := x; exact ⟨vs, h, r.cut s hc⟩
  | dT kvs => obtain ⟨vs, h, r⟩ := x; exact ⟨vs, h, r.cut s hc⟩
  | ins C fs => obtain ⟨dx, vs, h, r⟩ := x; exact ⟨dx, vs, h, r.cut s hc⟩
  | fK od ws kvs => obtain ⟨h, r⟩ := x; exact ⟨h, r.cut s hc⟩
/-- from the cells μ0 at the entry: (d, μ) may be handed out as (d2, μ2) -/
def Exit (μ0 : Sto) (d : D) (μ : Sto) (d2 : D) (μ2 : Sto) : Prop :=
  (d2 = d ∧ μ2 = μ) ∨
  ((∃ ext, μ = μ2 ++ ext) ∧ μ0.length ≤ μ2.length ∧ (∀ (k : Nat) c, μ2[k]? = some c → μ0[k]? = some c ∨ c.clo μ2.length = true) ∧
    ((d2 = d ∧ d.clo μ2.length = true) ∨ ∃ k xs, d = .pr k ∧ μ2.length ≤ k ∧ μ[k]? = some (.lst xs) ∧ d2 = .lst xs ∧ cloL μ2.length xs = true))
theorem Exit.ok {K : PySem.W.Frag} {η α0 α : List Addr} {H0 H : Hp} {μ0 μ μ2 : Sto} {v : V} {d d2 : D} (W0 : WOk K α0 η μ0 H0) (W : WOk K α η μ H) (l : Le η α0 H0 α H) (r : Rep K α (msk α η H) v d) (x : Exit μ0 d μ d2 μ2) :
    ∃ α2, WOk K α2 η μ2 H ∧ Le η α0 H0 α2 H ∧ Rep K α2 (msk α2 η H) v d2 := by
  rcases x with ⟨rfl, rfl⟩ | ⟨⟨ext, rfl⟩, hm, hc, hd⟩
  · exact ⟨α, W, l, r⟩
  · have hl : α.length = μ2.length + ext.length := by rw [W.len, List.length_append]
    have hl2 : (α.take μ2.length).length = μ2.length := by rw [List.length_take]; omega
    have s : Same (msk α η H) (msk (α.take μ2.length) η H) := fun b u e => by
      obtain ⟨h1, h2, h3⟩ := msk_some.mp e
      exact msk_some.mpr ⟨fun z => h1 (List.mem_of_mem_take z), h2, h3⟩
    have pre : α0 <+: α.take μ2.length := by
      obtain ⟨t, ht⟩ := l.pre
      refine ⟨t.take (μ2.length - α0.length), ?_⟩
      rw [← ht, List.take_append, List.take_of_length_le (i := μ2.length) (l := α0) (by rw [W0.len]; exact hm), W0.len]
    have ok : ∀ (k : Nat) c, μ2[k]? = some c → c.clo μ2.length = true := fun k c e => by
      rcases hc k c e with z | z
      · obtain ⟨a, ea, q⟩ := W0.get z
        have := q.clo
        rw [W0.len] at this
        cases c with
        | lst xs => exact cloL_mono hm this
        | dK kvs => exact cloL_mono hm this
        | dT kvs => exact cloL_mono hm this
        | ins C fs => exact cloL_mono hm this
        | fK od ws kvs => exact cloL_mono hm this
      · exact z
    refine ⟨α.take μ2.length, ⟨hl2, W.nd.sublist (List.take_sublist _ _), fun a h => W.dis a (List.mem_of_mem_take h), W.hid, fun k a c e1 e2 => ?_⟩, ⟨pre, l.same.trans s, l.hid⟩, ?_⟩
    · have hk : k < μ2.length := (List.getElem?_eq_some_iff.mp e2).1
      rw [List.getElem?_take_of_lt hk] at e1
      have e3 : (μ2 ++ ext)[k]? = some c := by rw [List.getElem?_append_left hk]; exact e2
      exact (W.cell k a c e1 e3).cut s (ok k c e2)
    · rcases hd with ⟨rfl, hd⟩ | ⟨k, xs, rfl, hk, ek, rfl, hx⟩
      · exact r.cut s hd
      · cases r with
        | pr ea =>
          rename_i a
          obtain ⟨vs, hq, rr⟩ := W.cell k a _ ea ek
          refine .lst (msk_some.mpr ⟨fun z => ?_, W.dis a (List.mem_of_getElem? ea), hq⟩) (rr.cut s hx)
          obtain ⟨j, hj, ej⟩ := List.getElem_of_mem z
          have hj2 : j < μ2.length := by rw [hl2] at hj; exact hj
          have e4 : α[j]? = some a := by
            have : (α.take μ2.length)[j]? = some a := by rw [List.getElem?_eq_getElem hj, ej]
            rwa [List.getElem?_take_of_lt hj2] at this
          have : j = k := by
            obtain ⟨h1, q1⟩ := List.getElem?_eq_some_iff.mp e4
            obtain ⟨h2, q2⟩ := List.getElem?_eq_some_iff.mp ea
            exact (List.getElem_inj W.nd).mp (q1.trans q2.symm)
          omega
theorem Exit.same {μ0 : Sto} {d : D} {μ : Sto} : Exit μ0 d μ d μ := .inl ⟨rfl, rfl⟩
/-- all cells of its own go -/
theorem Exit.drop {μ0 ext : Sto} {d : D} (h : d.clo μ0.length = true) : Exit μ0 d (μ0 ++ ext) d μ0 := .inr ⟨⟨ext, rfl⟩, Nat.le_refl _, fun _ _ e => .inl e, .inl ⟨rfl, h⟩⟩
theorem Exit.list {μ0 ext : Sto} {k : Nat} {xs : List D} (hk : μ0.length ≤ k) (e : (μ0 ++ ext)[k]? = some (.lst xs)) (h : cloL μ0.length xs = true) : Exit μ0 (.pr k) (μ0 ++ ext) (.lst xs) μ0 :=
  .inr ⟨⟨ext, rfl⟩, Nat.le_refl _, fun _ _ e => .inl e, .inr ⟨k, xs, rfl, hk, e, rfl, h⟩⟩

/-! ### a def by its body -/
def startA (n : Nat) (ds : List D) : AEnv := ds.map some ++ List.replicate (n - ds.length) none
theorem start_ok {K : PySem.W.Frag} {α η : List Addr} {H : Hp} {N : List Str} {vs : List V} {ds : List D} (r : Reps K α (msk α η H) vs ds) : EnvR K α η H (startA N.length ds) (L2.start N vs) := by
  have hl := r.len
  refine ⟨by unfold startA L2.start; simp [hl], fun i d h => ?_⟩
  unfold startA at h
  by_cases hi : i < ds.length
  · rw [List.getElem?_append_left (by simpa using hi), List.getElem?_map] at h
    cases e : ds[i]? with
    | none => rw [e] at h; cases h
    | some d' =>
      rw [e] at h
      cases h
      obtain ⟨v, hv, rv⟩ := r.get e
      refine ⟨v, ?_, rv⟩
      unfold L2.start
      rw [List.getElem?_append_left (by rw [List.length_map, hl]; exact hi), List.getElem?_map, hv]
      rfl
  · rw [List.getElem?_append_right (by simpa using hi), List.getElem?_replicate] at h
    split at h <;> cases h
section
variable {P : Program} {w : World} {K : PySem.W.Frag} {mg : Str → Option Value} {base : Heap}
abbrev AOk (P : Program) (w : World) (K : PySem.W.Frag) (mg : Str → Option Value) (base : Heap) (k : Nat) (f : Addr) (fd : FuncData) (ps : List Str) (S : ASp) : Prop := FnOk P w K mg base CX0 k f fd ps (absSp K S)
def ends (μ0 : Sto) (R : DK) : AEnds := { nx := fun _ μ' => ∃ d2 μ2, Exit μ0 .non μ' d2 μ2 ∧ R d2 μ2, rt := fun d μ' => ∃ d2 μ2, Exit μ0 d μ' d2 μ2 ∧ R d2 μ2 }
theorem fnA {x qual : Str} {st : Stmt} {f : Addr} {fd : FuncData} {N ps : List Str} {k : Nat} {S : ASp} (F : Fun K x qual st f fd) (Sc : FnScope N ps (defScope st)) (len : ∀ ds μ R, S ds μ R → ds.length = ps.length)
    (hbody : ∀ (cdv : Value) (A : Around) (outer : List Env) (s : Shared) (H : Hp) (E : XK) (ds : List D) (μ : Sto) (R : DK), Room k (A.deeper (envOfC qual (defScope st) s.heap.objs.size f cdv)) → S ds μ R →
      aSs (cxOf CX0 P w K mg base N qual (defScope st) f cdv A outer s H E).nox (defBody st) (startA N.length ds) μ (ends μ R)) : AOk P w K mg base (k + 1) f fd ps S := by
  refine F.ok Sc (fun vs H Q E h => ?_) (fun cdv A outer s H vs Q E hr h => ?_)
  · obtain ⟨η, α, μ, ds, R, W, r, hs, _⟩ := h
    rw [r.len]
    exact len ds μ R hs
  · obtain ⟨η, α, μ, ds, R, W, r, hs, q⟩ := h
    refine ⟨_, pssS, ?_⟩
    have fin : ∀ v H', PD K η α H (fun d μ' => ∃ d2 μ2, Exit μ d μ' d2 μ2 ∧ R d2 μ2) v H' → Q v H' := fun v H' ⟨α', μ', d, W', l', r', d2, μ2, x, hR⟩ => by
      obtain ⟨α2, W2, l2, r2⟩ := x.ok W W' l' r'
      exact q d2 μ2 hR v H' α2 W2 l2 r2
    refine tSs_mono (hbody cdv A outer s H E ds μ R hr hs η α H _ W (start_ok r)) (fun σ H' z => ?_) (fun v H' z => fin v H' z) (fun σ H' ⟨_, _, _, _, _, _, z⟩ => z.elim) (fun σ H' ⟨_, _, _, _, _, _, z⟩ => z.elim)
    obtain ⟨α', μ', ρ', W', l', E', d2, μ2, x, hR⟩ := z
    exact fin .non H' ⟨α', μ', .non, W', l', .non, d2, μ2, x, hR⟩
end

/-! ### calls of the text's defs -/
/-- the values of the defaults -/
def DefV (K : PySem.W.Frag) (dvs : List V) (ds : List Value) (xs : List D) : Prop := Vals dvs ds ∧ ∀ α G, Reps K α G dvs xs
theorem DefV.nil {K : PySem.W.Frag} : DefV K [] [] [] := ⟨.nil, fun _ _ => .nil⟩
section
variable {X : Cx} {e a b c o : Expr} {es : List Expr} {ρ : AEnv} {μ : Sto} {Q : DK} {pos p apos : Pos} {k : Nat} {f C : Addr} {fd : FuncData} {ps : List Str} {S : ASp} {dvs : List V} {dv : List Value} {xs : List D} {x m : Str}
theorem absSp_of {η α α1 : List Addr} {H H1 : Hp} {μ1 : Sto} {vs : List V} {ds : List D} {E : XK} (W1 : WOk X.K α1 η μ1 H1) (l1 : Le η α H α1 H1) (r : Reps X.K α1 (msk α1 η H1) vs ds) (q : S ds μ1 Q) : absSp X.K S vs H1 (PD X.K η α H Q) E :=
  ⟨η, α1, μ1, ds, Q, W1, r, q, fun d μ' hq v H' α' W' l' r' => fin_le W' (l1.trans l') r' hq⟩
theorem aE_call (F : AOk X.prog X.w X.K X.mg X.base k f fd ps S) (hr : Room k X.A) (hm : X.mg x = some (.ref f)) (hk : PySem.W.keepIn X.K (.ref f) = true) (hb : Binds X.K fd ps dv) (hd : DefV X.K dvs dv xs)
    (h : aA X (e :: es) ρ μ fun ds μ1 => S (ds ++ xs) μ1 Q) (hg : Gl X x := by rfl) (hdb : (x == ("__debug__" : Str)) = false := by decide) (he : starEach (e :: es) X.env = (false, eval e X.env) :: starEach es X.env := by rfl) (hpl : (backTo pos (starEach es X.env)).any (·.1) = false := by rfl) :
    aE X (.Call (.Name x p) (e :: es) [] pos) ρ μ Q := fun η α H σ W Ev =>
  tE_of (pe_call F hr hg hm hk hb hd.1 (pass0 (X := X)) paA hdb he hpl) (aA_then W Ev h fun vs H1 α1 μ1 ds W1 l1 E1 r1 q => absSp_of W1 l1 (r1.app (hd.2 _ _)) q)
/-- what is asked of an instance cell -/
def IsI (μ : Sto) (d : D) (C : Addr) (fs : List (Str × D)) : Prop := ∃ k, d = .pr k ∧ μ[k]? = some (.ins C fs)
theorem RepKV.lookup {K : PySem.W.Frag} {α : List Addr} {G : Hp} {f : Str} : ∀ {ws : List (Str × V)} {fs : List (Str × D)}, RepKV K α G ws fs → (match fs.lookup f with | some d => ∃ v, ws.lookup f = some v ∧ Rep K α G v d | none => ws.lookup f = none)
  | _, _, .nil => rfl
  | (k, v) :: ws, (k', d) :: fs, .cons a t => by
    have e : k = k' := a.1
    subst e
    have ih := RepKV.lookup (f := f) t
    rw [List.lookup_cons, List.lookup_cons]
    cases hb : f == k with
    | true => exact ⟨v, rfl, a.2⟩
    | false => exact ih
theorem aE_meth {pl : Sem Bool} (F : AOk X.prog X.w X.K X.mg X.base k f fd ps S) (hr : Room k X.A) (hc : Cls X.K C) (hm : Meth X.K C m f) (hb : Binds X.K fd ps dv) (hd : DefV X.K dvs dv xs)
    (h : aE X o ρ μ fun d μ1 => ∃ fs, IsI μ1 d C fs ∧ fs.lookup m = none ∧ aA X (e :: es) ρ μ1 fun ds μ2 => S (d :: (ds ++ xs)) μ2 Q)
    (hst : starEach (e :: es) X.env = (false, eval e X.env) :: starEach es X.env := by rfl) (hpl : (backTo pos (starEach es X.env)).any (·.1) = false := by rfl)
    (ht : eval (.Call (.Attribute o m apos) (e :: es) [] pos) X.env = (do
      let ov ← eval o X.env
      standAt apos.atName
      let (f, first) ← holding [ov] (getMethod ov m pl)
      callWith pos f first (backTo pos (starEach (e :: es) X.env)) (backToKw pos (keywordEach [] X.env))) := by rfl) : aE X (.Call (.Attribute o m apos) (e :: es) [] pos) ρ μ Q := fun η α H σ W Ev =>
  tE_of (pe_meth peE hc hm F hr hb hd.1 (pass0 (X := X)) paA hst hpl ht) (aE_then W Ev h fun v H1 α1 μ1 d W1 l1 E1 r1 ⟨fs, ⟨j, ed, ej⟩, hl, q⟩ => by
    subst ed
    cases r1 with
    | pr ea =>
      rename_i a
      obtain ⟨dx, ws, hq, rr⟩ := W1.cell j a _ ea ej
      have hl2 := RepKV.lookup (f := m) rr
      rw [hl] at hl2
      refine ⟨a, dx, ws, rfl, hq, hl2, aA_then W1 E1 q fun vs H2 α2 μ2 ds W2 l2 E2 r2 q2 => ?_⟩
      exact absSp_of W2 (l1.trans l2) (.cons (.pr (pre_get l2.pre ea)) (r2.app (hd.2 _ _))) q2)
theorem aE_meth0 {pl : Sem Bool} (F : AOk X.prog X.w X.K X.mg X.base k f fd ps S) (hr : Room k X.A) (hc : Cls X.K C) (hm : Meth X.K C m f) (hb : Binds X.K fd ps dv) (hd : DefV X.K dvs dv xs)
    (h : aE X o ρ μ fun d μ1 => ∃ fs, IsI μ1 d C fs ∧ fs.lookup m = none ∧ S (d :: xs) μ1 Q)
    (ht : eval (.Call (.Attribute o m apos) [] [] pos) X.env = (do
      let ov ← eval o X.env
      standAt apos.atName
      let (f, first) ← holding [ov] (getMethod ov m pl)
      callWith pos f first (backTo pos (starEach [] X.env)) (backToKw pos (keywordEach [] X.env))) := by rfl) : aE X (.Call (.Attribute o m apos) [] [] pos) ρ μ Q := fun η α H σ W Ev =>
  tE_of (pe_meth0 peE hc hm F hr hb hd.1 (pass0 (X := X)) ht) (aE_then W Ev h fun v H1 α1 μ1 d W1 l1 E1 r1 ⟨fs, ⟨j, ed, ej⟩, hl, q⟩ => by
    subst ed
    cases r1 with
    | pr ea =>
      rename_i a
      obtain ⟨dx, ws, hq, rr⟩ := W1.cell j a _ ea ej
      have hl2 := RepKV.lookup (f := m) rr
      rw [hl] at hl2
      exact ⟨a, dx, ws, rfl, hq, hl2, absSp_of (E := E0) (vs := .ref a :: ([] ++ dvs)) W1 l1 (.cons (.pr ea) (hd.2 _ _)) q⟩)
/-- C(..): a new instance, empty, then __init__ -/
theorem aE_make (M : Mk X.K C f) (F : AOk X.prog X.w X.K X.mg X.base k f fd ps S) (hr : Room (k + 1) X.A) (hm : X.mg x = some (.ref C)) (hb : Binds X.K fd ps dv) (hd : DefV X.K dvs dv xs)
    (h : aA X (e :: es) ρ μ fun ds μ1 => S (.pr μ1.length :: (ds ++ xs)) (μ1 ++ [.ins C []]) fun d μ2 => d = .non ∧ Q (.pr μ1.length) μ2)
    (hg : Gl X x := by rfl) (hdb : (x == ("__debug__" : Str)) = false := by decide) (he : starEach (e :: es) X.env = (false, eval e X.env) :: starEach es X.env := by rfl) (hpl : (backTo pos (starEach es X.env)).any (·.1) = false := by rfl) :
    aE X (.Call (.Name x p) (e :: es) [] pos) ρ μ Q := fun η α H σ W Ev =>
  tE_of (pe_make M F hr hg hm hb hd.1 (pass0 (X := X)) paA hdb he hpl) (aA_then W Ev h fun vs H1 α1 μ1 ds W1 l1 E1 r1 q => by
    intro y dx ny nd ne
    obtain ⟨W2, l2, n1, n2⟩ := W1.new nd (.own y)
    have ny2 : upd H1 dx (.own y) y = none := by rw [upd_ne (Ne.symm ne)]; exact ny
    obtain ⟨W3, l3, g⟩ := W2.newCell ny2 (o := .ins C dx []) (c := .ins C []) fun l => ⟨dx, [], upd_same, .nil⟩
    have l13 := l2.trans l3
    refine ⟨η, _, _, _, _, W3, .cons (.pr g) ((r1.le l13).app (hd.2 _ _)), q, fun d μ' ⟨hd', hq⟩ v H' α' W' l' r' => ?_⟩
    subst hd'
    refine ⟨r'.nonV, fin_le W' (l1.trans (l13.trans l')) (.pr (pre_get l'.pre g)) hq⟩)
end
end HF

/-! ## A7 -/
namespace HF
open PySem PySem.Spec PyProof.Rows L2

section
variable {X : Cx} {e a b c o : Expr} {es : List Expr} {ρ : AEnv} {μ : Sto} {Q : DK} {pos : Pos}
theorem xOp_of {f : Value → Value → Sem Value} {r : R2} (h : OpR X f r) {v u : V} {H : Hp} {Q : VK} (q : r v u H Q) : xOp X f v u H Q := ⟨r, Q, h, q, fun _ _ z => z⟩
theorem xUn_of {f : Value → Sem Value} {r : V → Hp → VK → Prop} (h : UnR X f r) {v : V} {H : Hp} {Q : VK} (q : r v H Q) : xUn X f v H Q := ⟨r, Q, h, q, fun _ _ z => z⟩
theorem xIx_of {r : R2} (h : IxR X r) {v u : V} {H : Hp} {Q : VK} (q : r v u H Q) : xIx X v u H Q := ⟨r, Q, h, q, fun _ _ z => z⟩
theorem xCall_of {f : Value} {r : List V → Hp → VK → Prop} (h : CallR X f r) {v : List V} {H : Hp} {Q : VK} (q : r v H Q) : xCall X f v H Q := ⟨r, Q, h, q, fun _ _ z => z⟩
theorem xMt_of {id : String} {r : V → List V → Hp → VK → Prop} (h : MtR X id r) {x : V} {v : List V} {H : Hp} {Q : VK} (q : r x v H Q) : xMt X id x v H Q := ⟨r, Q, h, q, fun _ _ z => z⟩
theorem xSl_of {r : V → Option Int → Option Int → Hp → VK → Prop} (h : SlR X r) {x : V} {lo hi : Option Int} {H : Hp} {Q : VK} (q : r x lo hi H Q) : xSl X x lo hi H Q := ⟨r, Q, h, q, fun _ _ z => z⟩
theorem fin0 {K : PySem.W.Frag} {η α : List Addr} {H : Hp} {v : V} {d : D} (W : WOk K α η μ H) (r : Rep K α (msk α η H) v d) (q : Q d μ) : PD K η α H Q v H := fin_le W Le.refl r q

/-! ### ints -/
variable {i j : Int}
theorem aop_addI (q : Q (.int (i + j)) μ) : AOp X (binaryOp .Add) (.int i) (.int j) μ Q := fun η α H v u W rv ru => xOp_of op_add ⟨i, j, rv.intV, ru.intV, fin0 W .int q⟩
theorem aop_subI (q : Q (.int (i - j)) μ) : AOp X (binaryOp .Sub) (.int i) (.int j) μ Q := fun η α H v u W rv ru => xOp_of op_sub ⟨i, j, rv.intV, ru.intV, fin0 W .int q⟩
theorem aop_mulI (hc : CMul i j) (q : Q (.int (i * j)) μ) : AOp X (binaryOp .Mult) (.int i) (.int j) μ Q := fun η α H v u W rv ru => xOp_of op_mul ⟨i, j, rv.intV, ru.intV, hc, fin0 W .int q⟩
theorem aop_modI (hc : 0 < j) (q : Q (.int (i % j)) μ) : AOp X (binaryOp .Mod) (.int i) (.int j) μ Q := fun η α H v u W rv ru => xOp_of op_mod ⟨i, j, rv.intV, ru.intV, hc, fin0 W .int q⟩
theorem aop_divI (hc : CDiv i j) (q : Q (.int (i / j)) μ) : AOp X (binaryOp .FloorDiv) (.int i) (.int j) μ Q := fun η α H v u W rv ru => xOp_of op_fdiv ⟨i, j, rv.intV, ru.intV, hc, fin0 W .int q⟩
theorem aop_powI (hc : CPow i j) (q : Q (.int (i ^ j.toNat)) μ) : AOp X (binaryOp .Pow) (.int i) (.int j) μ Q := fun η α H v u W rv ru => xOp_of op_pow ⟨i, j, rv.intV, ru.intV, hc, fin0 W .int q⟩
theorem aun_neg (q : Q (.int (-i)) μ) : AUn X (unaryOp .USub) (.int i) μ Q := fun η α H v W rv => xUn_of un_neg ⟨i, rv.intV, fin0 W .int q⟩
theorem aop_lt (q : Q (.bl (decide (i < j))) μ) : AOp X (compareOp .Lt) (.int i) (.int j) μ Q := fun η α H v u W rv ru => xOp_of op_lt ⟨i, j, rv.intV, ru.intV, fin0 W .bl q⟩
theorem aop_le (q : Q (.bl (decide (i ≤ j))) μ) : AOp X (compareOp .LtE) (.int i) (.int j) μ Q := fun η α H v u W rv ru => xOp_of op_le ⟨i, j, rv.intV, ru.intV, fin0 W .bl q⟩
theorem aop_gt (q : Q (.bl (decide (j < i))) μ) : AOp X (compareOp .Gt) (.int i) (.int j) μ Q := fun η α H v u W rv ru => xOp_of op_gt ⟨i, j, rv.intV, ru.intV, fin0 W .bl q⟩
theorem aop_ge (q : Q (.bl (decide (j ≤ i))) μ) : AOp X (compareOp .GtE) (.int i) (.int j) μ Q := fun η α H v u W rv ru => xOp_of op_ge ⟨i, j, rv.intV, ru.intV, fin0 W .bl q⟩
theorem beqI (i j : Int) : (i == j) = decide (i = j) := by
  by_cases h : i = j
  · subst h; simp
  · rw [decide_eq_false h]; simpa using h
theorem aop_eqI (q : Q (.bl (decide (i = j))) μ) : AOp X (compareOp .Eq) (.int i) (.int j) μ Q := fun η α H v u W rv ru => xOp_of op_eq (by
  rw [rv.intV, ru.intV]
  exact ⟨rfl, by rw [dec_int, beqI]; exact fin0 W .bl q⟩)
theorem aop_neI (q : Q (.bl (!decide (i = j))) μ) : AOp X (compareOp .NotEq) (.int i) (.int j) μ Q := fun η α H v u W rv ru => xOp_of op_ne (by
  rw [rv.intV, ru.intV]
  exact ⟨rfl, by rw [dec_int, beqI]; exact fin0 W .bl q⟩)
theorem dec_strD {x y : Str} : decide (V.str x = V.str y) = decide (x = y) := by
  by_cases h : x = y
  · rw [h]; simp
  · rw [decide_eq_false h, decide_eq_false fun z => h (V.str.inj z)]
theorem dec_blD {x y : Bool} : decide (V.bl x = V.bl y) = decide (x = y) := by
  by_cases h : x = y
  · rw [h]; simp
  · rw [decide_eq_false h, decide_eq_false fun z => h (V.bl.inj z)]
theorem aop_eqS {x y : Str} (q : Q (.bl (decide (x = y))) μ) : AOp X (compareOp .Eq) (.str x) (.str y) μ Q := fun η α H v u W rv ru => xOp_of op_eq (by
  rw [rv.strV, ru.strV]
  exact ⟨rfl, by rw [dec_strD]; exact fin0 W .bl q⟩)
theorem aop_neS {x y : Str} (q : Q (.bl (!decide (x = y))) μ) : AOp X (compareOp .NotEq) (.str x) (.str y) μ Q := fun η α H v u W rv ru => xOp_of op_ne (by
  rw [rv.strV, ru.strV]
  exact ⟨rfl, by rw [dec_strD]; exact fin0 W .bl q⟩)
theorem aop_eqB {x y : Bool} (q : Q (.bl (decide (x = y))) μ) : AOp X (compareOp .Eq) (.bl x) (.bl y) μ Q := fun η α H v u W rv ru => xOp_of op_eq (by
  rw [rv.blV, ru.blV]
  exact ⟨rfl, by rw [dec_blD]; exact fin0 W .bl q⟩)
theorem aop_neB {x y : Bool} (q : Q (.bl (!decide (x = y))) μ) : AOp X (compareOp .NotEq) (.bl x) (.bl y) μ Q := fun η α H v u W rv ru => xOp_of op_ne (by
  rw [rv.blV, ru.blV]
  exact ⟨rfl, by rw [dec_blD]; exact fin0 W .bl q⟩)
theorem aop_eqN (q : Q (.bl true) μ) : AOp X (compareOp .Eq) .non .non μ Q := fun η α H v u W rv ru => xOp_of op_eq (by
  rw [rv.nonV, ru.nonV]
  exact ⟨rfl, by simpa using fin0 W .bl q⟩)
def D.isNon : D → Bool
  | .non => true
  | _ => false
theorem Rep.isNon {K : PySem.W.Frag} {α : List Addr} {G : Hp} {v : V} {d : D} (r : Rep K α G v d) : decide (v = .non) = d.isNon := by
  cases r <;> rfl
theorem aop_isN {d : D} (q : Q (.bl d.isNon) μ) : AOp X (compareOp .Is) d .non μ Q := fun η α H v u W rv ru => xOp_of op_isN ⟨ru.nonV, by rw [rv.isNon]; exact fin0 W .bl q⟩
theorem aop_notN {d : D} (q : Q (.bl (!d.isNon)) μ) : AOp X (compareOp .IsNot) d .non μ Q := fun η α H v u W rv ru => xOp_of op_notN ⟨ru.nonV, by rw [rv.isNon]; exact fin0 W .bl q⟩

/-! ### lists and tuples -/
variable {x y : D} {xs ys : List D}
theorem aop_cat (hx : IsL μ x xs) (hy : IsL μ y ys) (hz : xs.length + ys.length ≤ sizeLine) (q : Q (.lst (xs ++ ys)) μ) : AOp X (binaryOp .Add) x y μ Q := fun η α H v u W rv ru => by
  obtain ⟨a, vs, rfl, hq, r⟩ := hx.at W rv
  obtain ⟨b, ws, rfl, hq2, r2⟩ := hy.at W ru
  exact xOp_of op_cat ⟨a, b, vs, ws, rfl, rfl, hq, hq2, by rw [r.len, r2.len]; exact hz, fun p n => new_lst W (r.app r2) q n⟩
theorem aop_catC (hx : IsL μ x xs) (hy : IsL μ y ys) (hz : xs.length + ys.length ≤ sizeLine) (q : Q (.pr μ.length) (μ ++ [.lst (xs ++ ys)])) : AOp X (binaryOp .Add) x y μ Q := fun η α H v u W rv ru => by
  obtain ⟨a, vs, rfl, hq, r⟩ := hx.at W rv
  obtain ⟨b, ws, rfl, hq2, r2⟩ := hy.at W ru
  exact xOp_of op_cat ⟨a, b, vs, ws, rfl, rfl, hq, hq2, by rw [r.len, r2.len]; exact hz, fun p n => new_lstC W (r.app r2) q n⟩
theorem aop_catT (h0 : xs ≠ []) (hz : xs.length + ys.length ≤ sizeLine) (q : Q (.tup (xs ++ ys)) μ) : AOp X (binaryOp .Add) (.tup xs) (.tup ys) μ Q := fun η α H v u W rv ru => by
  cases rv with
  | tup q1 r1 =>
    cases ru with
    | tup q2 r2 =>
      rename_i a vs b ws
      refine xOp_of op_catT ⟨a, b, vs, ws, rfl, rfl, SqT.unmsk q1, SqT.unmsk q2, fun z => ?_, by rw [r1.len, r2.len]; exact hz, fun z => ?_, fun z p n => new_tup W (r1.app r2) q n⟩
      · subst z
        cases r1
        exact h0 rfl
      · subst z
        cases r2
        rw [List.append_nil] at q
        exact fin0 W (.tup q1 r1) q
theorem eq_any_int {n : Int} : ∀ ns : List Int, inV (.int n) (ns.map V.int) = decide (n ∈ ns)
  | [] => by simp [inV]
  | m :: ns => by
    have ih := eq_any_int (n := n) ns
    unfold inV at ih ⊢
    rw [List.map_cons, List.any_cons, ih]
    show ((m == n) || decide (n ∈ ns)) = decide (n ∈ m :: ns)
    by_cases h : m = n
    · subst h; simp
    · have : (m == n) = false := by simpa using h
      rw [this, Bool.false_or]
      by_cases h2 : n ∈ ns
      · rw [decide_eq_true h2, decide_eq_true (List.mem_cons_of_mem _ h2)]
      · rw [decide_eq_false h2, decide_eq_false]
        intro z
        rcases List.mem_cons.mp z with z | z
        · exact h z.symm
        · exact h2 z
theorem eq_any_str {n : Str} : ∀ ns : List Str, inV (.str n) (ns.map V.str) = decide (n ∈ ns)
  | [] => by simp [inV]
  | m :: ns => by
    have ih := eq_any_str (n := n) ns
    unfold inV at ih ⊢
    rw [List.map_cons, List.any_cons, ih]
    show ((m == n) || decide (n ∈ ns)) = decide (n ∈ m :: ns)
    by_cases h : m = n
    · subst h; simp
    · have : (m == n) = false := by simpa using h
      rw [this, Bool.false_or]
      by_cases h2 : n ∈ ns
      · rw [decide_eq_true h2, decide_eq_true (List.mem_cons_of_mem _ h2)]
      · rw [decide_eq_false h2, decide_eq_false]
        intro z
        rcases List.mem_cons.mp z with z | z
        · exact h z.symm
        · exact h2 z
theorem flat_ints (ns : List Int) : (ns.map V.int).all flatV = true := by simp [List.all_map, flatV]
theorem flat_strs (ns : List Str) : (ns.map V.str).all flatV = true := by simp [List.all_map, flatV]
theorem Reps.strs {K : PySem.W.Frag} {α : List Addr} {G : Hp} : ∀ {vs : List V} {ns : List Str}, Reps K α G vs (ns.map D.str) → vs = ns.map V.str
  | _, [], .nil => rfl
  | _, n :: ns, .cons r t => by rw [r.strV, Reps.strs t]; rfl
theorem aop_inI {n : Int} {ns : List Int} (hy : IsS μ y (ns.map D.int)) (q : Q (.bl (decide (n ∈ ns))) μ) : AOp X (compareOp .In) (.int n) y μ Q := fun η α H v u W rv ru => by
  obtain ⟨a, vs, rfl, hq, r⟩ := hy.at W ru
  have e := r.ints
  subst e
  exact xOp_of op_in_seq ⟨a, _, rfl, hq, by rw [rv.intV]; rfl, flat_ints ns, by rw [rv.intV, if_neg Bool.false_ne_true, eq_any_int]; exact fin0 W .bl q⟩
theorem aop_notInI {n : Int} {ns : List Int} (hy : IsS μ y (ns.map D.int)) (q : Q (.bl (!decide (n ∈ ns))) μ) : AOp X (compareOp .NotIn) (.int n) y μ Q := fun η α H v u W rv ru => by
  obtain ⟨a, vs, rfl, hq, r⟩ := hy.at W ru
  have e := r.ints
  subst e
  exact xOp_of op_notIn_seq ⟨a, _, rfl, hq, by rw [rv.intV]; rfl, flat_ints ns, by rw [rv.intV, if_pos rfl, eq_any_int]; exact fin0 W .bl q⟩
theorem aop_inS {n : Str} {ns : List Str} (hy : IsS μ y (ns.map D.str)) (q : Q (.bl (decide (n ∈ ns))) μ) : AOp X (compareOp .In) (.str n) y μ Q := fun η α H v u W rv ru => by
  obtain ⟨a, vs, rfl, hq, r⟩ := hy.at W ru
  have e := r.strs
  subst e
  exact xOp_of op_in_seq ⟨a, _, rfl, hq, by rw [rv.strV]; rfl, flat_strs ns, by rw [rv.strV, if_neg Bool.false_ne_true, eq_any_str]; exact fin0 W .bl q⟩
/-- subscripts -/
theorem atI_rep {K : PySem.W.Frag} {α : List Addr} {G : Hp} {vs : List V} {ds : List D} {i : Int} {d : D} (r : Reps K α G vs ds) (h : atI ds i = some d) : ∃ v, atI vs i = some v ∧ Rep K α G v d := by
  unfold atI at h ⊢
  rw [r.len]
  cases e : ixN ds.length i with
  | none => rw [e] at h; cases h
  | some j =>
    rw [e] at h
    obtain ⟨v, hv, rv⟩ := r.get h
    exact ⟨v, hv, rv⟩
theorem aix {d : D} (hx : IsS μ x xs) (h : atI xs i = some d) (q : Q d μ) : AIx X x (.int i) μ Q := fun η α H v u W rv ru => by
  obtain ⟨a, vs, rfl, hq, r⟩ := hx.at W rv
  obtain ⟨w, hw, rw'⟩ := atI_rep r h
  rcases hq with hq | hq
  · exact xIx_of ix_list ⟨a, vs, i, w, rfl, ru.intV, hq, hw, fin0 W rw' q⟩
  · exact xIx_of ix_tup ⟨a, vs, i, w, rfl, ru.intV, hq, hw, fin0 W rw' q⟩
theorem aix_str {z : Str} {k : Nat} (hz : z.length ≤ sizeLine) (h : atI z.cps.toList i = some k) (q : Q (.str ⟨#[k]⟩) μ) : AIx X (.str z) (.int i) μ Q := fun η α H v u W rv ru =>
  xIx_of ix_str ⟨z, i, k, rv.strV, ru.intV, hz, h, fin0 W .str q⟩
/-- slices -/
def cutD (xs : List D) (lo hi : Option Int) : List D := (xs.drop (HT.sIx xs.length 0 lo)).take (HT.sIx xs.length xs.length hi - HT.sIx xs.length 0 lo)
theorem cut_rep {K : PySem.W.Frag} {α : List Addr} {G : Hp} {vs : List V} {ds : List D} {lo hi : Option Int} (r : Reps K α G vs ds) : Reps K α G (cutV vs lo hi) (cutD ds lo hi) := by
  unfold cutV cutD
  rw [r.len]
  exact (r.drop _).take _
theorem asl_l {lo hi : Option Int} (hx : IsL μ x xs) (q : Q (.lst (cutD xs lo hi)) μ) : ASl X x lo hi μ Q := fun η α H v W rv => by
  obtain ⟨a, vs, rfl, hq, r⟩ := hx.at W rv
  exact xSl_of sl_list ⟨a, vs, rfl, SqL.of hq, fun p n => new_lst W (cut_rep r) q n⟩
theorem asl_lC {lo hi : Option Int} (hx : IsL μ x xs) (q : Q (.pr μ.length) (μ ++ [.lst (cutD xs lo hi)])) : ASl X x lo hi μ Q := fun η α H v W rv => by
  obtain ⟨a, vs, rfl, hq, r⟩ := hx.at W rv
  exact xSl_of sl_list ⟨a, vs, rfl, SqL.of hq, fun p n => new_lstC W (cut_rep r) q n⟩
theorem asl_t {lo hi : Option Int} (h : ¬ (HT.sIx xs.length 0 lo = 0 ∧ HT.sIx xs.length xs.length hi = xs.length)) (q : Q (.tup (cutD xs lo hi)) μ) : ASl X (.tup xs) lo hi μ Q := fun η α H v W rv => by
  cases rv with
  | tup q1 r =>
    rename_i a vs
    exact xSl_of sl_tup ⟨a, vs, rfl, SqT.unmsk q1, by rw [r.len]; exact h, fun p n => new_tup W (cut_rep r) q n⟩

/-! ### built-in functions -/
theorem acall_len (hx : IsS μ x xs) (q : Q (.int xs.length) μ) : ACall X (.builtin "len") [x] μ Q := fun η α H vs W r => by
  cases r with
  | cons r1 r2 =>
    cases r2
    obtain ⟨a, vs, rfl, hq, r⟩ := hx.at W r1
    exact xCall_of call_len_seq ⟨a, vs, rfl, hq, by rw [r.len]; exact fin0 W .int q⟩
theorem acall_lenS {z : Str} (hz : z.length ≤ sizeLine) (q : Q (.int z.length) μ) : ACall X (.builtin "len") [.str z] μ Q := fun η α H vs W r => by
  cases r with
  | cons r1 r2 =>
    cases r2
    rw [r1.strV]
    exact xCall_of call_len_str ⟨z, rfl, hz, fin0 W .int q⟩
theorem acall_any {τ : Type} {L : List τ} {p : τ → Bool} (hx : IsL μ x (L.map fun t => D.bl (p t))) (q : Q (.bl (L.any p)) μ) (hc : X.calm = true := by rfl) : ACall X (.builtin "any") [x] μ Q := fun η α H vs W r => by
  cases r with
  | cons r1 r2 =>
    cases r2
    obtain ⟨a, vs, rfl, hq, r⟩ := hx.at W r1
    have e : (L.map fun t => D.bl (p t)) = (L.map p).map D.bl := by rw [List.map_map]; rfl
    rw [e] at r
    have e2 := r.bls
    subst e2
    refine xCall_of (cr_any hc) ⟨a, L.map p, rfl, SqL.of hq, ?_⟩
    rw [List.any_map]
    exact fin0 W .bl q
theorem acall_all {τ : Type} {L : List τ} {p : τ → Bool} (hx : IsL μ x (L.map fun t => D.bl (p t))) (q : Q (.bl (L.all p)) μ) (hc : X.calm = true := by rfl) : ACall X (.builtin "all") [x] μ Q := fun η α H vs W r => by
  cases r with
  | cons r1 r2 =>
    cases r2
    obtain ⟨a, vs, rfl, hq, r⟩ := hx.at W r1
    have e : (L.map fun t => D.bl (p t)) = (L.map p).map D.bl := by rw [List.map_map]; rfl
    rw [e] at r
    have e2 := r.bls
    subst e2
    refine xCall_of (cr_all hc) ⟨a, L.map p, rfl, SqL.of hq, ?_⟩
    rw [List.all_map]
    exact fin0 W .bl q
theorem acall_max {ns : List Int} (hx : IsL μ x (ns.map D.int)) (h0 : 0 < ns.length) (q : ∀ m, m ∈ ns → (∀ y ∈ ns, y ≤ m) → Q (.int m) μ) (hc : X.calm = true := by rfl) : ACall X (.builtin "max") [x] μ Q := fun η α H vs W r => by
  cases r with
  | cons r1 r2 =>
    cases r2
    obtain ⟨a, vs, rfl, hq, r⟩ := hx.at W r1
    have e := r.ints
    subst e
    exact xCall_of (cr_max hc) ⟨a, ns, rfl, SqL.of hq, h0, fun m h1 h2 => fin0 W .int (q m h1 h2)⟩
theorem acall_min {ns : List Int} (hx : IsL μ x (ns.map D.int)) (h0 : 0 < ns.length) (q : ∀ m, m ∈ ns → (∀ y ∈ ns, m ≤ y) → Q (.int m) μ) (hc : X.calm = true := by rfl) : ACall X (.builtin "min") [x] μ Q := fun η α H vs W r => by
  cases r with
  | cons r1 r2 =>
    cases r2
    obtain ⟨a, vs, rfl, hq, r⟩ := hx.at W r1
    have e := r.ints
    subst e
    exact xCall_of (cr_min hc) ⟨a, ns, rfl, SqL.of hq, h0, fun m h1 h2 => fin0 W .int (q m h1 h2)⟩
theorem acall_min2 (q : Q (.int (if j < i then j else i)) μ) (hc : X.calm = true := by rfl) : ACall X (.builtin "min") [.int i, .int j] μ Q := fun η α H vs W r => by
  cases r with
  | cons r1 r2 =>
    cases r2 with
    | cons r2 r3 =>
      cases r3
      rw [r1.intV, r2.intV]
      exact xCall_of (call_min2 hc) ⟨i, j, rfl, fin0 W .int q⟩
theorem acall_abs (q : Q (.int (if i < 0 then -i else i)) μ) : ACall X (.builtin "abs") [.int i] μ Q := fun η α H vs W r => by
  cases r with
  | cons r1 r2 =>
    cases r2
    rw [r1.intV]
    exact xCall_of call_abs ⟨i, rfl, fin0 W .int q⟩
theorem acall_int (q : Q (.int i) μ) : ACall X (.type "int") [.int i] μ Q := fun η α H vs W r => by
  cases r with
  | cons r1 r2 =>
    cases r2
    rw [r1.intV]
    exact xCall_of call_int1 (.inl ⟨i, rfl, fin0 W .int q⟩)
theorem acall_intB {k : Bool} (q : Q (.int (if k then 1 else 0)) μ) : ACall X (.type "int") [.bl k] μ Q := fun η α H vs W r => by
  cases r with
  | cons r1 r2 =>
    cases r2
    rw [r1.blV]
    exact xCall_of call_int1 (.inr ⟨k, rfl, fin0 W .int q⟩)
theorem acall_sorted {ns : List Int} (hx : IsL μ x (ns.map D.int)) (h : ns.length < 64) (q : ∀ ns' : List Int, ns'.Perm ns → ns'.Pairwise (· ≤ ·) → Q (.lst (ns'.map D.int)) μ) : ACall X (.builtin "sorted") [x] μ Q := fun η α H vs W r => by
  cases r with
  | cons r1 r2 =>
    cases r2
    obtain ⟨a, vs, rfl, hq, r⟩ := hx.at W r1
    have e := r.ints
    subst e
    exact xCall_of cr_sorted ⟨a, ns, rfl, SqL.of hq, h, fun ns' p h1 h2 n => new_lst W (Reps.of_ints ns') (q ns' h1 h2) n⟩
theorem acall_list (hx : IsS μ x xs) (q : Q (.lst xs) μ) : ACall X (.type "list") [x] μ Q := fun η α H vs W r => by
  cases r with
  | cons r1 r2 =>
    cases r2
    obtain ⟨a, vs, rfl, hq, r⟩ := hx.at W r1
    exact xCall_of call_list_of ⟨a, vs, rfl, hq, fun p n => new_lst W r q n⟩
theorem acall_listC (hx : IsS μ x xs) (q : Q (.pr μ.length) (μ ++ [.lst xs])) : ACall X (.type "list") [x] μ Q := fun η α H vs W r => by
  cases r with
  | cons r1 r2 =>
    cases r2
    obtain ⟨a, vs, rfl, hq, r⟩ := hx.at W r1
    exact xCall_of call_list_of ⟨a, vs, rfl, hq, fun p n => new_lstC W r q n⟩
theorem acall_tuple (hx : IsL μ x xs) (q : Q (.tup xs) μ) : ACall X (.type "tuple") [x] μ Q := fun η α H vs W r => by
  cases r with
  | cons r1 r2 =>
    cases r2
    obtain ⟨a, vs, rfl, hq, r⟩ := hx.at W r1
    exact xCall_of call_tuple_of ⟨a, vs, rfl, .inl ⟨SqL.of hq, fun p n => new_tup W r q n⟩⟩
theorem acall_tupleT (q : Q (.tup xs) μ) : ACall X (.type "tuple") [.tup xs] μ Q := fun η α H vs W r => by
  cases r with
  | cons r1 r2 =>
    cases r2
    cases r1 with
    | tup q1 r =>
      rename_i a vs
      exact xCall_of call_tuple_of ⟨a, vs, rfl, .inr ⟨SqT.unmsk q1, fin0 W (.tup q1 r) q⟩⟩
/-- list(range(..)) -/
theorem rgV_rep {K : PySem.W.Frag} {α : List Addr} {G : Hp} {n : Nat} : Reps K α G (rgV 0 n) (rangeD n) := by
  have e : rgV 0 n = ((List.range n).map fun k : Nat => (k : Int)).map V.int := by
    unfold rgV
    rw [List.map_map]
    have : ((n : Int) - 0).toNat = n := by omega
    simp [this]
  have e2 : rangeD n = ((List.range n).map fun k : Nat => (k : Int)).map D.int := by
    unfold rangeD
    rw [List.map_map]
    rfl
  rw [e, e2]
  exact Reps.of_ints _
theorem aE_listRg {c : Bool} {n : Nat} {p q : Pos} {pos pos2 : Pos} (h : EV X a ρ μ (.int n)) (hn : n ≤ 1000) (hq : LcOut c (rangeD n) μ Q) (hl : X.mg "list" = none) (hr : X.mg "range" = none) (hg1 : Gl X "list" := by rfl) (hg2 : Gl X "range" := by rfl) (hc : X.calm = true := by rfl)
    (na : starEach [Expr.Call (.Name "range" q) [a] [] pos] X.env = (false, eval (Expr.Call (.Name "range" q) [a] [] pos) X.env) :: starEach [] X.env := by rfl) (nb : starEach [a] X.env = (false, eval a X.env) :: starEach [] X.env := by rfl) :
    aE X (.Call (.Name "list" p) [.Call (.Name "range" q) [a] [] pos] [] pos2) ρ μ Q := fun η α H σ W Ev =>
  tE_of (pe_listRg hc hg1 hl (prg_1 hg2 hr peE nb) na) (aE_then W Ev h fun v H1 α1 μ1 d W1 l1 E1 r1 ⟨e1, e2⟩ => by
    subst e1 e2
    refine ⟨n, r1.intV, RgOk.of_le (Int.le_refl 0) (by omega) (by omega) (by omega), fun p np => ?_⟩
    cases c with
    | true => exact (new_lstC W1 rgV_rep hq np).le l1
    | false => exact (new_lst W1 rgV_rep hq np).le l1)
/-- a .. b - 1 -/
def rangeD2 (lo : Int) (n : Nat) : List D := (List.range n).map fun i : Nat => .int (lo + (i : Int))
theorem aI_range2 {tg : Expr} {p : Pos} {R : AIt → Sto → Prop} {lo hi : Int} (ha : EV X a ρ μ (.int lo)) (hb : EV X b ρ μ (.int hi)) (h1 : -1000000 ≤ lo) (h2 : lo ≤ 1000000) (h3 : -1000000 ≤ hi) (h4 : hi ≤ 1000000) (h : R ⟨rangeD2 lo (hi - lo).toNat, fun _ => True⟩ μ) (hm : X.mg "range" = none) (hg : Gl X "range" := by rfl)
    (hs : starEach [a, b] X.env = [(false, eval a X.env), (false, eval b X.env)] := by rfl) (hs2 : starEach [b] X.env = [(false, eval b X.env)] := by rfl)
    (s1 : starEach [a, b] X.env = (false, eval a X.env) :: starEach [b] X.env := by rfl) (s2 : starEach [b] X.env = (false, eval b X.env) :: starEach [] X.env := by rfl) : aI X tg (.Call (.Name "range" p) [a, b] [] pos) ρ μ R := fun η α H σ W Ev pins s I =>
  (pi_range2 (tg := tg) hg hm paA hs hs2).run pins s σ H _ I (by
    have q : aA X [a, b] ρ μ fun ds μ1 => ds = [.int lo, .int hi] ∧ μ1 = μ := aA_cons (aE_ev ha (aA_cons (aE_ev hb (aA_nil ⟨rfl, rfl⟩)) s2)) s1
    refine aA_then W Ev q fun vs H1 α1 μ1 ds W1 l1 E1 r1 ⟨e1, e2⟩ => ?_
    subst e1 e2
    cases r1 with
    | cons r1 r2 =>
      cases r2 with
      | cons r2 r3 =>
        cases r3
        rw [r1.intV, r2.intV]
        refine ⟨lo, hi, rfl, ⟨by omega, by omega, by omega, by omega⟩, α1, μ1, _, W1, l1, ?_, h⟩
        intro ζ i α2 μ2 H2 W2 p2 s2 _
        refine ⟨fun d hd => ?_, fun hi' => ?_⟩
        · unfold rangeD2 at hd
          rw [List.getElem?_map] at hd
          by_cases hi2 : i < (hi - lo).toNat
          · rw [List.getElem?_range hi2] at hd
            cases hd
            refine ⟨hi2, fun y H3 ⟨e3, hy⟩ => ?_⟩
            subst e3 hy
            exact ⟨W2, Le.refl, .int⟩
          · rw [List.getElem?_eq_none (by simpa using hi2)] at hd
            cases hd
        · have hi' : (rangeD2 lo (hi - lo).toNat).length ≤ i := hi'
          have : (rangeD2 lo (hi - lo).toNat).length = (hi - lo).toNat := by unfold rangeD2; rw [List.length_map, List.length_range]
          show (hi - lo).toNat ≤ i
          omega)

/-! ### methods of lists that change -/
variable {apos cpos : Pos}
def TyL (μ : Sto) (d : D) : Prop := ∃ xs, IsL μ d xs
theorem TyL.at {K : PySem.W.Frag} {α η : List Addr} {H : Hp} {v : V} {d : D} (W : WOk K α η μ H) (h : TyL μ d) (r : Rep K α (msk α η H) v d) : tyV K "list" v H := by
  obtain ⟨xs, h⟩ := h
  obtain ⟨a, vs, rfl, hq, _⟩ := h.at W r
  exact .inl ⟨rfl, vs, SqL.of hq⟩
theorem aE_lm {name : Str} {id : String} (pa : PlainAttrs "list") (slot : Slot "list" name id) (hty : typeOf (.builtin id) = pure (.type "method_descriptor"))
    (h : aE X o ρ μ fun d μ1 => TyL μ1 d ∧ aA X (e :: es) ρ μ1 fun ds μ2 => AMt X "list" id d ds μ2 Q)
    (hbase : attributeBase o name X.env (eval o X.env) = eval o X.env := by rfl)
    (hfew : ((backTo cpos (starEach (e :: es) X.env)).all (fun x => !x.1) && (backToKw cpos (keywordEach [] X.env)).all (fun x => x.1.isSome)
      && decide ((e :: es).length + ([] : List Keyword).length + (if ([] : List Keyword).isEmpty then 0 else 1) < 30)) = true := by rfl)
    (hline : (apos.endLine == cpos.line) = true := by rfl) (hs : starEach (e :: es) X.env = (false, eval e X.env) :: starEach es X.env := by rfl) (hplain : (backTo cpos (starEach es X.env)).any (·.1) = false := by rfl) :
    aE X (.Call (.Attribute o name apos) (e :: es) [] cpos) ρ μ Q := fun η α H σ W Ev =>
  tE_of (pe_bm pa slot hty xMt_ok peE paA hbase hfew hline hs hplain) (aE_then W Ev h fun v H1 α1 μ1 d W1 l1 E1 r1 ⟨ty, q⟩ => ⟨ty.at W1 r1, aA_then W1 E1 q fun vs H2 α2 μ2 ds W2 l2 E2 r2 q2 => by
    obtain ⟨r, Q', h1, h2, h3⟩ := q2 η α2 H2 v vs W2 (r1.le l2) r2
    exact ⟨r, Q', h1, h2, fun v H z => (h3 v H z).le (l1.trans l2)⟩⟩)
theorem aE_lm0 {name : Str} {id : String} (pa : PlainAttrs "list") (slot : Slot "list" name id) (hty : typeOf (.builtin id) = pure (.type "method_descriptor"))
    (h : aE X o ρ μ fun d μ1 => TyL μ1 d ∧ AMt X "list" id d [] μ1 Q)
    (hbase : attributeBase o name X.env (eval o X.env) = eval o X.env := by rfl) (hline : (apos.endLine == cpos.line) = true := by rfl) :
    aE X (.Call (.Attribute o name apos) [] [] cpos) ρ μ Q := fun η α H σ W Ev =>
  tE_of (pe_bm0 pa slot hty xMt_ok peE hbase hline) (aE_then W Ev h fun v H1 α1 μ1 d W1 l1 E1 r1 ⟨ty, q⟩ => ⟨ty.at W1 r1, by
    obtain ⟨r, Q', h1, h2, h3⟩ := q η α1 H1 v [] W1 r1 .nil
    exact ⟨r, Q', h1, h2, fun v H z => (h3 v H z).le l1⟩⟩)
theorem write_lst {K : PySem.W.Frag} {η α : List Addr} {H : Hp} {a : Addr} {k : Nat} {vs : List V} {ds : List D} {v : V} {d : D} (W : WOk K α η μ H) (ea : α[k]? = some a) (r : Reps K α (msk α η H) vs ds) (rv : Rep K α (msk α η H) v d) (q : Q d (μ.set k (.lst ds))) : PD K η α H Q v (upd H a (.lst vs)) := by
  obtain ⟨W1, l1⟩ := W.write ea (o := .lst vs) (c := .lst ds) ⟨vs, upd_same, by rw [msk_upd (List.mem_of_getElem? ea)]; exact r⟩
  exact fin_le W1 l1 (rv.le l1) q
theorem amt_append {k : Nat} {d : D} (hx : μ[k]? = some (.lst xs)) (hz : xs.length < sizeLine) (q : Q .non (μ.set k (.lst (xs ++ [d])))) : AMt X "list" "list.append" (.pr k) [d] μ Q := fun η α H v vs W rv r => by
  cases rv with
  | pr ea =>
    cases r with
    | cons r1 r2 =>
      cases r2
      rename_i a u
      obtain ⟨ws, hq, rr⟩ := W.cell k _ _ ea hx
      exact xMt_of mt_append ⟨a, ws, u, rfl, rfl, hq, by rw [rr.len]; exact hz, write_lst W ea (rr.app (.cons r1 .nil)) .non q⟩
theorem amt_extend {k : Nat} {d : D} {zs : List D} (hx : μ[k]? = some (.lst xs)) (hd : IsL μ d zs) (hz : xs.length + zs.length ≤ sizeLine) (q : Q .non (μ.set k (.lst (xs ++ zs)))) : AMt X "list" "list.extend" (.pr k) [d] μ Q := fun η α H v vs W rv r => by
  cases rv with
  | pr ea =>
    cases r with
    | cons r1 r2 =>
      cases r2
      obtain ⟨b, ys, rfl, hq2, rr2⟩ := hd.at W r1
      obtain ⟨ws, hq, rr⟩ := W.cell k _ _ ea hx
      exact xMt_of mt_extend ⟨_, b, ws, ys, rfl, rfl, hq, hq2, by rw [rr.len, rr2.len]; exact hz, write_lst W ea (rr.app rr2) .non q⟩
theorem Reps.dropLast {K : PySem.W.Frag} {α : List Addr} {G : Hp} {vs : List V} {ds : List D} (r : Reps K α G vs ds) : Reps K α G vs.dropLast ds.dropLast := by
  rw [List.dropLast_eq_take, List.dropLast_eq_take, r.len]
  exact r.take _
theorem amt_pop {k : Nat} {d : D} (hx : μ[k]? = some (.lst xs)) (hd : xs[xs.length - 1]? = some d) (q : Q d (μ.set k (.lst xs.dropLast))) : AMt X "list" "list.pop" (.pr k) [] μ Q := fun η α H v vs W rv r => by
  cases rv with
  | pr ea =>
    cases r
    obtain ⟨ws, hq, rr⟩ := W.cell k _ _ ea hx
    obtain ⟨u, hu, ru⟩ := rr.get hd
    exact xMt_of mt_pop ⟨_, ws, u, rfl, rfl, hq, by rw [rr.len]; exact hu, write_lst W ea rr.dropLast ru q⟩
theorem amt_popAt {k j : Nat} {d : D} {i : Int} (hx : μ[k]? = some (.lst xs)) (hi : i = (j : Int)) (hd : xs[j]? = some d) (hz : xs.length ≤ 1000) (q : Q d (μ.set k (.lst (xs.eraseIdx j)))) : AMt X "list" "list.pop" (.pr k) [.int i] μ Q := fun η α H v vs W rv r => by
  cases rv with
  | pr ea =>
    cases r with
    | cons r1 r2 =>
      cases r2
      rw [r1.intV]
      obtain ⟨ws, hq, rr⟩ := W.cell k _ _ ea hx
      obtain ⟨u, hu, ru⟩ := rr.get hd
      have hj : j < xs.length := (List.getElem?_eq_some_iff.mp hd).1
      have hs : seqIndex? i ws.length = some j := (ixN_seq (n := ws.length) (i := i) (j := j) (by
        unfold ixN
        rw [if_pos (by omega), if_pos (by rw [rr.len]; omega), hi]
        rfl)).1
      exact xMt_of mt_popAt ⟨_, ws, i, j, u, rfl, rfl, hq, by omega, by omega, hs, hu, write_lst W ea (rr.erase j) ru q⟩
/-- xs[i] = e -/
theorem aS_setL {E : AEnds} {k : Nat} {x : D} {j : Nat} {i : Int} {pos' : Pos} (ho : EV X o ρ μ (.pr k)) (hi : EV X b ρ μ (.int i)) (he : EV X e ρ μ x) (hx : μ[k]? = some (.lst xs)) (hij : i = (j : Int)) (hj : j < xs.length) (q : E.nx ρ (μ.set k (.lst (xs.set j x))))
    (hs : swapsWithSole [Expr.Subscript o b pos'] e pos.line X.env = pure false := by rfl) (hw : swappedStores [Expr.Subscript o b pos'] e X.env = pure none := by rfl)
    (h1 : (assignEach [Expr.Subscript o b pos'] X.env).map (·.2) = [assign (Expr.Subscript o b pos') X.env] := by rfl)
    (ha : ∀ v, assign (.Subscript o b pos') X.env v = (do
      let ov ← holding [v] (eval o X.env)
      let iv ← holding [v, ov] (eval b X.env)
      standAt pos'
      holding [v, ov, iv] (setItem ov iv v)
      release [v, ov, iv] []) := by intro _; rfl) : aS X (.Assign [.Subscript o b pos'] e pos) ρ μ E := fun η α H σ W Ev pins s I =>
  (ps_asg peE (pg_sub peE peE set_list ha) hs hw h1).run pins s σ H _ I (aE_then W Ev he fun v H1 α1 μ1 d W1 l1 E1 r1 ⟨e1, e2⟩ => by
    subst e1 e2
    refine aE_then W1 E1 ho fun u H2 α2 μ2 d2 W2 l2 E2 r2 ⟨e1, e2⟩ => ?_
    subst e1 e2
    refine aE_then W2 E2 hi fun w H3 α3 μ3 d3 W3 l3 E3 r3 ⟨e1, e2⟩ => ?_
    subst e1 e2
    have r2' := r2.le l3
    cases r2' with
    | pr ea =>
      obtain ⟨ws, hq, rr⟩ := W3.cell k _ _ ea hx
      refine ⟨_, ws, i, j, rfl, r3.intV, hq, ?_, ?_⟩
      · unfold ixN
        rw [if_pos (by omega), if_pos (by rw [rr.len]; omega), hij]
        rfl
      · obtain ⟨W4, l4⟩ := W3.write ea (o := .lst (ws.set j v)) (c := .lst (xs.set j d)) ⟨_, upd_same, by rw [msk_upd (List.mem_of_getElem? ea)]; exact rr.set ((r1.le l2).le l3) j⟩
        exact ⟨_, _, _, W4, l1.trans (l2.trans (l3.trans l4)), E3.le l4, q⟩)
end
end HF

/-! ## A8 -/
namespace HF
open PySem PySem.Spec PyProof.Rows L2

/-! ### fields -/
def putN (f : Str) (d : D) : List (Str × D) → List (Str × D)
  | [] => [(f, d)]
  | (g, x) :: r => if g = f then (g, d) :: r else (g, x) :: putN f d r
theorem RepKV.putN {K : PySem.W.Frag} {α : List Addr} {G : Hp} {f : Str} {v : V} {d : D} (rv : Rep K α G v d) : ∀ {ws : List (Str × V)} {fs : List (Str × D)}, RepKV K α G ws fs → RepKV K α G (putF f v ws) (putN f d fs)
  | _, _, .nil => .cons ⟨rfl, rv⟩ .nil
  | (k, v1) :: ws, (k', d1) :: fs, .cons a t => by
    have e : k = k' := a.1
    subst e
    have ih := RepKV.putN (f := f) rv t
    show RepKV K α G (if k = f then (k, v) :: ws else (k, v1) :: putF f v ws) (if k = f then (k, d) :: fs else (k, d1) :: HF.putN f d fs)
    by_cases h : k = f
    · rw [if_pos h, if_pos h]; exact .cons ⟨rfl, rv⟩ t
    · rw [if_neg h, if_neg h]; exact .cons a ih
theorem RepKV.len {κ : Type} {K : PySem.W.Frag} {α : List Addr} {G : Hp} : ∀ {ws : List (κ × V)} {fs : List (κ × D)}, RepKV K α G ws fs → ws.length = fs.length
  | _, _, .nil => rfl
  | _ :: _, _ :: _, .cons _ t => congrArg (· + 1) (RepKV.len t)
section
variable {X : Cx} {e a b c o i : Expr} {es : List Expr} {ρ : AEnv} {μ : Sto} {Q : DK} {pos pos' : Pos} {E : AEnds} {C : Addr} {f : Str} {fs : List (Str × D)}
theorem aE_fld (hc : Cls X.K C) (hn : NoAttr X.K C f) (h : aE X e ρ μ fun d μ1 => ∃ fs x, IsI μ1 d C fs ∧ fs.lookup f = some x ∧ Q x μ1) (hb : attributeBase e f X.env (eval e X.env) = eval e X.env := by rfl) : aE X (.Attribute e f pos) ρ μ Q := fun η α H σ W Ev =>
  tE_of (pe_fld peE hb) (aE_then W Ev h fun v H1 α1 μ1 d W1 l1 E1 r1 ⟨fs, x, ⟨j, ed, ej⟩, hl, q⟩ => by
    subst ed
    cases r1 with
    | pr ea =>
      rename_i a
      obtain ⟨dx, ws, hq, rr⟩ := W1.cell j a _ ea ej
      have hl2 := RepKV.lookup (f := f) rr
      rw [hl] at hl2
      obtain ⟨u, hu, ru⟩ := hl2
      exact ⟨a, C, dx, ws, u, rfl, hq, hc, hn, hu, fin_le W1 l1 ru q⟩)
theorem upd_fld {K : PySem.W.Frag} {η α : List Addr} {H : Hp} {a dx : Addr} {k : Nat} {ws : List (Str × V)} {v : V} {x : D} (W : WOk K α η μ H) (ea : α[k]? = some a) (r : RepKV K α (msk α η H) ws fs) (rv : Rep K α (msk α η H) v x) :
    WOk K α η (μ.set k (.ins C (putN f x fs))) (upd H a (.ins C dx (putF f v ws))) ∧ Le η α H α (upd H a (.ins C dx (putF f v ws))) :=
  W.write ea ⟨dx, _, upd_same, by rw [msk_upd (List.mem_of_getElem? ea)]; exact RepKV.putN rv r⟩
theorem aS_fld {x d : D} (hc : Cls X.K C) (hn : NoAttr X.K C f) (he : aE X e ρ μ fun x μ1 => EV X o ρ μ1 d ∧ ∃ k fs, d = .pr k ∧ μ1[k]? = some (.ins C fs) ∧ fs.length < 1000 ∧ E.nx ρ (μ1.set k (.ins C (putN f x fs))))
    (hs : swapsWith e (some (.Attribute o f pos')) pos.line X.env = pure false := by rfl) : aS X (.Assign [.Attribute o f pos'] e pos) ρ μ E := fun η α H σ W Ev pins s I =>
  (ps_fld peE peE hs).run pins s σ H _ I (aE_then W Ev he fun v H1 α1 μ1 x W1 l1 E1 r1 ⟨ho, k, fs, ed, ek, hl, q⟩ => by
    subst ed
    refine aE_then W1 E1 ho fun u H2 α2 μ2 d2 W2 l2 E2 r2 ⟨e1, e2⟩ => ?_
    subst e1 e2
    cases r2 with
    | pr ea =>
      rename_i a
      obtain ⟨dx, ws, hq, rr⟩ := W2.cell k a _ ea ek
      obtain ⟨W3, l3⟩ := upd_fld (f := f) (dx := dx) W2 ea rr (r1.le l2)
      exact ⟨a, C, dx, ws, rfl, hq, hc, hn, by rw [rr.len]; exact hl, _, _, _, W3, l1.trans (l2.trans l3), E2.le l3, q⟩)
theorem aG_fld {x : D} {k : Nat} {N : AEnv → Sto → Prop} (hc : Cls X.K C) (hn : NoAttr X.K C f) (ho : EV X o ρ μ (.pr k)) (ek : μ[k]? = some (.ins C fs)) (hl : fs.length < 1000) (q : N ρ (μ.set k (.ins C (putN f x fs))))
    (ha : ∀ v, assign (.Attribute o f pos) X.env v = (do
      let ov ← holding [v] (eval o X.env)
      standAt pos.atName
      holding [v, ov] (setAttr ov f v)
      release [v, ov] []) := by intro _; rfl) : aG X (.Attribute o f pos) x ρ μ N := fun η α H σ v W Ev r pins s u I rv =>
  (pg_fld peE ha).run pins s σ H v u _ I rv (aE_then W Ev ho fun u H2 α2 μ2 d2 W2 l2 E2 r2 ⟨e1, e2⟩ => by
    subst e1 e2
    cases r2 with
    | pr ea =>
      rename_i a
      obtain ⟨dx, ws, hq, rr⟩ := W2.cell k a _ ea ek
      obtain ⟨W3, l3⟩ := upd_fld (f := f) (dx := dx) W2 ea rr (r.le l2)
      exact ⟨a, C, dx, ws, rfl, hq, hc, hn, by rw [rr.len]; exact hl, _, _, _, W3, l2.trans l3, E2.le l3, q⟩)

/-! ### dicts -/
section
variable {κ : Type} [DecidableEq κ]
def valD (kvs : List (κ × D)) (k : κ) : Option D := (kvs.find? fun kv => decide (kv.1 = k)).map (·.2)
def putD (kvs : List (κ × D)) (k : κ) (v : D) : List (κ × D) :=
  if (kvs.any fun kv => decide (kv.1 = k)) = true then kvs.map (fun kv => if kv.1 = k then (kv.1, v) else kv) else kvs ++ [(k, v)]
theorem RepKV.val {K : PySem.W.Frag} {α : List Addr} {G : Hp} {k : κ} : ∀ {ws : List (κ × V)} {fs : List (κ × D)}, RepKV K α G ws fs → (match valD fs k with | some d => ∃ v, valV ws k = some v ∧ Rep K α G v d | none => valV ws k = none)
  | _, _, .nil => rfl
  | (j, v) :: ws, (j', d) :: fs, .cons a t => by
    have e : j = j' := a.1
    subst e
    have ih := RepKV.val (k := k) t
    unfold valD valV at ih ⊢
    rw [List.find?_cons, List.find?_cons]
    by_cases h : j = k
    · simp only [h, decide_true]
      exact ⟨v, rfl, a.2⟩
    · simp only [h, decide_false]
      exact ih
theorem RepKV.any {K : PySem.W.Frag} {α : List Addr} {G : Hp} {k : κ} : ∀ {ws : List (κ × V)} {fs : List (κ × D)}, RepKV K α G ws fs → (ws.any fun kv => decide (kv.1 = k)) = fs.any fun kv => decide (kv.1 = k)
  | _, _, .nil => rfl
  | (j, v) :: ws, (j', d) :: fs, .cons a t => by
    have e : j = j' := a.1
    subst e
    rw [List.any_cons, List.any_cons, RepKV.any t]
theorem RepKV.mapPut {K : PySem.W.Frag} {α : List Addr} {G : Hp} {k : κ} {v : V} {d : D} (r : Rep K α G v d) : ∀ {ws : List (κ × V)} {fs : List (κ × D)}, RepKV K α G ws fs →
    RepKV K α G (ws.map fun kv => if kv.1 = k then (kv.1, v) else kv) (fs.map fun kv => if kv.1 = k then (kv.1, d) else kv)
  | _, _, .nil => .nil
  | (j, w) :: ws, (j', d') :: fs, .cons a t => by
    have e : j = j' := a.1
    subst e
    rw [List.map_cons, List.map_cons]
    by_cases h : j = k
    · rw [if_pos h, if_pos h]; exact .cons ⟨rfl, r⟩ (RepKV.mapPut r t)
    · rw [if_neg h, if_neg h]; exact .cons a (RepKV.mapPut r t)
theorem RepKV.app {K : PySem.W.Frag} {α : List Addr} {G : Hp} : ∀ {ws ws' : List (κ × V)} {fs fs' : List (κ × D)}, RepKV K α G ws fs → RepKV K α G ws' fs' → RepKV K α G (ws ++ ws') (fs ++ fs')
  | _, _, _, _, .nil, q => q
  | _ :: _, _, _ :: _, _, .cons a t, q => .cons a (RepKV.app t q)
theorem RepKV.put {K : PySem.W.Frag} {α : List Addr} {G : Hp} {k : κ} {v : V} {d : D} (r : Rep K α G v d) {ws : List (κ × V)} {fs : List (κ × D)} (q : RepKV K α G ws fs) : RepKV K α G (putK ws k v) (putD fs k d) := by
  unfold putK putD
  rw [q.any]
  split
  · exact q.mapPut r
  · exact q.app (.cons ⟨rfl, r⟩ .nil)
end
/-- a flat key -/
def D.key : D → Option Key
  | .int n => some (.inl n)
  | .str s => some (.inr s)
  | _ => none
theorem Rep.key {K : PySem.W.Frag} {α : List Addr} {G : Hp} {v : V} {d : D} {k : Key} (r : Rep K α G v d) (h : d.key = some k) : v = kV k := by
  cases r <;> cases h <;> rfl
def kD : Key → D
  | .inl n => .int n
  | .inr s => .str s
theorem Reps.keys {K : PySem.W.Frag} {α : List Addr} {G : Hp} : ∀ {vs : List V} {ks : List Key}, Reps K α G vs (ks.map kD) → vs = ks.map kV
  | _, [], .nil => rfl
  | _, k :: ks, .cons r t => by
    rw [Reps.keys t]
    cases k with
    | inl n => rw [show _ = V.int n from Rep.intV r]; rfl
    | inr s => rw [show _ = V.str s from Rep.strV r]; rfl
/-- a key that is a new tuple -/
theorem keyTup {es : List Expr} {ks : List Key} {x1} {η α : List Addr} {H : Hp} {σ : L2.St} {Q1 : VK} (W : WOk X.K α η μ H) (Ev : EnvR X.K α η H ρ σ) (h : aA X es ρ μ fun ds μ1 => ds = ks.map kD ∧ ks.length ≤ 100 ∧ μ1 = μ)
    (k : ∀ p α1 H1, WOk X.K α1 η μ H1 → Le η α H α1 H1 → EnvR X.K α1 η H1 ρ σ → H1 p = some (.tup (ks.map kV)) → p ∉ α1 → p ∉ η → Q1 (.ref p) H1) : tE X (.Tuple es x1 pos) σ H Q1 :=
  tE_of (pe_tup paA) (aA_then W Ev h fun vs H1 α1 μ1 ds W1 l1 E1 r1 ⟨e1, hl, e2⟩ => by
    subst e1 e2
    have e := r1.keys
    subst e
    refine ⟨by rw [List.length_map]; exact Nat.le_of_lt (small1000 (by omega)), fun p n => ?_⟩
    obtain ⟨W2, l2, n1, n2⟩ := W1.new n (.tup (ks.map kV))
    exact k p α1 _ W2 (l1.trans l2) (E1.le l2) upd_same n1 n2)
/-- y in d, d[y], of a flat key -/
theorem val_some {κ : Type} [DecidableEq κ] {K : PySem.W.Frag} {α : List Addr} {G : Hp} {k : κ} {ws : List (κ × V)} {fs : List (κ × D)} (r : RepKV K α G ws fs) : (valV ws k).isSome = (valD fs k).isSome := by
  have q := r.val (k := k)
  cases e : valD fs k with
  | some d => rw [e] at q; obtain ⟨v, hv, _⟩ := q; rw [hv]; rfl
  | none => rw [e] at q; have q : valV ws k = none := q; rw [q]; rfl
theorem aE_dget {j : Nat} {kvs : List (Key × D)} {y d : D} {key : Key} (hu : X.A.units + 1 < cLine) (ho : EV X o ρ μ (.pr j)) (hi : EV X i ρ μ y) (hj : μ[j]? = some (.dK kvs)) (hk : y.key = some key) (hd : valD kvs key = some d) (q : Q d μ)
    (hs : NoSl i := by exact fun _ _ => rfl) : aE X (.Subscript o i pos) ρ μ Q := fun η α H σ W Ev =>
  tE_of (pe_dget hu peE peE hs) (aE_then W Ev ho fun u H1 α1 μ1 d1 W1 l1 E1 r1 ⟨e1, e2⟩ => by
    subst e1 e2
    refine aE_then W1 E1 hi fun w H2 α2 μ2 d2 W2 l2 E2 r2 ⟨e1, e2⟩ => ?_
    subst e1 e2
    have r1' := r1.le l2
    cases r1' with
    | pr ea =>
      rename_i a
      obtain ⟨ws, hq, rr⟩ := W2.cell j a _ ea hj
      have z := rr.val (k := key)
      rw [hd] at z
      obtain ⟨v, hv, rv⟩ := z
      refine ⟨a, v, rfl, ?_, fin_le W2 (l1.trans l2) rv q⟩
      rw [r2.key hk, ← hv]
      exact DGet.k hq)
theorem aE_din {j : Nat} {kvs : List (Key × D)} {y : D} {key : Key} (hu : X.A.units + 1 < cLine) (ho : EV X o ρ μ (.pr j)) (hi : EV X i ρ μ y) (hj : μ[j]? = some (.dK kvs)) (hk : y.key = some key) (q : Q (.bl (valD kvs key).isSome) μ)
    (h1 : behindInMarks .In o = false := by rfl) : aE X (.Compare i [.In] [o] pos) ρ μ Q := fun η α H σ W Ev =>
  tE_of (pe_cmp (pc_din hu peE peE) h1) (aE_then W Ev hi fun w H1 α1 μ1 d1 W1 l1 E1 r1 ⟨e1, e2⟩ => by
    subst e1 e2
    refine aE_then W1 E1 ho fun u H2 α2 μ2 d2 W2 l2 E2 r2 ⟨e1, e2⟩ => ?_
    subst e1 e2
    cases r2 with
    | pr ea =>
      rename_i a
      obtain ⟨ws, hq, rr⟩ := W2.cell j a _ ea hj
      refine ⟨a, valV ws key, rfl, by rw [r1.key hk]; exact DGet.k hq, ?_⟩
      rw [val_some rr]
      exact fin_le W2 (l1.trans l2) .bl q)
/-- (a, b) in d -/
theorem aE_dinT {j : Nat} {kvs : List (List Key × D)} {es : List Expr} {ks : List Key} {x1 p1} (hu : X.A.units + 1 < cLine) (hi : aA X es ρ μ fun ds μ1 => ds = ks.map kD ∧ ks.length ≤ 100 ∧ μ1 = μ) (ho : EV X o ρ μ (.pr j)) (hj : μ[j]? = some (.dT kvs)) (q : Q (.bl (valD kvs ks).isSome) μ)
    (h1 : behindInMarks .In o = false := by rfl) : aE X (.Compare (.Tuple es x1 p1) [.In] [o] pos) ρ μ Q := fun η α H σ W Ev =>
  tE_of (pe_cmp (pc_din hu peE peE) h1) (keyTup W Ev hi fun p α1 H1 W1 l1 E1 hp n1 n2 => by
    refine aE_then W1 E1 ho fun u H2 α2 μ2 d2 W2 l2 E2 r2 ⟨e1, e2⟩ => ?_
    subst e1 e2
    cases r2 with
    | pr ea =>
      rename_i a
      obtain ⟨ws, hq, rr⟩ := W2.cell j a _ ea hj
      have hp2 : H2 p = some (.tup (ks.map kV)) := (msk_some.mp (l2.same _ _ (msk_some.mpr ⟨n1, n2, hp⟩))).2.2
      refine ⟨a, valV ws ks, rfl, DGet.t hq hp2, ?_⟩
      rw [val_some rr]
      exact fin_le W2 (l1.trans l2) .bl q)
theorem write_dK {K : PySem.W.Frag} {η α : List Addr} {H : Hp} {a : Addr} {k : Nat} {ws : List (Key × V)} {kvs : List (Key × D)} (W : WOk K α η μ H) (ea : α[k]? = some a) (r : RepKV K α (msk α η H) ws kvs) :
    WOk K α η (μ.set k (.dK kvs)) (upd H a (.dK ws)) ∧ Le η α H α (upd H a (.dK ws)) := W.write ea ⟨ws, upd_same, by rw [msk_upd (List.mem_of_getElem? ea)]; exact r⟩
theorem write_dT {K : PySem.W.Frag} {η α : List Addr} {H : Hp} {a : Addr} {k : Nat} {ws : List (List Key × V)} {kvs : List (List Key × D)} (W : WOk K α η μ H) (ea : α[k]? = some a) (r : RepKV K α (msk α η H) ws kvs) :
    WOk K α η (μ.set k (.dT kvs)) (upd H a (.dT ws)) ∧ Le η α H α (upd H a (.dT ws)) := W.write ea ⟨ws, upd_same, by rw [msk_upd (List.mem_of_getElem? ea)]; exact r⟩
/-- d[y] = e -/
theorem aS_dput {j : Nat} {y : D} (hu : X.A.units + 1 < cLine)
    (h : aE X e ρ μ fun x μ1 => EV X o ρ μ1 (.pr j) ∧ EV X i ρ μ1 y ∧ ∃ kvs key, μ1[j]? = some (.dK kvs) ∧ y.key = some key ∧ kvs.length < sizeLine ∧ E.nx ρ (μ1.set j (.dK (putD kvs key x))))
    (hs : swapsWith e (some (.Subscript o i pos')) pos.line X.env = pure false := by rfl) : aS X (.Assign [.Subscript o i pos'] e pos) ρ μ E := fun η α H σ W Ev pins s I =>
  (ps_dput hu peE peE peE hs).run pins s σ H _ I (aE_then W Ev h fun v H1 α1 μ1 x W1 l1 E1 r1 ⟨ho, hi, kvs, key, hj, hk, hl, q⟩ => by
    refine aE_then W1 E1 ho fun u H2 α2 μ2 d2 W2 l2 E2 r2 ⟨e1, e2⟩ => ?_
    subst e1 e2
    refine aE_then W2 E2 hi fun w H3 α3 μ3 d3 W3 l3 E3 r3 ⟨e1, e2⟩ => ?_
    subst e1 e2
    have r2' := r2.le l3
    cases r2' with
    | pr ea =>
      rename_i a
      obtain ⟨ws, hq, rr⟩ := W3.cell j a _ ea hj
      obtain ⟨W4, l4⟩ := write_dK W3 ea (rr.put (k := key) ((r1.le l2).le l3))
      refine ⟨a, _, rfl, by rw [r3.key hk]; exact DPut.k hq (by rw [rr.len]; exact hl), _, _, _, W4, l1.trans (l2.trans (l3.trans l4)), E3.le l4, q⟩)
/-- d[a, b] = e -/
theorem aS_dputT {j : Nat} {kvs : List (List Key × D)} {es : List Expr} {ks : List Key} {x : D} {x1 p1} (hu : X.A.units + 1 < cLine) (he : EV X e ρ μ x) (ho : EV X o ρ μ (.pr j)) (hi : aA X es ρ μ fun ds μ1 => ds = ks.map kD ∧ ks.length ≤ 100 ∧ μ1 = μ)
    (hj : μ[j]? = some (.dT kvs)) (hl : kvs.length < sizeLine) (q : E.nx ρ (μ.set j (.dT (putD kvs ks x))))
    (hs : swapsWith e (some (.Subscript o (.Tuple es x1 p1) pos')) pos.line X.env = pure false := by rfl) : aS X (.Assign [.Subscript o (.Tuple es x1 p1) pos'] e pos) ρ μ E := fun η α H σ W Ev pins s I =>
  (ps_dput hu peE peE peE hs).run pins s σ H _ I (aE_then W Ev he fun v H1 α1 μ1 x W1 l1 E1 r1 ⟨e1, e2⟩ => by
    subst e1 e2
    refine aE_then W1 E1 ho fun u H2 α2 μ2 d2 W2 l2 E2 r2 ⟨e1, e2⟩ => ?_
    subst e1 e2
    refine keyTup W2 E2 hi fun p α3 H3 W3 l3 E3 hp n1 n2 => ?_
    have r2' := r2.le l3
    cases r2' with
    | pr ea =>
      rename_i a
      obtain ⟨ws, hq, rr⟩ := W3.cell j a _ ea hj
      obtain ⟨W4, l4⟩ := write_dT W3 ea (rr.put (k := ks) ((r1.le l2).le l3))
      exact ⟨a, _, rfl, DPut.t hq hp (by rw [rr.len]; exact hl), _, _, _, W4, l1.trans (l2.trans (l3.trans l4)), E3.le l4, q⟩)
/-- .. as a target -/
theorem aG_dputT {j : Nat} {kvs : List (List Key × D)} {es : List Expr} {ks : List Key} {x : D} {x1 p1} {N : AEnv → Sto → Prop} (hu : X.A.units + 1 < cLine) (ho : EV X o ρ μ (.pr j)) (hi : aA X es ρ μ fun ds μ1 => ds = ks.map kD ∧ ks.length ≤ 100 ∧ μ1 = μ)
    (hj : μ[j]? = some (.dT kvs)) (hl : kvs.length < sizeLine) (q : N ρ (μ.set j (.dT (putD kvs ks x))))
    (ha : ∀ v, assign (.Subscript o (.Tuple es x1 p1) pos) X.env v = (do
      let ov ← holding [v] (eval o X.env)
      let iv ← holding [v, ov] (eval (.Tuple es x1 p1) X.env)
      standAt pos
      holding [v, ov, iv] (setItem ov iv v)
      release [v, ov, iv] []) := by intro _; rfl) : aG X (.Subscript o (.Tuple es x1 p1) pos) x ρ μ N := fun η α H σ v W Ev r pins s u I rv =>
  (pg_sub peE peE (set_dict hu) ha).run pins s σ H v u _ I rv (aE_then W Ev ho fun w H2 α2 μ2 d2 W2 l2 E2 r2 ⟨e1, e2⟩ => by
    subst e1 e2
    refine keyTup W2 E2 hi fun p α3 H3 W3 l3 E3 hp n1 n2 => ?_
    have r2' := r2.le l3
    cases r2' with
    | pr ea =>
      rename_i a
      obtain ⟨ws, hq, rr⟩ := W3.cell j a _ ea hj
      obtain ⟨W4, l4⟩ := write_dT W3 ea (rr.put (k := ks) ((r.le l2).le l3))
      exact ⟨a, _, rfl, DPut.t hq hp (by rw [rr.len]; exact hl), _, _, _, W4, (l2.trans (l3.trans l4)), E3.le l4, q⟩)
/-- {} -/
theorem aE_dnewK (q : Q (.pr μ.length) (μ ++ [.dK []])) : aE X (.Dict [] [] pos) ρ μ Q := fun η α H σ W Ev =>
  tE_of pe_dnewK fun p n => by
    obtain ⟨W1, l1, g⟩ := W.newCell n (o := .dK []) (c := .dK []) fun l => ⟨[], upd_same, .nil⟩
    exact fin_le W1 l1 (.pr g) q
theorem aE_dnewT (q : Q (.pr μ.length) (μ ++ [.dT []])) : aE X (.Dict [] [] pos) ρ μ Q := fun η α H σ W Ev =>
  tE_of pe_dnewT fun p n => by
    obtain ⟨W1, l1, g⟩ := W.newCell n (o := .dT []) (c := .dT []) fun l => ⟨[], upd_same, .nil⟩
    exact fin_le W1 l1 (.pr g) q
end
end HF

/-! ## A9 -/
namespace PySem
theorem meets_enumerate_newT (l : Addr) (items : Array Value) (n : Nat) (dct : Option Addr) (sl : Array (Option Value)) :
    Meets (Builtin.«enumerate.__new__» ⟨[.type "enumerate", .ref l], []⟩) (fun _ R s => s.heap.get? l = some { cls := .type "tuple", dict := dct, data := .seq items n, slots := sl } ∧
      R (.ok (.ret (.ref (s.heap.push { cls := .type "tuple_iterator", data := .fields #[.ref l, .int 0 0] }).objs.size)))
        { s with heap := (s.heap.push { cls := .type "tuple_iterator", data := .fields #[.ref l, .int 0 0] }).push { cls := .type "enumerate", data := .fields #[.none, .bool false, .ref s.heap.objs.size, rawInt 0, .none, .none] } }) :=
  .of_wp fun prog w A R s h => by
    obtain ⟨hp, g, d, tk, os⟩ := s; obtain ⟨hl, h⟩ := h
    have hsub := sub_enumerate
    have hL : Heap.IsTuple (Shared.heap ⟨hp, g, d, tk, os⟩) l items := ⟨_, hl, rfl, n, rfl⟩
    wp_walk using AutoSeq1.wpAny_loadPart' hl
    refine wpAny_stack_any fun st => wpAny_pure ?_
    split
    · rename_i c _ _ _ _ _
      cases (c == Value.type "enumerate")
      · wp_walk using AutoSeq1.wpAny_loadPart' hl, wpAny_pyIter_tuple hL
        exact ⟨_, rfl, h⟩
      · wp_walk using AutoSeq1.wpAny_loadPart' hl, wpAny_pyIter_tuple hL
        exact ⟨_, rfl, h⟩
    · wp_walk using AutoSeq1.wpAny_loadPart' hl, wpAny_pyIter_tuple hL
      exact ⟨_, rfl, h⟩
section
variable {prog : Program} {w : World} {A : Around} {E : Value → Shared → Prop} {s : Shared}
theorem call_enumerate_tuple {l : Addr} {items : Array Value} {Q : Value → Shared → Prop} (hL : s.heap.IsTuple l items)
    (h : ∀ h', IsEnum h' (s.heap.objs.size + 1) s.heap.objs.size 0 .none → h'.IsTupleIter s.heap.objs.size l 0 → h'.objs.size = s.heap.objs.size + 2 →
      (∀ b o, s.heap.get? b = some o → h'.get? b = some o) → Q (.ref (s.heap.objs.size + 1)) { s with heap := h' }) :
    wpAny (model prog w) A (call (.type "enumerate") [.ref l]) Q E s := by
  obtain ⟨⟨c, dct, dt, sl⟩, hl, hc, n, hd⟩ := hL
  replace hc : c = .type "tuple" := hc
  replace hd : dt = .seq items n := hd
  subst hc hd
  refine callType_new F.called_enumerate (by decide) (F.typeCall_enumerate_1 _) (F.newCall_enumerate_1 _) (fun obj => F.args_object_init_2 obj _) F.entry_enumerate_new
    (meets_enumerate_newT l items n dct sl) ⟨hl, ?_⟩
  have hz : (s.heap.push { cls := .type "tuple_iterator", data := .fields #[.ref l, .int 0 0] }).objs.size = s.heap.objs.size + 1 := Heap.size_push ..
  show _ ∧ _
  rw [hz]
  have he : IsEnum ((s.heap.push { cls := .type "tuple_iterator", data := .fields #[.ref l, .int 0 0] }).push
      { cls := .type "enumerate", data := .fields #[.none, .bool false, .ref s.heap.objs.size, rawInt 0, .none, .none] }) (s.heap.objs.size + 1) s.heap.objs.size 0 .none := by
    have := Heap.get?_push_size (s.heap.push { cls := .type "tuple_iterator", data := .fields #[.ref l, .int 0 0] })
      (o := { cls := .type "enumerate", data := .fields #[.none, .bool false, .ref s.heap.objs.size, rawInt 0, .none, .none] }) rfl
    rw [hz] at this; exact this
  refine ⟨⟨_, he, rfl⟩, h _ he ⟨_, Heap.get?_push_of_some _ (Heap.get?_push_size _ rfl), rfl, rfl⟩ (by rw [Heap.size_push, hz]) fun b o x => Heap.get?_push_of_some _ (Heap.get?_push_of_some _ x)⟩
end
end PySem
namespace HF
open PySem PySem.Spec PyProof.Rows L2

/-- the tuple at a, each item in a new pair with its number -/
def IteT (K : PySem.W.Frag) (a : Addr) : It :=
  ⟨fun i H => ∃ (xs : List V) (x : V), SqT K H a xs ∧ xs[i]? = some x, fun i H v H' => ∃ T x, v = .ref T ∧ H T = none ∧ H' = upd H T (.tup [.int (i : Nat), x]) ∧ ∀ xs, SqT K H a xs → xs[i]? = some x, fun i H => ∃ xs : List V, SqT K H a xs ∧ xs.length ≤ i⟩
theorem turn_enumT {P : Program} {w : World} {K : PySem.W.Frag} {elts : List Expr} {kk : Nat} {tpos : Pos} (a e it : Addr) (hne : e ≠ it) (hai : a ≠ it) (hae : a ≠ e) :
    Turn P w K (.Tuple elts kk tpos) (IteT K a) [e, it] e (fun i h => (∃ old, IsEnum h e it ((i : Nat) : Int) old) ∧ h.IsTupleIter it a i) where
  mem := by simp
  obj := fun i h st b hb => by
    obtain ⟨⟨old, he⟩, ⟨o, ho, hc, hd⟩⟩ := st
    have e' : b = e ∨ b = it := by simpa using hb
    rcases e' with z | z
    · rw [z]; exact ⟨_, he, fun v q => nomatch q⟩
    · rw [z]; exact ⟨o, ho, fun v q => by rw [hd] at q; cases q⟩
  keep := fun i h h' st k => let ⟨⟨old, he⟩, hi⟩ := st; ⟨⟨old, k e (by simp) _ he⟩, hi.at fun o q => k it (by simp) o q⟩
  item := by
    intro X hP hw hK hc i pins s σ H E I hf st hg
    subst hP hw hK
    obtain ⟨⟨old, he⟩, hit⟩ := st
    obtain ⟨xs, x, hq, hx⟩ := hg
    obtain ⟨its, rv, p, hz⟩ := I.tuple hq
    obtain ⟨u, hu, ru⟩ := rv.get hx
    have hel : e < s.heap.objs.size := Heap.lt_size he
    have hil : it < s.heap.objs.size := by obtain ⟨_, q, _⟩ := hit; exact Heap.lt_size q
    have hT : s.heap.IsTuple a its.toArray := p
    have hu' : its.toArray[i]? = some u := by simpa using hu
    have hlt : i < its.toArray.size := (Array.getElem?_eq_some_iff.mp hu').1
    have D := Draws.tuple (prog := X.prog) (w := X.w) (A := X.A.in1) (show X.A.in1.handled = none from I.ok.hd hc) it a hai its.toArray
    refine wpAny_pyNext_enum_itemD D he ⟨hit, hT⟩ hlt hne (by simp [hne, Ne.symm hae]) fun y h' tk hy ho hit' hT' hsz hk => ?_
    have ey : y = u := Option.some.inj (hy.symm.trans hu')
    subst ey
    refine ⟨_, rfl, wpAny_letOwnedTupleGo_enum (s := { s with heap := h', toks := tk + 1 }) ho fun h'' he' sb => ?_⟩
    have hT2 : h''.get? s.heap.objs.size = some { cls := .type "tuple", data := .seq #[.int i tk, y] } := (sb.2 _ (Nat.ne_of_gt hel)).trans hT'
    have new : ObjOk X.prog X.w (upd H s.heap.objs.size (.tup [.int (i : Nat), x])) h'' s.heap.objs.size (.tup [.int (i : Nat), x]) :=
      ⟨by show 2 ≤ sizeLine; decide, [.int i tk, y], .cons ⟨_, rfl⟩ (.cons ru .nil), ⟨_, hT2, rfl, _, rfl⟩⟩
    have I1 : Inv X pins σ (upd H s.heap.objs.size (.tup [.int (i : Nat), x])) { s with heap := h'', toks := tk + 1 } :=
      I.turnedNew (ch := [e, it]) (fun b ob hb q => (sb.2 b (fun z => hb (by simp [z]))).trans (hk b ob (fun z => hb (by simp [z])) (fun z => hb (by simp [z])) q)) hf (Nat.le_refl _) new
    refine ⟨.ref s.heap.objs.size, _, I1, rfl, ⟨_, x, rfl, I.hok.fresh (Nat.le_refl _), rfl, fun ys hy => by rw [I.tuple_inj hy hq]; exact hx⟩, ⟨⟨y, ?_⟩, hit'.1.at fun o q => (sb.2 it (Ne.symm hne)).trans q⟩, fun b hb => ?_⟩
    · have e1 : ((i + 1 : Nat) : Int) = (i : Int) + 1 := by omega
      rw [e1]; exact he'
    · have hb' : b < s.heap.objs.size := by
        have e' : b = e ∨ b = it := by simpa using hb
        rcases e' with z | z
        · rw [z]; exact hel
        · rw [z]; exact hil
      rw [upd_ne (Nat.ne_of_lt hb')]
      exact (hf b hb).1
  done := by
    intro X hP hw hK hc i pins s σ H E I hf st hg
    subst hP hw hK
    obtain ⟨⟨old, he⟩, hit⟩ := st
    obtain ⟨xs, hq, hx⟩ := hg
    obtain ⟨its, rv, p, hz⟩ := I.tuple hq
    obtain ⟨f0, f1, f2, f3, f4, f5⟩ := hf it (by simp)
    have hl := rv.length
    have hT : s.heap.IsTuple a its.toArray := p
    refine wpAny_pyNext_enum_endD (n := i) (P := fun _ _ => True) (St := fun j h => j = i ∧ h.IsTupleIter it a j ∧ h.IsTuple a its.toArray) (fp := [it, a]) ⟨fun j h st => let ⟨o, ho, _⟩ := st.2.1; ⟨o, ho⟩, fun j h h' st hk => ⟨st.1, st.2.1.at fun o e => hk it (by simp) o e, st.2.2.at fun o e => hk a (by simp) o e⟩,
      fun j s Q E hj st _ => absurd st.1 (Nat.ne_of_lt hj), fun s Q E st hE => wpAny_nextOf_tuple_end (show X.A.in1.handled = none from I.ok.hd hc) st.2.1 st.2.2 (by simp; omega) hE⟩ he ⟨rfl, hit, hT⟩ fun h' eb => ⟨rfl, I.turned (t' := s.toks) (fun b o hb q => eb b o hb q) f0 f1 f3 f4 f5⟩
  self := fun A i s Q E st h => let ⟨⟨_, he⟩, _⟩ := st; wpAny_pyIter_enum he h
def iEnumT (K : PySem.W.Frag) (ta : TA) : TI := fun σ H R => ta σ H fun vs H1 => ∃ a xs, vs = [.ref a] ∧ SqT K H1 a xs ∧ R (IteT K a) H1
theorem pi_enumT {X : Cx} {e : Expr} {ta : TA} {p pos tpos : Pos} {elts : List Expr} {kk : Nat} (hg : Gl X "enumerate") (hm : X.mg "enumerate" = none) (ha : PA X [e] ta) (hs : starEach [e] X.env = [(false, eval e X.env)] := by rfl) :
    PI X (.Tuple elts kk tpos) (.Call (.Name "enumerate" p) [e] [] pos) (iEnumT X.K ta) := by
  refine ⟨fun pins s σ H R I h => ?_⟩
  refine Call_ (ld_blt I hg hm boot_enumerate (PyProof.Rows.callWith_type1 (thn (ha.run pos pins s σ H _ I h) fun us s1 ⟨vs, H1, I1, r1, q1⟩ => ?_) hs rfl))
  obtain ⟨a, xs, ex, hq, q⟩ := q1
  subst ex
  cases r1 with
  | cons r rr =>
    cases rr
    cases r
    obtain ⟨its, rv, p', hz⟩ := I1.tuple hq
    have la : a < s1.heap.objs.size := p'.lt
    refine call_enumerate_tuple (show s1.heap.IsTuple a its.toArray from p') fun h' he hit hsz hk => wpAny_pyIter_enum he ?_
    have I2 : Inv X pins σ H1 { s1 with heap := h' } := I1.kept (t' := s1.toks) hk
    refine ⟨s1.heap.objs.size + 1, [s1.heap.objs.size + 1, s1.heap.objs.size], _, _, H1, rfl, I2, turn_enumT a (s1.heap.objs.size + 1) s1.heap.objs.size (Nat.succ_ne_self _) (Nat.ne_of_lt la) (Nat.ne_of_lt (Nat.lt_succ_of_lt la)), ⟨⟨.none, he⟩, hit⟩, fun b hb => ?_, q⟩
    have e' : b = s1.heap.objs.size + 1 ∨ b = s1.heap.objs.size := by simpa using hb
    have hle : s1.heap.objs.size ≤ b := by
      rcases e' with z | z
      · rw [z]; exact Nat.le_add_right _ _
      · rw [z]; exact Nat.le_refl _
    exact I1.fpOk hle (I1.hok.fresh hle)

/-! ### enumerate, zip without addresses -/
def enumD (xs : List D) : List D := xs.zipIdx.map fun p => .tup [.int (p.2 : Nat), p.1]
theorem enumD_get {xs : List D} {i : Nat} {d : D} (h : (enumD xs)[i]? = some d) : ∃ x, xs[i]? = some x ∧ d = .tup [.int (i : Nat), x] := by
  unfold enumD at h
  rw [List.getElem?_map, List.getElem?_zipIdx] at h
  cases e : xs[i]? with
  | none => rw [e] at h; cases h
  | some x =>
    rw [e] at h
    refine ⟨x, rfl, ?_⟩
    have := (Option.some.inj h).symm
    simpa using this
theorem enumD_len (xs : List D) : (enumD xs).length = xs.length := by unfold enumD; rw [List.length_map, List.length_zipIdx]
section
variable {X : Cx} {e e2 : Expr} {ρ : AEnv} {μ : Sto} {Q : DK} {pos p tpos : Pos} {elts : List Expr} {kk : Nat}
theorem pair_yield {K : PySem.W.Frag} {η α : List Addr} {H : Hp} {T : Addr} {u v : V} {x y : D} (W : WOk K α η μ H) (n : H T = none) (r1 : Rep K α (msk α η H) u x) (r2 : Rep K α (msk α η H) v y) :
    WOk K α η μ (upd H T (.tup [u, v])) ∧ Le η α H α (upd H T (.tup [u, v])) ∧ Rep K α (msk α η (upd H T (.tup [u, v]))) (.ref T) (.tup [x, y]) := by
  obtain ⟨W1, l1, n1, n2⟩ := W.new n (.tup [u, v])
  exact ⟨W1, l1, .tup (.inl (.inl (msk_some.mpr ⟨n1, n2, upd_same⟩))) (.cons (r1.le l1) (.cons (r2.le l1) .nil))⟩
theorem aA_arg {R : D → Sto → Prop} (h : aE X e ρ μ R) (s1 : starEach [e] X.env = (false, eval e X.env) :: starEach [] X.env) : aA X [e] ρ μ fun ds μ1 => ∃ d, ds = [d] ∧ R d μ1 := aA_cons (aE_mono h fun d _ z => aA_nil ⟨d, rfl, z⟩) s1
theorem aI_enum {R : AIt → Sto → Prop} (h : aE X e ρ μ fun d μ1 => (∃ xs, d = .lst xs ∧ R ⟨enumD xs, fun _ => True⟩ μ1) ∨ ∃ k xs, d = .pr k ∧ μ1[k]? = some (.lst xs) ∧ R ⟨enumD xs, fun μ' => μ'[k]? = some (.lst xs)⟩ μ1) (hm : X.mg "enumerate" = none) (hg : Gl X "enumerate" := by rfl)
    (hs : starEach [e] X.env = [(false, eval e X.env)] := by rfl) (s1 : starEach [e] X.env = (false, eval e X.env) :: starEach [] X.env := by rfl) : aI X (.Tuple elts kk tpos) (.Call (.Name "enumerate" p) [e] [] pos) ρ μ R := fun η α H σ W Ev pins s I =>
  (pi_enum hg hm paA hs).run pins s σ H _ I (by
    refine aA_then W Ev (aA_arg h s1) fun vs H1 α1 μ1 ds W1 l1 E1 r1 ⟨d, e1, q⟩ => ?_
    subst e1
    cases r1 with
    | cons r1 r2 =>
      cases r2
      rcases q with ⟨xs, rfl, q⟩ | ⟨k, xs, rfl, ek, q⟩
      · cases r1 with
        | lst hq rr =>
          rename_i a vs
          refine ⟨a, vs, rfl, SqL.of (msk_some.mp hq).2.2, α1, μ1, _, W1, l1, ?_, q⟩
          intro ζ i α2 μ2 H2 W2 p2 s2 _
          have sl : SqL X.K H2 a vs := SqL.of (msk_some.mp (s2 _ _ hq)).2.2
          refine ⟨fun d hd => ?_, fun hi => ⟨vs, sl, by rw [rr.len, ← enumD_len]; exact hi⟩⟩
          obtain ⟨x, hx, rfl⟩ := enumD_get hd
          obtain ⟨v, hv, rv⟩ := rr.get hx
          refine ⟨⟨vs, v, sl, hv⟩, fun y H3 ⟨T, v', e1, nT, e3, hy⟩ => ?_⟩
          subst e1 e3
          have : v' = v := Option.some.inj ((hy vs sl).symm.trans hv)
          subst this
          exact pair_yield W2 nT .int (rv.mono p2 s2)
      · cases r1 with
        | pr ea =>
          rename_i a
          obtain ⟨vs, hq, rr⟩ := W1.cell k a _ ea ek
          refine ⟨a, vs, rfl, SqL.of hq, α1, μ1, _, W1, l1, ?_, q⟩
          intro ζ i α2 μ2 H2 W2 p2 s2 hc
          obtain ⟨vs2, hq2, rr2⟩ := W2.cell k a _ (pre_get p2 ea) hc
          have sl : SqL X.K H2 a vs2 := SqL.of hq2
          refine ⟨fun d hd => ?_, fun hi => ⟨vs2, sl, by rw [rr2.len, ← enumD_len]; exact hi⟩⟩
          obtain ⟨x, hx, rfl⟩ := enumD_get hd
          obtain ⟨v, hv, rv⟩ := rr2.get hx
          refine ⟨⟨vs2, v, sl, hv⟩, fun y H3 ⟨T, v', e1, nT, e3, hy⟩ => ?_⟩
          subst e1 e3
          have : v' = v := Option.some.inj ((hy vs2 sl).symm.trans hv)
          subst this
          exact pair_yield W2 nT .int rv)
theorem aI_enumT {R : AIt → Sto → Prop} (h : aE X e ρ μ fun d μ1 => ∃ xs, d = .tup xs ∧ R ⟨enumD xs, fun _ => True⟩ μ1) (hm : X.mg "enumerate" = none) (hg : Gl X "enumerate" := by rfl)
    (hs : starEach [e] X.env = [(false, eval e X.env)] := by rfl) (s1 : starEach [e] X.env = (false, eval e X.env) :: starEach [] X.env := by rfl) : aI X (.Tuple elts kk tpos) (.Call (.Name "enumerate" p) [e] [] pos) ρ μ R := fun η α H σ W Ev pins s I =>
  (pi_enumT hg hm paA hs).run pins s σ H _ I (by
    refine aA_then W Ev (aA_arg h s1) fun vs H1 α1 μ1 ds W1 l1 E1 r1 ⟨d, e1, xs, e2, q⟩ => ?_
    subst e1 e2
    cases r1 with
    | cons r1 r2 =>
      cases r2
      cases r1 with
      | tup hq rr =>
        rename_i a vs
        refine ⟨a, vs, rfl, SqT.unmsk hq, α1, μ1, _, W1, l1, ?_, q⟩
        intro ζ i α2 μ2 H2 W2 p2 s2 _
        have sl : SqT X.K H2 a vs := SqT.unmsk (Same.seqT s2 hq)
        refine ⟨fun d hd => ?_, fun hi => ⟨vs, sl, by rw [rr.len, ← enumD_len]; exact hi⟩⟩
        obtain ⟨x, hx, rfl⟩ := enumD_get hd
        obtain ⟨v, hv, rv⟩ := rr.get hx
        refine ⟨⟨vs, v, sl, hv⟩, fun y H3 ⟨T, v', e1, nT, e3, hy⟩ => ?_⟩
        subst e1 e3
        have : v' = v := Option.some.inj ((hy vs sl).symm.trans hv)
        subst this
        exact pair_yield W2 nT .int (rv.mono p2 s2))
/-- zip of two lists, of two tuples -/
def zipD (xs ys : List D) : List D := (xs.zip ys).map fun p => .tup [p.1, p.2]
theorem zipD_get {xs ys : List D} {i : Nat} {d : D} (h : (zipD xs ys)[i]? = some d) : ∃ x y, xs[i]? = some x ∧ ys[i]? = some y ∧ d = .tup [x, y] := by
  unfold zipD at h
  rw [List.getElem?_map] at h
  cases e : (xs.zip ys)[i]? with
  | none => rw [e] at h; cases h
  | some p =>
    rw [e] at h
    obtain ⟨h1, h2⟩ := List.getElem?_zip_eq_some.mp e
    exact ⟨p.1, p.2, h1, h2, (Option.some.inj h).symm⟩
theorem zipD_len (xs ys : List D) : (zipD xs ys).length = min xs.length ys.length := by unfold zipD; rw [List.length_map, List.length_zip]
theorem aI_zipA {R : AIt → Sto → Prop} {x y : D} {xs ys : List D} (h1 : EV X e ρ μ x) (h2 : EV X e2 ρ μ y) (hxy : (x = .lst xs ∧ y = .lst ys) ∨ (x = .tup xs ∧ y = .tup ys)) (h : R ⟨zipD xs ys, fun _ => True⟩ μ) (hm : X.mg "zip" = none) (hg : Gl X "zip" := by rfl)
    (hs : starEach [e, e2] X.env = (false, eval e X.env) :: starEach [e2] X.env := by rfl) (hpl : (backTo pos (starEach [e2] X.env)).any (·.1) = false := by rfl) (s2 : starEach [e2] X.env = (false, eval e2 X.env) :: starEach [] X.env := by rfl) :
    aI X (.Tuple elts kk tpos) (.Call (.Name "zip" p) [e, e2] [] pos) ρ μ R := fun η α H σ W Ev pins s I =>
  (RZ.pi_zipA hg hm paA hs hpl).run pins s σ H _ I (by
    refine aA_then W Ev (aA_cons (aE_ev h1 (aA_cons (aE_ev h2 (aA_nil ⟨rfl, rfl⟩)) s2)) hs : aA X [e, e2] ρ μ fun ds μ1 => ds = [x, y] ∧ μ1 = μ) fun vs H1 α1 μ1 ds W1 l1 E1 r1 ⟨e1, e2'⟩ => ?_
    subst e1 e2'
    cases r1 with
    | cons r1 r2 =>
      cases r2 with
      | cons r2 r3 =>
        cases r3
        rcases hxy with ⟨rfl, rfl⟩ | ⟨rfl, rfl⟩
        · cases r1 with
          | lst hq rr =>
            rename_i a vs
            cases r2 with
            | lst hq2 rr2 =>
              rename_i b ws
              refine ⟨a, b, vs, ws, rfl, .inl ⟨SqL.of (msk_some.mp hq).2.2, SqL.of (msk_some.mp hq2).2.2, α1, μ1, _, W1, l1, ?_, h⟩⟩
              intro ζ i α2 μ2 H2 W2 p2 s2 _
              have sl : SqL X.K H2 a vs := SqL.of (msk_some.mp (s2 _ _ hq)).2.2
              have sl2 : SqL X.K H2 b ws := SqL.of (msk_some.mp (s2 _ _ hq2)).2.2
              refine ⟨fun d hd => ?_, fun hi => ⟨vs, ws, sl, sl2, by
                have hi : (zipD xs ys).length ≤ i := hi
                rw [zipD_len] at hi
                rw [rr.len, rr2.len]; omega⟩⟩
              obtain ⟨x, y, hx, hy, rfl⟩ := zipD_get hd
              obtain ⟨v, hv, rv⟩ := rr.get hx
              obtain ⟨v2, hv2, rv2⟩ := rr2.get hy
              refine ⟨⟨vs, ws, v, v2, sl, sl2, hv, hv2⟩, fun z H3 ⟨T, v', v2', e1, nT, e3, hy1, hy2⟩ => ?_⟩
              subst e1 e3
              have : v' = v := Option.some.inj ((hy1 vs sl).symm.trans hv)
              subst this
              have : v2' = v2 := Option.some.inj ((hy2 ws sl2).symm.trans hv2)
              subst this
              exact pair_yield W2 nT (rv.mono p2 s2) (rv2.mono p2 s2)
        · cases r1 with
          | tup hq rr =>
            rename_i a vs
            cases r2 with
            | tup hq2 rr2 =>
              rename_i b ws
              refine ⟨a, b, vs, ws, rfl, .inr ⟨SqT.unmsk hq, SqT.unmsk hq2, α1, μ1, _, W1, l1, ?_, h⟩⟩
              intro ζ i α2 μ2 H2 W2 p2 s2 _
              have sl : SqT X.K H2 a vs := SqT.unmsk (Same.seqT s2 hq)
              have sl2 : SqT X.K H2 b ws := SqT.unmsk (Same.seqT s2 hq2)
              refine ⟨fun d hd => ?_, fun hi => ⟨vs, ws, sl, sl2, by
                have hi : (zipD xs ys).length ≤ i := hi
                rw [zipD_len] at hi
                rw [rr.len, rr2.len]; omega⟩⟩
              obtain ⟨x, y, hx, hy, rfl⟩ := zipD_get hd
              obtain ⟨v, hv, rv⟩ := rr.get hx
              obtain ⟨v2, hv2, rv2⟩ := rr2.get hy
              refine ⟨⟨vs, ws, v, v2, sl, sl2, hv, hv2⟩, fun z H3 ⟨T, v', v2', e1, nT, e3, hy1, hy2⟩ => ?_⟩
              subst e1 e3
              have : v' = v := Option.some.inj ((hy1 vs sl).symm.trans hv)
              subst this
              have : v2' = v2 := Option.some.inj ((hy2 ws sl2).symm.trans hv2)
              subst this
              exact pair_yield W2 nT (rv.mono p2 s2) (rv2.mono p2 s2))
end
end HF

/-! ## A10 -/
namespace HF
open PySem PySem.Spec PyProof.Rows L2

section
variable {X : Cx} {ρ : AEnv} {μ : Sto} {Q : DK} {pos : Pos} {elt tg iter tg1 iter1 kx vx : Expr} {ifs ifs1 : List Expr} {scope : Scope} {own : List (Str × Nat)}
/-- a list that grows, hidden, while a comprehension runs -/
def Grows (X : Cx) (η α1 : List Addr) (H1 : Hp) (p : Addr) (P : List D → Sto → Prop) (H' : Hp) : Prop :=
  ∃ α' μ' acc ws, WOk X.K α' (p :: η) μ' H' ∧ α1 <+: α' ∧ Same (msk α1 η H1) (msk α' (p :: η) H') ∧ (∀ b ∈ η, H' b = H1 b) ∧ H' p = some (.lst ws) ∧ Reps X.K α' (msk α' (p :: η) H') ws acc ∧ P acc μ'
def Grows2 (X : Cx) (η α1 : List Addr) (H1 : Hp) (α6 : List Addr) (H6 : Hp) (p : Addr) (P : List D → Sto → Prop) (H' : Hp) : Prop :=
  ∃ α' μ' acc ws, WOk X.K α' (p :: η) μ' H' ∧ α1 <+: α' ∧ Same (msk α1 η H1) (msk α' (p :: η) H') ∧ (∀ b ∈ η, H' b = H1 b) ∧ H' p = some (.lst ws) ∧ Reps X.K α' (msk α' (p :: η) H') ws acc ∧ P acc μ' ∧ α6 <+: α' ∧ Same (msk α6 (p :: η) H6) (msk α' (p :: η) H')
def iAll (X : Cx) (scope : Scope) (tg iter : Expr) : TI := fun σ H R => ∀ (s : Shared) (H0 : Hp) (C : Addr) (cl : List (Str × Addr)) (fp : List Addr), tI (X.blk s H0 scope (compEnvC scope cl C X.env) fp) tg iter σ H R
theorem iAll_ok (s : Shared) (H : Hp) (C : Addr) (cl : List (Str × Addr)) (fp : List Addr) : PI (X.blk s H scope (compEnvC scope cl C X.env) fp) tg iter (iAll X scope tg iter) := ⟨fun pins s' σ H' R I q => q s H C cl fp pins s' I⟩
def Lc2Ask (X : Cx) (elt tg iter : Expr) (ifs : List Expr) (tg1 iter1 : Expr) (ifs1 : List Expr) (scope : Scope) (vs vs1 : List Nat) (ρ : AEnv) (μ : Sto) (c : Bool) (Q : DK) : Prop :=
  aI X tg iter ρ μ fun it μ1 => ∃ P : Nat → List D → Sto → Prop, P 0 [] μ1 ∧ (∀ i acc μ', P i acc μ' → it.cond μ') ∧
    (∀ i d acc μ', it.items[i]? = some d → P i acc μ' → ∀ (s : Shared) (H : Hp) (C : Addr) (cl : List (Str × Addr)) (fp : List Addr), aGc (X.blk s H scope (compEnvC scope cl C X.env) fp) tg vs d (wipeA ρ vs) μ' fun ρ2 μ2 =>
      ∀ (s : Shared) (H : Hp) (C : Addr) (cl : List (Str × Addr)) (fp : List Addr), aTs (X.blk s H scope (compEnvC scope cl C X.env) fp) ifs ρ2 μ2 fun k μ3 => if k = true then
        (∀ (s : Shared) (H : Hp) (C : Addr) (cl : List (Str × Addr)) (fp : List Addr), aI (X.blk s H scope (compEnvC scope cl C X.env) fp) tg1 iter1 ρ2 μ3 fun it1 μ4 => ∃ P1 : Nat → List D → Sto → Prop, P1 0 acc μ4 ∧ (∀ j acc μ', P1 j acc μ' → it1.cond μ' ∧ acc.length < sizeLine) ∧
          (∀ j d1 acc1 μ5, it1.items[j]? = some d1 → P1 j acc1 μ5 → ∀ (s : Shared) (H : Hp) (C : Addr) (cl : List (Str × Addr)) (fp : List Addr), aGc (X.blk s H scope (compEnvC scope cl C X.env) fp) tg1 vs1 d1 (wipeA ρ2 vs1) μ5 fun ρ3 μ6 =>
            ∀ (s : Shared) (H : Hp) (C : Addr) (cl : List (Str × Addr)) (fp : List Addr), aTs (X.blk s H scope (compEnvC scope cl C X.env) fp) ifs1 ρ3 μ6 fun k μ7 => if k = true then
              (∀ (s : Shared) (H : Hp) (C : Addr) (cl : List (Str × Addr)) (fp : List Addr), aE (X.blk s H scope (compEnvC scope cl C X.env) fp) elt ρ3 μ7 fun y μ8 => P1 (j + 1) (acc1 ++ [y]) μ8) else P1 (j + 1) acc1 μ7) ∧
          ∀ acc1 μ5, P1 it1.items.length acc1 μ5 → P (i + 1) acc1 μ5) else P (i + 1) acc μ3) ∧
    ∀ acc μ', P it.items.length acc μ' → LcOut c acc μ' Q
theorem lc2_read {c : Bool} {η α : List Addr} {H : Hp} {σ : L2.St} {vs vs1 : List Nat} (W : WOk X.K α η μ H) (Ev : EnvR X.K α η H ρ σ) (h : Lc2Ask X elt tg iter ifs tg1 iter1 ifs1 scope vs vs1 ρ μ c Q) :
    tLc2 (tI X tg iter) (gAll X scope tg) (sAll X scope ifs) (iAll X scope tg1 iter1) (gAll X scope tg1) (sAll X scope ifs1) (eAll X scope elt) vs vs1 σ H (PD X.K η α H Q) := by
  refine tI_mono (h η α H σ W Ev) fun J H1 ⟨α1, μ1, it, W1, l1, Y, P, p0, pc, ps, pd⟩ => ?_
  intro p np
  obtain ⟨Wh, s1, k1, ha, hh⟩ := W1.hide np (.lst [])
  refine ⟨fun i m H' => m = it.items.length - i ∧ i ≤ it.items.length ∧ Grows X η α1 H1 p (P i) H', ⟨it.items.length, rfl, Nat.zero_le _, α1, μ1, [], [], Wh, List.prefix_refl _, s1, k1, upd_same, .nil, p0⟩, ?_⟩
  rintro i m H2 ⟨rfl, hi, α2, μ2, acc, ws, W2, pr2, s2, k2, e2, r2, p2⟩
  have E2 : EnvR X.K α2 (p :: η) H2 ρ σ := ⟨Ev.len, fun j d e => by
    obtain ⟨v, hv, r⟩ := (Ev.le l1).get j d e
    exact ⟨v, hv, r.mono pr2 s2⟩⟩
  have y := Y [p] i α2 μ2 H2 W2 pr2 s2 (pc i acc μ2 p2)
  by_cases hlt : i < it.items.length
  · have e := List.getElem?_eq_getElem hlt
    obtain ⟨go, yl⟩ := y.1 _ e
    refine .inr ⟨go, Grows X η α1 H1 p (P (i + 1)), ?_, fun x H3 yx => ?_⟩
    · intro H' p'
      exact ⟨it.items.length - (i + 1), by omega, rfl, hlt, p'⟩
    · obtain ⟨W3, l3, r3⟩ := yl x H3 yx
      intro s H0 C cl fp
      have E3 := (E2.le l3).wipe vs
      refine tG_mono (ps i _ acc μ2 e p2 s H0 C cl fp (p :: η) α2 H3 (L2.wipe σ vs) x W3 E3 r3) fun σ4 H4 ⟨w4, α4, μ4, ρ4, W4, l4, E4, q4⟩ => ⟨w4.trans (wipe_idem _ _), fun s H0 C cl fp => ?_⟩
      refine tTs_mono (q4 s H0 C cl fp (p :: η) α4 H4 σ4 W4 E4) fun k H5 ⟨α5, μ5, W5, l5, q5⟩ => ?_
      have l35 : Le (p :: η) α2 H2 α5 H5 := l3.trans (l4.trans l5)
      have grow : ∀ {α6 : List Addr} {H6 : Hp} {μ6 : Sto} {Pn : List D → Sto → Prop}, WOk X.K α6 (p :: η) μ6 H6 → Le (p :: η) α2 H2 α6 H6 → Pn acc μ6 → Grows X η α1 H1 p Pn H6 := fun {α6 H6 μ6 Pn} W6 l26 q =>
        ⟨α6, μ6, acc, ws, W6, pr2.trans l26.pre, s2.trans l26.same, fun b hb => (l26.hid b (List.mem_cons_of_mem _ hb)).trans (k2 b hb), (l26.hid p List.mem_cons_self).trans e2, r2.le l26, q⟩
      cases k with
      | false => exact grow W5 l35 q5
      | true =>
        intro s H0 C cl fp
        have E5 := E4.le l5
        refine tI_mono (q5 s H0 C cl fp (p :: η) α5 H5 σ4 W5 E5) fun J1 H6 ⟨α6, μ6, it1, W6, l6, Y1, P1, p10, p1c, p1s, p1d⟩ => ?_
        have E6 := E5.le l6
        -- the inner loop: since H6
        have l26 := l35.trans l6
        refine ⟨fun j m H' => m = it1.items.length - j ∧ j ≤ it1.items.length ∧ Grows2 X η α1 H1 α6 H6 p (P1 j) H', ⟨it1.items.length, rfl, Nat.zero_le _, α6, μ6, acc, ws, W6, pr2.trans l26.pre, s2.trans l26.same, fun b hb => (l26.hid b (List.mem_cons_of_mem _ hb)).trans (k2 b hb), (l26.hid p List.mem_cons_self).trans e2, r2.le l26, p10, List.prefix_refl _, Same.refl _⟩, ?_⟩
        rintro j m H7 ⟨rfl, hj, α7, μ7, acc7, ws7, W7, pr7, s7, k7, e7, r7, p7, pr67, s67⟩
        have E7 : EnvR X.K α7 (p :: η) H7 ρ4 σ4 := ⟨E6.len, fun j d e => by
          obtain ⟨v, hv, r⟩ := E6.get j d e
          exact ⟨v, hv, r.mono pr67 s67⟩⟩
        have y1 := Y1 [] j α7 μ7 H7 W7 pr67 s67 (p1c j acc7 μ7 p7).1
        by_cases hlt1 : j < it1.items.length
        · have e1 := List.getElem?_eq_getElem hlt1
          obtain ⟨go1, yl1⟩ := y1.1 _ e1
          refine .inr ⟨go1, Grows2 X η α1 H1 α6 H6 p (P1 (j + 1)), ?_, fun x H8 yx => ?_⟩
          · intro H' z
            exact ⟨it1.items.length - (j + 1), by omega, rfl, hlt1, z⟩
          · obtain ⟨W8, l8, r8⟩ := yl1 x H8 yx
            intro s H0 C cl fp
            have E8 := (E7.le l8).wipe vs1
            refine tG_mono (p1s j _ acc7 μ7 e1 p7 s H0 C cl fp (p :: η) α7 H8 (L2.wipe σ4 vs1) x W8 E8 r8) fun σ9 H9 ⟨w9, α9, μ9, ρ9, W9, l9, E9, q9⟩ => ⟨w9.trans (wipe_idem _ _), fun s H0 C cl fp => ?_⟩
            refine tTs_mono (q9 s H0 C cl fp (p :: η) α9 H9 σ9 W9 E9) fun k HA ⟨αA, μA, WA, lA, qA⟩ => ?_
            have l7A : Le (p :: η) α7 H7 αA HA := l8.trans (l9.trans lA)
            cases k with
            | false => exact ⟨αA, μA, acc7, ws7, WA, pr7.trans l7A.pre, s7.trans l7A.same, fun b hb => (l7A.hid b (List.mem_cons_of_mem _ hb)).trans (k7 b hb), (l7A.hid p List.mem_cons_self).trans e7, r7.le l7A, qA, pr67.trans l7A.pre, s67.trans l7A.same⟩
            | true =>
              intro s H0 C cl fp
              refine tE_mono (qA s H0 C cl fp (p :: η) αA HA σ9 WA (E9.le lA)) fun v HB ⟨αB, μB, dB, WB, lB, rB, qB⟩ => ?_
              have l7B := l7A.trans lB
              have eB : HB p = some (.lst ws7) := (l7B.hid p List.mem_cons_self).trans e7
              refine ⟨ws7, eB, by rw [r7.len]; exact (p1c j acc7 μ7 p7).2, αB, μB, acc7 ++ [dB], ws7 ++ [v], WB.writeH List.mem_cons_self _, pr7.trans l7B.pre, ?_, fun b hb => ?_, upd_same, ?_, qB, pr67.trans l7B.pre, ?_⟩
              · rw [msk_updH List.mem_cons_self]; exact s7.trans l7B.same
              · rw [upd_ne (show b ≠ p from fun z => hh (z ▸ hb))]
                exact (l7B.hid b (List.mem_cons_of_mem _ hb)).trans (k7 b hb)
              · rw [msk_updH List.mem_cons_self]; exact (r7.le l7B).app (.cons rB .nil)
              · rw [msk_updH List.mem_cons_self]; exact s67.trans l7B.same
        · have e1 : j = it1.items.length := by omega
          subst e1
          exact .inl ⟨y1.2 (Nat.le_refl _), α7, μ7, acc7, ws7, W7, pr7, s7, k7, e7, r7, p1d acc7 μ7 p7⟩
  · have e : i = it.items.length := by omega
    subst e
    exact .inl ⟨y.2 (Nat.le_refl _), lc_out l1 W2 pr2 s2 k2 hh e2 r2 (pd acc μ2 p2)⟩
theorem aE_lc2 {c : Bool} {own : List (Str × Nat)} {vs1 : List Nat} (h : Lc2Ask X elt tg iter ifs tg1 iter1 ifs1 scope (own.map (·.2)) vs1 ρ μ c Q) (ok : BlkOk X.N X.env.scope scope own) (hv : ∀ i ∈ vs1, i ∈ own.map (·.2)) (hN : X.N.Nodup) (hc : X.calm = true := by rfl)
    (hs : ∀ x, foldedSetIterable iter X.env x = pure x := by intro _; rfl) (hs1 : ∀ env x, foldedSetIterable iter1 env x = pure x := by intro _ _; rfl) :
    aE X (.ListComp elt [⟨tg, iter, ifs, 0⟩, ⟨tg1, iter1, ifs1, 0⟩] scope pos) ρ μ Q := fun η α H σ W Ev =>
  tE_of (pe_lc2 hc hN piI ok hv gAll_ok sAll_ok iAll_ok gAll_ok sAll_ok eAll_ok hs hs1) (lc2_read W Ev h)
theorem aS_setLc2 {c : Bool} {own : List (Str × Nat)} {vs1 : List Nat} {E : AEnds} {i : Nat} {y : Str} {py spos : Pos} (h : Lc2Ask X elt tg iter ifs tg1 iter1 ifs1 scope (own.map (·.2)) vs1 ρ μ c fun d μ1 => E.nx (ρ.set i (some d)) μ1) (ok : BlkOk X.N X.env.scope scope own) (hv : ∀ i ∈ vs1, i ∈ own.map (·.2)) (hN : X.N.Nodup)
    (hsw : swapsWith (.ListComp elt [⟨tg, iter, ifs, 0⟩, ⟨tg1, iter1, ifs1, 0⟩] scope pos) (some (.Name y py)) spos.line X.env = pure true) (hy : X.N[i]? = some y := by rfl) (hyl : X.env.scope.names.lookup y = some .local := by rfl) (hc : X.calm = true := by rfl)
    (hs : ∀ x, foldedSetIterable iter X.env x = pure x := by intro _; rfl) (hs1 : ∀ env x, foldedSetIterable iter1 env x = pure x := by intro _ _; rfl) :
    aS X (.Assign [.Name y py] (.ListComp elt [⟨tg, iter, ifs, 0⟩, ⟨tg1, iter1, ifs1, 0⟩] scope pos) spos) ρ μ E := fun η α H σ W Ev pins s I =>
  (ps_setLc2 hc hN hy hyl hsw piI ok hv gAll_ok sAll_ok iAll_ok gAll_ok sAll_ok eAll_ok hs hs1).run pins s σ H _ I (by
    obtain z := lc2_read W Ev h
    show tLc2 _ _ _ _ _ _ _ _ _ σ H _
    have mono : ∀ {wi wi1 : TI} {g g1 : TG} {tt tt1 : TT} {te : TE} {vs vs1 : List Nat} {Q Q' : VK}, (∀ σ H R R', (∀ J H, R J H → R' J H) → wi σ H R → wi σ H R') → (∀ v H, Q v H → Q' v H) → tLc2 wi g tt wi1 g1 tt1 te vs vs1 σ H Q → tLc2 wi g tt wi1 g1 tt1 te vs vs1 σ H Q' := by
      intro wi wi1 g g1 tt tt1 te vs vs1 Q Q' hw hq t
      refine hw _ _ _ _ (fun J H1 z D hD => ?_) t
      obtain ⟨W, w0, st⟩ := z D hD
      exact ⟨W, w0, fun i m H w => (st i m H w).imp (fun z => ⟨z.1, hq _ _ z.2⟩) fun z => z⟩
    refine mono (fun σ H R R' k z => tI_mono z k) (fun v H1 ⟨α1, μ1, d, W1, l1, r1, q⟩ => ?_) z
    exact ⟨α1, μ1, _, W1, l1, (Ev.le l1).set r1 i, q⟩)

/-! ### dict comprehensions -/
def DcAsk (X : Cx) (kx vx tg iter : Expr) (ifs : List Expr) (scope : Scope) (vs : List Nat) (ρ : AEnv) (μ : Sto) (Q : DK) : Prop :=
  aI X tg iter ρ μ fun it μ1 => ∃ P : Nat → List (Key × D) → Sto → Prop, P 0 [] μ1 ∧ (∀ i acc μ', P i acc μ' → it.cond μ' ∧ acc.length < sizeLine) ∧
    (∀ i d acc μ', it.items[i]? = some d → P i acc μ' → ∀ (s : Shared) (H : Hp) (C : Addr) (cl : List (Str × Addr)) (fp : List Addr), aGc (X.blk s H scope (compEnvC scope cl C X.env) fp) tg vs d (wipeA ρ vs) μ' fun ρ2 μ2 =>
      ∀ (s : Shared) (H : Hp) (C : Addr) (cl : List (Str × Addr)) (fp : List Addr), aTs (X.blk s H scope (compEnvC scope cl C X.env) fp) ifs ρ2 μ2 fun k μ3 => if k = true then
        (∀ (s : Shared) (H : Hp) (C : Addr) (cl : List (Str × Addr)) (fp : List Addr), aE (X.blk s H scope (compEnvC scope cl C X.env) fp) kx ρ2 μ3 fun y μ4 =>
          ∀ (s : Shared) (H : Hp) (C : Addr) (cl : List (Str × Addr)) (fp : List Addr), aE (X.blk s H scope (compEnvC scope cl C X.env) fp) vx ρ2 μ4 fun z μ5 => ∃ key, y.key = some key ∧ P (i + 1) (putD acc key z) μ5) else P (i + 1) acc μ3) ∧
    ∀ acc μ', P it.items.length acc μ' → Q (.pr μ'.length) (μ' ++ [.dK acc])
theorem dc_read {vs : List Nat} {η α : List Addr} {H : Hp} {σ : L2.St} (W : WOk X.K α η μ H) (Ev : EnvR X.K α η H ρ σ) (h : DcAsk X kx vx tg iter ifs scope vs ρ μ Q) :
    tDc (tI X tg iter) (gAll X scope tg) (sAll X scope ifs) (eAll X scope kx) (eAll X scope vx) vs σ H (PD X.K η α H Q) := by
    refine tI_mono (h η α H σ W Ev) fun J H1 ⟨α1, μ1, it, W1, l1, Y, P, p0, pc, ps, pd⟩ => ?_
    intro p np
    obtain ⟨Wh, s1, k1, ha, hh⟩ := W1.hide np (.dK [])
    refine ⟨fun i m H' => m = it.items.length - i ∧ i ≤ it.items.length ∧ ∃ α' μ' acc ws, WOk X.K α' (p :: η) μ' H' ∧ α1 <+: α' ∧ Same (msk α1 η H1) (msk α' (p :: η) H') ∧ (∀ b ∈ η, H' b = H1 b) ∧ H' p = some (.dK ws) ∧ RepKV X.K α' (msk α' (p :: η) H') ws acc ∧ P i acc μ',
      ⟨it.items.length, rfl, Nat.zero_le _, α1, μ1, [], [], Wh, List.prefix_refl _, s1, k1, upd_same, .nil, p0⟩, ?_⟩
    rintro i m H2 ⟨rfl, hi, α2, μ2, acc, ws, W2, pr2, s2, k2, e2, r2, p2⟩
    have E2 : EnvR X.K α2 (p :: η) H2 ρ σ := ⟨Ev.len, fun j d e => by
      obtain ⟨v, hv, r⟩ := (Ev.le l1).get j d e
      exact ⟨v, hv, r.mono pr2 s2⟩⟩
    have y := Y [p] i α2 μ2 H2 W2 pr2 s2 (pc i acc μ2 p2).1
    by_cases hlt : i < it.items.length
    · have e := List.getElem?_eq_getElem hlt
      obtain ⟨go, yl⟩ := y.1 _ e
      refine .inr ⟨go, fun H' => ∃ α' μ' acc ws, WOk X.K α' (p :: η) μ' H' ∧ α1 <+: α' ∧ Same (msk α1 η H1) (msk α' (p :: η) H') ∧ (∀ b ∈ η, H' b = H1 b) ∧ H' p = some (.dK ws) ∧ RepKV X.K α' (msk α' (p :: η) H') ws acc ∧ P (i + 1) acc μ', ?_, fun x H3 yx => ?_⟩
      · intro H' p'
        exact ⟨it.items.length - (i + 1), by omega, rfl, hlt, p'⟩
      · obtain ⟨W3, l3, r3⟩ := yl x H3 yx
        intro s H0 C cl fp
        have E3 := (E2.le l3).wipe vs
        refine tG_mono (ps i _ acc μ2 e p2 s H0 C cl fp (p :: η) α2 H3 (L2.wipe σ vs) x W3 E3 r3) fun σ4 H4 ⟨w4, α4, μ4, ρ4, W4, l4, E4, q4⟩ => ⟨w4.trans (wipe_idem _ _), fun s H0 C cl fp => ?_⟩
        refine tTs_mono (q4 s H0 C cl fp (p :: η) α4 H4 σ4 W4 E4) fun k H5 ⟨α5, μ5, W5, l5, q5⟩ => ?_
        have l35 : Le (p :: η) α2 H2 α5 H5 := l3.trans (l4.trans l5)
        cases k with
        | false => exact ⟨α5, μ5, acc, ws, W5, pr2.trans l35.pre, s2.trans l35.same, fun b hb => (l35.hid b (List.mem_cons_of_mem _ hb)).trans (k2 b hb), (l35.hid p List.mem_cons_self).trans e2, L2.Paired.mapP r2 fun _ _ z => ⟨z.1, z.2.le l35⟩, q5⟩
        | true =>
          intro s H0 C cl fp
          refine tE_mono (q5 s H0 C cl fp (p :: η) α5 H5 σ4 W5 (E4.le l5)) fun v H6 ⟨α6, μ6, d6, W6, l6, r6, q6⟩ => ?_
          intro s H0 C cl fp
          refine tE_mono (q6 s H0 C cl fp (p :: η) α6 H6 σ4 W6 ((E4.le l5).le l6)) fun u H7 ⟨α7, μ7, d7, W7, l7, r7, key, hk, q7⟩ => ?_
          have l27 := l35.trans (l6.trans l7)
          have e7 : H7 p = some (.dK ws) := (l27.hid p List.mem_cons_self).trans e2
          have r27 : RepKV X.K α7 (msk α7 (p :: η) H7) ws acc := L2.Paired.mapP r2 fun _ _ z => ⟨z.1, z.2.le l27⟩
          refine ⟨ws, key, r6.key hk, e7, by rw [r2.len]; exact (pc i acc μ2 p2).2, α7, μ7, putD acc key d7, putK ws key u, W7.writeH List.mem_cons_self _, pr2.trans l27.pre, ?_, fun b hb => ?_, upd_same, ?_, q7⟩
          · rw [msk_updH List.mem_cons_self]; exact s2.trans l27.same
          · rw [upd_ne (show b ≠ p from fun z => hh (z ▸ hb))]
            exact (l27.hid b (List.mem_cons_of_mem _ hb)).trans (k2 b hb)
          · rw [msk_updH List.mem_cons_self]; exact r27.put r7
    · have e : i = it.items.length := by omega
      subst e
      refine .inl ⟨y.2 (Nat.le_refl _), ?_⟩
      obtain ⟨W3, s3, g⟩ := W2.outC (c := .dK acc) hh fun s3 => ⟨ws, e2, L2.Paired.mapP r2 fun _ _ z => ⟨z.1, z.2.mono (List.prefix_append _ _) s3⟩⟩
      exact fin_le W3 (l1.trans ⟨pr2.trans (List.prefix_append _ _), s2.trans s3, k2⟩) (.pr g) (pd acc μ2 p2)
theorem aE_dc {own : List (Str × Nat)} (h : DcAsk X kx vx tg iter ifs scope (own.map (·.2)) ρ μ Q) (ok : BlkOk X.N X.env.scope scope own) (hN : X.N.Nodup) (hc : X.calm = true := by rfl) (hs : ∀ x, foldedSetIterable iter X.env x = pure x := by intro _; rfl) :
    aE X (.DictComp kx vx [⟨tg, iter, ifs, 0⟩] scope pos) ρ μ Q := fun η α H σ W Ev =>
  tE_of (pe_dc hc hN piI ok gAll_ok sAll_ok eAll_ok eAll_ok hs) (dc_read W Ev h)
/-- name = {..} on one line, the name a local -/
theorem ps_setDc {i : Nat} {y : Str} {py : Pos} {spos : Pos} {own : List (Str × Nat)} {wi : TI} {g : TG} {tt : TT} {tk tv : TE} (hc : X.calm = true) (hN : X.N.Nodup) (hy : X.N[i]? = some y) (hyl : X.env.scope.names.lookup y = some .local)
    (hsw : swapsWith (.DictComp kx vx [⟨tg, iter, ifs, 0⟩] scope pos) (some (.Name y py)) spos.line X.env = pure true) (hi : PI X tg iter wi) (ok : BlkOk X.N X.env.scope scope own)
    (hg : ∀ (s : Shared) (H : Hp) (C : Addr) (cl : List (Str × Addr)) (fp : List Addr), PG (X.blk s H scope (compEnvC scope cl C X.env) fp) tg g) (ht : ∀ (s : Shared) (H : Hp) (C : Addr) (cl : List (Str × Addr)) (fp : List Addr), PTs (X.blk s H scope (compEnvC scope cl C X.env) fp) ifs tt)
    (hk : ∀ (s : Shared) (H : Hp) (C : Addr) (cl : List (Str × Addr)) (fp : List Addr), PE (X.blk s H scope (compEnvC scope cl C X.env) fp) kx tk)
    (he : ∀ (s : Shared) (H : Hp) (C : Addr) (cl : List (Str × Addr)) (fp : List Addr), PE (X.blk s H scope (compEnvC scope cl C X.env) fp) vx tv) (hs : ∀ x, foldedSetIterable iter X.env x = pure x := by intro _; rfl) :
    PS X (.Assign [.Name y py] (.DictComp kx vx [⟨tg, iter, ifs, 0⟩] scope pos) spos) (tAsg (tDc wi g tt tk tv (own.map (·.2))) (gName i)) := by
  refine ⟨fun pins s σ H D I h => ?_⟩
  rw [exec_Assign_Name_used _ _ _ _ hsw]
  refine wpAny_bind (wpAny_standAt (wpAny_bind ?_))
  show wpAny _ X.A (do let _ ← comprehension (.DictComp kx vx [⟨tg, iter, ifs, 0⟩] scope pos) scope X.env (firstIterPos [⟨tg, iter, ifs, 0⟩] pos) newDict false (eval iter X.env) (some (assign (.Name y py) X.env))) _ _ s
  have h : tDc wi g tt tk tv (own.map (·.2)) σ H (fun x H1 => gName i x σ H1 D.nx) := h
  refine wpAny_bind (thn (dc_core (Qf := fun _ s' => SP X pins D .next s') hc hN I hi ok hg ht hk he hs h fun L C s' m H' I' q hn f => ?_) fun _ s' hq => wpAny_pure (wpAny_pure hq))
  show wpAny _ _ (assign (.Name y py) X.env (.ref L)) _ _ _
  refine wpAny_assign_Name (store_ok2 (v := V.ref L) I' hN hy (.inl hyl) rfl (fun s2 I2 ⟨a, sb, ha⟩ => ?_) (.inr hyl))
  obtain ⟨f0, f1, f2, f3, f4, f5⟩ := f
  have haC : C ≠ a := by
    rcases ha with z | z
    · rw [z]; exact f1
    · exact fun e => f4 y a z e.symm
  refine ⟨m, hn.sameBut sb haC, fun h3 sb3 => ?_⟩
  exact ⟨_, H', I2.turned (t' := s2.toks) (fun b o hb e => (sb3.2 b hb).trans e) f0 f1 f3 f4 f5, q⟩
theorem sw_trueD {scope : Scope} {pos py : Pos} {y : Str} {l : Nat} {env : Env} {gs : List Comprehension} (hk : env.scope.kind = .function) (hy : env.scope.names.lookup y = some .local) (hl : (py.line == pos.line) = true)
    (ha : (scope.names.any fun (n, k) => n == y && (k == .local || k == .cell)) = false) : swapsWith (.DictComp kx vx gs scope pos) (some (.Name y py)) l env = pure true := by
  have ky : env.kindOf y = some .local := hy
  have hb : env.blockKind = .function := by unfold Env.blockKind; rw [hk]; rfl
  unfold swapsWith
  simp only [hb, ky, ha, Expr.pos, hl]
  rfl
theorem aS_setDc {own : List (Str × Nat)} {E : AEnds} {i : Nat} {y : Str} {py spos : Pos} (h : DcAsk X kx vx tg iter ifs scope (own.map (·.2)) ρ μ fun d μ1 => E.nx (ρ.set i (some d)) μ1) (ok : BlkOk X.N X.env.scope scope own) (hN : X.N.Nodup)
    (hsw : swapsWith (.DictComp kx vx [⟨tg, iter, ifs, 0⟩] scope pos) (some (.Name y py)) spos.line X.env = pure true) (hy : X.N[i]? = some y := by rfl) (hyl : X.env.scope.names.lookup y = some .local := by rfl) (hc : X.calm = true := by rfl) (hs : ∀ x, foldedSetIterable iter X.env x = pure x := by intro _; rfl) :
    aS X (.Assign [.Name y py] (.DictComp kx vx [⟨tg, iter, ifs, 0⟩] scope pos) spos) ρ μ E := fun η α H σ W Ev pins s I =>
  (ps_setDc hc hN hy hyl hsw piI ok gAll_ok sAll_ok eAll_ok eAll_ok hs).run pins s σ H _ I (by
    obtain z := dc_read W Ev h
    show tDc _ _ _ _ _ _ σ H _
    have mono : ∀ {wi : TI} {g : TG} {tt : TT} {tk te : TE} {vs : List Nat} {Q Q' : VK}, (∀ σ H R R', (∀ J H, R J H → R' J H) → wi σ H R → wi σ H R') → (∀ v H, Q v H → Q' v H) → tDc wi g tt tk te vs σ H Q → tDc wi g tt tk te vs σ H Q' := by
      intro wi g tt tk te vs Q Q' hw hq t
      refine hw _ _ _ _ (fun J H1 z D hD => ?_) t
      obtain ⟨W, w0, st⟩ := z D hD
      exact ⟨W, w0, fun i m H w => (st i m H w).imp (fun z => ⟨z.1, hq _ _ z.2⟩) fun z => z⟩
    refine mono (fun σ H R R' k z => tI_mono z k) (fun v H1 ⟨α1, μ1, d, W1, l1, r1, q⟩ => ?_) z
    exact ⟨α1, μ1, _, W1, l1, (Ev.le l1).set r1 i, q⟩)
end
end HF

/-! ## A11 -/
namespace HF
open PySem PySem.Spec PyProof.Rows L2

abbrev isD (d : D) (μ : Sto) : DK := fun d' μ' => d' = d ∧ μ' = μ
section
variable {X : Cx} {e a b c o : Expr} {es : List Expr} {ρ : AEnv} {μ : Sto} {Q : DK} {pos p : Pos} {x y z d : D} {xs ys : List D} {f : Str} {C : Addr}
theorem ev_v (i : Nat) {x : Str} {d : D} (hd : ρ[i]? = some (some d) := by rfl) (hN : X.N[i]? = some x := by rfl) (hv : Vis X.env.scope x := by first | exact Or.inl rfl | exact Or.inr (Or.inl rfl) | exact Or.inr (Or.inr rfl)) (h1 : (x == ("__debug__" : Str)) = false := by decide) (h2 : (x == ("__classdict__" : Str)) = false := by decide) : EV X (.Name x pos) ρ μ d := ev_var hd hN hv h1 h2
theorem ev_g {x : Str} {u : Str} {t : Tok} (hm : X.mg x = some (.str u t)) (hg : Gl X x := by rfl) (hd : (x == ("__debug__" : Str)) = false := by decide) : EV X (.Name x pos) ρ μ (.str u) := ev_gstr hm hg hd
theorem ev_bin {op : Operator} (ha : EV X a ρ μ x) (hb : EV X b ρ μ y) (h : AOp X (binaryOp op) x y μ (isD z μ)) : EV X (.BinOp a op b pos) ρ μ z := aE_op (aE_ev ha (aE_ev hb h))
theorem ev_add {i j : Int} (ha : EV X a ρ μ (.int i)) (hb : EV X b ρ μ (.int j)) : EV X (.BinOp a .Add b pos) ρ μ (.int (i + j)) := ev_bin ha hb (aop_addI ⟨rfl, rfl⟩)
theorem ev_sub {i j : Int} (ha : EV X a ρ μ (.int i)) (hb : EV X b ρ μ (.int j)) : EV X (.BinOp a .Sub b pos) ρ μ (.int (i - j)) := ev_bin ha hb (aop_subI ⟨rfl, rfl⟩)
theorem ev_cat (ha : EV X a ρ μ x) (hb : EV X b ρ μ y) (hx : IsL μ x xs) (hy : IsL μ y ys) (hz : xs.length + ys.length ≤ sizeLine) : EV X (.BinOp a .Add b pos) ρ μ (.lst (xs ++ ys)) := ev_bin ha hb (aop_cat hx hy hz ⟨rfl, rfl⟩)
theorem ev_catT (ha : EV X a ρ μ (.tup xs)) (hb : EV X b ρ μ (.tup ys)) (hx : xs ≠ []) (hz : xs.length + ys.length ≤ sizeLine) : EV X (.BinOp a .Add b pos) ρ μ (.tup (xs ++ ys)) := ev_bin ha hb (aop_catT hx hz ⟨rfl, rfl⟩)
theorem ev_cmp {op : CmpOp} (ha : EV X a ρ μ x) (hb : EV X b ρ μ y) (h : AOp X (compareOp op) x y μ (isD z μ)) (hm : behindInMarks op b = false := by first | exact nomark _ | rfl) : EV X (.Compare a [op] [b] pos) ρ μ z := aE_cmp (aE_ev ha (aE_ev hb h)) hm
theorem ev_lt {i j : Int} (ha : EV X a ρ μ (.int i)) (hb : EV X b ρ μ (.int j)) : EV X (.Compare a [.Lt] [b] pos) ρ μ (.bl (decide (i < j))) := ev_cmp ha hb (aop_lt ⟨rfl, rfl⟩)
theorem ev_gt {i j : Int} (ha : EV X a ρ μ (.int i)) (hb : EV X b ρ μ (.int j)) : EV X (.Compare a [.Gt] [b] pos) ρ μ (.bl (decide (j < i))) := ev_cmp ha hb (aop_gt ⟨rfl, rfl⟩)
theorem ev_le {i j : Int} (ha : EV X a ρ μ (.int i)) (hb : EV X b ρ μ (.int j)) : EV X (.Compare a [.LtE] [b] pos) ρ μ (.bl (decide (i ≤ j))) := ev_cmp ha hb (aop_le ⟨rfl, rfl⟩)
theorem ev_ge {i j : Int} (ha : EV X a ρ μ (.int i)) (hb : EV X b ρ μ (.int j)) : EV X (.Compare a [.GtE] [b] pos) ρ μ (.bl (decide (j ≤ i))) := ev_cmp ha hb (aop_ge ⟨rfl, rfl⟩)
theorem ev_eqI {i j : Int} (ha : EV X a ρ μ (.int i)) (hb : EV X b ρ μ (.int j)) : EV X (.Compare a [.Eq] [b] pos) ρ μ (.bl (decide (i = j))) := ev_cmp ha hb (aop_eqI ⟨rfl, rfl⟩)
theorem ev_neI {i j : Int} (ha : EV X a ρ μ (.int i)) (hb : EV X b ρ μ (.int j)) : EV X (.Compare a [.NotEq] [b] pos) ρ μ (.bl (!decide (i = j))) := ev_cmp ha hb (aop_neI ⟨rfl, rfl⟩)
theorem ev_eqS {i j : Str} (ha : EV X a ρ μ (.str i)) (hb : EV X b ρ μ (.str j)) : EV X (.Compare a [.Eq] [b] pos) ρ μ (.bl (decide (i = j))) := ev_cmp ha hb (aop_eqS ⟨rfl, rfl⟩)
theorem ev_neS {i j : Str} (ha : EV X a ρ μ (.str i)) (hb : EV X b ρ μ (.str j)) : EV X (.Compare a [.NotEq] [b] pos) ρ μ (.bl (!decide (i = j))) := ev_cmp ha hb (aop_neS ⟨rfl, rfl⟩)
theorem ev_eqB {i j : Bool} (ha : EV X a ρ μ (.bl i)) (hb : EV X b ρ μ (.bl j)) : EV X (.Compare a [.Eq] [b] pos) ρ μ (.bl (decide (i = j))) := ev_cmp ha hb (aop_eqB ⟨rfl, rfl⟩)
theorem ev_neB {i j : Bool} (ha : EV X a ρ μ (.bl i)) (hb : EV X b ρ μ (.bl j)) : EV X (.Compare a [.NotEq] [b] pos) ρ μ (.bl (!decide (i = j))) := ev_cmp ha hb (aop_neB ⟨rfl, rfl⟩)
theorem ev_isN (ha : EV X a ρ μ x) (hb : EV X b ρ μ .non) : EV X (.Compare a [.Is] [b] pos) ρ μ (.bl x.isNon) := ev_cmp ha hb (aop_isN ⟨rfl, rfl⟩)
theorem ev_notN (ha : EV X a ρ μ x) (hb : EV X b ρ μ .non) : EV X (.Compare a [.IsNot] [b] pos) ρ μ (.bl (!x.isNon)) := ev_cmp ha hb (aop_notN ⟨rfl, rfl⟩)
theorem ev_inI {n : Int} {ns : List Int} (ha : EV X a ρ μ (.int n)) (hb : EV X b ρ μ y) (hy : IsS μ y (ns.map D.int)) (hm : behindInMarks .In b = false := by rfl) : EV X (.Compare a [.In] [b] pos) ρ μ (.bl (decide (n ∈ ns))) := ev_cmp ha hb (aop_inI hy ⟨rfl, rfl⟩) hm
theorem ev_notInI {n : Int} {ns : List Int} (ha : EV X a ρ μ (.int n)) (hb : EV X b ρ μ y) (hy : IsS μ y (ns.map D.int)) (hm : behindInMarks .NotIn b = false := by rfl) : EV X (.Compare a [.NotIn] [b] pos) ρ μ (.bl (!decide (n ∈ ns))) := ev_cmp ha hb (aop_notInI hy ⟨rfl, rfl⟩) hm
theorem ev_inS {n : Str} {ns : List Str} (ha : EV X a ρ μ (.str n)) (hb : EV X b ρ μ y) (hy : IsS μ y (ns.map D.str)) (hm : behindInMarks .In b = false := by rfl) : EV X (.Compare a [.In] [b] pos) ρ μ (.bl (decide (n ∈ ns))) := ev_cmp ha hb (aop_inS hy ⟨rfl, rfl⟩) hm
theorem ev_neg {i : Int} (ha : EV X a ρ μ (.int i)) : EV X (.UnaryOp .USub a pos) ρ μ (.int (-i)) := aE_un (aE_ev ha (aun_neg ⟨rfl, rfl⟩))
/-- a < b < c -/
theorem ev_chain {op op' : CmpOp} {k k' : Bool} {w : D} (ha : EV X a ρ μ x) (hb : EV X b ρ μ y) (h : AOp X (compareOp op) x y μ (isD (.bl k) μ)) (hc : EV X c ρ μ w) (h' : AOp X (compareOp op') y w μ (isD (.bl k') μ)) (hm : lastMarks [op, op'] [b, c] = false := by with_unfolding_all rfl) :
    EV X (.Compare a [op, op'] [b, c] pos) ρ μ (.bl (k && k')) := aE_chain (aE_ev ha (aE_ev hb (by
  intro η α H v u W rv ru
  obtain ⟨r, Q', h1, h2, h3⟩ := h η α H v u W rv ru
  refine ⟨r, Q', h1, h2, fun v H q => ?_⟩
  obtain ⟨α', μ', d, W', l, r', e1, e2⟩ := h3 v H q
  subst e1 e2
  refine ⟨α', μ', _, W', l, r', k, rfl, ?_⟩
  cases k with
  | true => exact aE_ev hc h'
  | false => exact ⟨rfl, rfl⟩))) hm
/-- lists, tuples by place -/
theorem ev_ix {i : Int} (ha : EV X a ρ μ x) (hb : EV X b ρ μ (.int i)) (hx : IsS μ x xs) (h : atI xs i = some d) (hs : PlainIx b := by exact fun _ _ => rfl) : EV X (.Subscript a b pos) ρ μ d := aE_ix (aE_ev ha (aE_ev hb (aix hx h ⟨rfl, rfl⟩))) hs
/-- t[k], the tuple written -/
theorem ev_t {i : Nat} {j : Nat} {p2 : Pos} (ha : EV X a ρ μ (.tup xs)) (h : xs[i]? = some d := by rfl) : EV X (.Subscript a (.Constant (.int (i : Int)) j p2) pos) ρ μ d := ev_ix ha ev_int .t (atI_nat h)
theorem ev_slN {lo hi : Option Int} {l h : Option Expr} {p2 : Pos} (ha : EV X a ρ μ x) (hx : IsL μ x xs) (hl : match l, lo with | none, none => True | some e, some i => EV X e ρ μ (.int i) | _, _ => False) (hh : match h, hi with | none, none => True | some e, some i => EV X e ρ μ (.int i) | _, _ => False) :
    EV X (.Subscript a (.Slice l h none p2) pos) ρ μ (.lst (cutD xs lo hi)) := aE_sl ha hl hh (asl_l hx ⟨rfl, rfl⟩)
theorem ev_fld {fs : List (Str × D)} (hc : Cls X.K C) (hn : NoAttr X.K C f) (he : EV X e ρ μ x) (hi : IsI μ x C fs) (hl : fs.lookup f = some d) (hb : attributeBase e f X.env (eval e X.env) = eval e X.env := by rfl) : EV X (.Attribute e f pos) ρ μ d := aE_fld hc hn (aE_ev he ⟨fs, d, hi, hl, rfl, rfl⟩) hb
theorem ev_lst {ds : List D} (h : aA X es ρ μ fun ds' μ' => ds' = ds ∧ μ' = μ) (hz : ds.length ≤ sizeLine := by first | decide | exact Nat.le_of_lt (small1000 (by simp))) : EV X (.List es pos) ρ μ (.lst ds) := aE_lst (aA_mono h fun _ _ ⟨h1, h2⟩ => by subst h1 h2; exact ⟨hz, rfl, rfl⟩)
theorem ev_tup {ds : List D} {x1} (h : aA X es ρ μ fun ds' μ' => ds' = ds ∧ μ' = μ) (hz : ds.length ≤ sizeLine := by first | decide | exact Nat.le_of_lt (small1000 (by simp))) : EV X (.Tuple es x1 pos) ρ μ (.tup ds) := aE_tup (aA_mono h fun _ _ ⟨h1, h2⟩ => by subst h1 h2; exact ⟨hz, rfl, rfl⟩)
abbrev EVA (X : Cx) (es : List Expr) (ρ : AEnv) (μ : Sto) (ds : List D) : Prop := aA X es ρ μ fun ds' μ' => ds' = ds ∧ μ' = μ
theorem va_nil : EVA X [] ρ μ [] := aA_nil ⟨rfl, rfl⟩
theorem va_cons {ds : List D} (h : EV X e ρ μ d) (t : EVA X es ρ μ ds) (hs : starEach (e :: es) X.env = (false, eval e X.env) :: starEach es X.env := by rfl) : EVA X (e :: es) ρ μ (d :: ds) := aA_cons (aE_ev h (aA_mono t fun _ _ ⟨h1, h2⟩ => by subst h1 h2; exact ⟨rfl, rfl⟩)) hs
theorem aA_ev {ds : List D} {Q : List D → Sto → Prop} (h : EVA X es ρ μ ds) (q : Q ds μ) : aA X es ρ μ Q := aA_mono h fun _ _ ⟨h1, h2⟩ => by subst h1 h2; exact q
theorem ev_callB {id : String} {x : Str} {ds : List D} (h : EVA X (e :: es) ρ μ ds) (hq : ACall X (.builtin id) ds μ (isD d μ)) (hm : X.mg x = none) (hv : bootBuiltins x = some (.builtin id)) (hg : Gl X x := by rfl) (hn : x ≠ "__name__" := by decide) (hdb : (x == ("__debug__" : Str)) = false := by decide)
    (he : starEach (e :: es) X.env = (false, eval e X.env) :: starEach es X.env := by rfl) (hpl : (backTo pos (starEach es X.env)).any (·.1) = false := by rfl) : EV X (.Call (.Name x p) (e :: es) [] pos) ρ μ d := aE_callB (aA_ev h hq) hm hv hg hn hdb he hpl
theorem ev_callTy {T : String} {x : Str} {ds : List D} (h : EVA X (e :: es) ρ μ ds) (hq : ACall X (.type T) ds μ (isD d μ)) (hm : X.mg x = none) (hv : bootBuiltins x = some (.type T)) (hg : Gl X x := by rfl) (hn : x ≠ "__name__" := by decide) (hdb : (x == ("__debug__" : Str)) = false := by decide)
    (he : starEach (e :: es) X.env = (false, eval e X.env) :: starEach es X.env := by rfl) (hpl : (backTo pos (starEach es X.env)).any (·.1) = false := by rfl) : EV X (.Call (.Name x p) (e :: es) [] pos) ρ μ d := aE_callTy (aA_ev h hq) hm hv hg hn hdb he hpl
theorem ev_len (hm : X.mg "len" = none) (h : EV X e ρ μ x) (hx : IsS μ x xs) (hg : Gl X "len" := by rfl) (he : starEach [e] X.env = (false, eval e X.env) :: starEach [] X.env := by rfl) (hpl : (backTo pos (starEach [] X.env)).any (·.1) = false := by rfl) :
    EV X (.Call (.Name "len" p) [e] [] pos) ρ μ (.int xs.length) := ev_callB (va_cons h va_nil he) (acall_len hx ⟨rfl, rfl⟩) hm PySem.boot_len hg (by decide) (by decide) he hpl
theorem ev_any {τ : Type} {L : List τ} {q : τ → Bool} (hm : X.mg "any" = none) (h : EV X e ρ μ (.lst (L.map fun t => .bl (q t)))) (hg : Gl X "any" := by rfl) (he : starEach [e] X.env = (false, eval e X.env) :: starEach [] X.env := by rfl) (hpl : (backTo pos (starEach [] X.env)).any (·.1) = false := by rfl) (hc : X.calm = true := by rfl) :
    EV X (.Call (.Name "any" p) [e] [] pos) ρ μ (.bl (L.any q)) := ev_callB (va_cons h va_nil he) (acall_any .l ⟨rfl, rfl⟩ hc) hm PyProof.Rows.boot_any hg (by decide) (by decide) he hpl
theorem ev_all {τ : Type} {L : List τ} {q : τ → Bool} (hm : X.mg "all" = none) (h : EV X e ρ μ (.lst (L.map fun t => .bl (q t)))) (hg : Gl X "all" := by rfl) (he : starEach [e] X.env = (false, eval e X.env) :: starEach [] X.env := by rfl) (hpl : (backTo pos (starEach [] X.env)).any (·.1) = false := by rfl) (hc : X.calm = true := by rfl) :
    EV X (.Call (.Name "all" p) [e] [] pos) ρ μ (.bl (L.all q)) := ev_callB (va_cons h va_nil he) (acall_all .l ⟨rfl, rfl⟩ hc) hm PyProof.Rows.boot_all hg (by decide) (by decide) he hpl
theorem ev_tuple (hm : X.mg "tuple" = none) (h : EV X e ρ μ x) (hx : IsL μ x xs) (hg : Gl X "tuple" := by rfl) (he : starEach [e] X.env = (false, eval e X.env) :: starEach [] X.env := by rfl) (hpl : (backTo pos (starEach [] X.env)).any (·.1) = false := by rfl) :
    EV X (.Call (.Name "tuple" p) [e] [] pos) ρ μ (.tup xs) := ev_callTy (va_cons h va_nil he) (acall_tuple hx ⟨rfl, rfl⟩) hm PyProof.Rows.boot_tuple hg (by decide) (by decide) he hpl
theorem ev_list (hm : X.mg "list" = none) (h : EV X e ρ μ x) (hx : IsS μ x xs) (hg : Gl X "list" := by rfl) (he : starEach [e] X.env = (false, eval e X.env) :: starEach [] X.env := by rfl) (hpl : (backTo pos (starEach [] X.env)).any (·.1) = false := by rfl) :
    EV X (.Call (.Name "list" p) [e] [] pos) ρ μ (.lst xs) := ev_callTy (va_cons h va_nil he) (acall_list hx ⟨rfl, rfl⟩) hm PyProof.Rows.boot_list hg (by decide) (by decide) he hpl
theorem ev_cast (h : EV X e ρ μ x) (he : x = y) : EV X e ρ μ y := by rw [← he]; exact h
/-- bools -/
theorem ev_not {k : Bool} (h : EV X a ρ μ (.bl k)) : EV X (.UnaryOp .Not a pos) ρ μ (.bl (!k)) := aE_not (aE_ev h ⟨k, rfl, rfl, rfl⟩)
theorem ev_and {k k' : Bool} (ha : EV X a ρ μ (.bl k)) (hb : k = true → EV X b ρ μ (.bl k')) : EV X (.BoolOp .And [a, b] pos) ρ μ (.bl (k && k')) := aE_and (aE_ev ha ⟨k, rfl, by
  cases k with
  | true => exact aE_one (hb rfl)
  | false => exact ⟨rfl, rfl⟩⟩)
theorem ev_or {k k' : Bool} (ha : EV X a ρ μ (.bl k)) (hb : k = false → EV X b ρ μ (.bl k')) : EV X (.BoolOp .Or [a, b] pos) ρ μ (.bl (k || k')) := aE_or (aE_ev ha ⟨k, rfl, by
  cases k with
  | true => exact ⟨rfl, rfl⟩
  | false => exact aE_one (hb rfl)⟩)
theorem ev_ite {k : Bool} (hc : EVT X c ρ μ k) (ha : k = true → EV X a ρ μ x) (hb : k = false → EV X b ρ μ y) : EV X (.IfExp c a b pos) ρ μ (if k = true then x else y) := aE_if (aT_ev hc (by
  cases k with
  | true => exact ha rfl
  | false => exact hb rfl))
/-- tests -/
theorem tv_cmp {op : CmpOp} {k : Bool} (ha : EV X a ρ μ x) (hb : EV X b ρ μ y) (h : AOp X (compareOp op) x y μ (isD (.bl k) μ)) (hm : behindInMarks op b = false := by first | exact nomark _ | rfl) : EVT X (.Compare a [op] [b] pos) ρ μ k := aT_cmp (aE_ev ha (aE_ev hb (by
  intro η α H v u W rv ru
  obtain ⟨r, Q', h1, h2, h3⟩ := h η α H v u W rv ru
  refine ⟨r, Q', h1, h2, fun v H q => ?_⟩
  obtain ⟨α', μ', d, W', l, r', e1, e2⟩ := h3 v H q
  subst e1 e2
  exact ⟨α', μ', _, W', l, r', k, rfl, rfl, rfl⟩))) hm
theorem tv_val {k : Bool} (h : EV X e ρ μ (.bl k)) (he : ∀ whole, isTrue e X.env whole = (do let v ← whole; standAt e.pos; holding [v] (truthy v)) := by intro _; rfl) : EVT X e ρ μ k := aT_val (aE_ev h ⟨k, rfl, rfl, rfl⟩) he
theorem tv_not {k : Bool} (h : EVT X a ρ μ k) : EVT X (.UnaryOp .Not a pos) ρ μ (!k) := aT_not (aT_ev h ⟨rfl, rfl⟩)
theorem tv_and {k k' : Bool} (ha : EVT X a ρ μ k) (hb : k = true → EVT X b ρ μ k') : EVT X (.BoolOp .And [a, b] pos) ρ μ (k && k') := aT_w (aW_and (aT_ev ha (by
  cases k with
  | true => exact aW_and1 (hb rfl)
  | false => exact ⟨rfl, rfl⟩)))
theorem tv_or {k k' : Bool} (ha : EVT X a ρ μ k) (hb : k = false → EVT X b ρ μ k') : EVT X (.BoolOp .Or [a, b] pos) ρ μ (k || k') := aT_w (aW_or (aT_ev ha (by
  cases k with
  | true => exact ⟨rfl, rfl⟩
  | false => exact aW_or1 (hb rfl))))
theorem tv_eqI {i j : Int} (ha : EV X a ρ μ (.int i)) (hb : EV X b ρ μ (.int j)) : EVT X (.Compare a [.Eq] [b] pos) ρ μ (decide (i = j)) := tv_cmp ha hb (aop_eqI ⟨rfl, rfl⟩)
theorem tv_neI {i j : Int} (ha : EV X a ρ μ (.int i)) (hb : EV X b ρ μ (.int j)) : EVT X (.Compare a [.NotEq] [b] pos) ρ μ (!decide (i = j)) := tv_cmp ha hb (aop_neI ⟨rfl, rfl⟩)
theorem tv_lt {i j : Int} (ha : EV X a ρ μ (.int i)) (hb : EV X b ρ μ (.int j)) : EVT X (.Compare a [.Lt] [b] pos) ρ μ (decide (i < j)) := tv_cmp ha hb (aop_lt ⟨rfl, rfl⟩)
theorem tv_gt {i j : Int} (ha : EV X a ρ μ (.int i)) (hb : EV X b ρ μ (.int j)) : EVT X (.Compare a [.Gt] [b] pos) ρ μ (decide (j < i)) := tv_cmp ha hb (aop_gt ⟨rfl, rfl⟩)
theorem tv_eqS {i j : Str} (ha : EV X a ρ μ (.str i)) (hb : EV X b ρ μ (.str j)) : EVT X (.Compare a [.Eq] [b] pos) ρ μ (decide (i = j)) := tv_cmp ha hb (aop_eqS ⟨rfl, rfl⟩)
theorem tv_neS {i j : Str} (ha : EV X a ρ μ (.str i)) (hb : EV X b ρ μ (.str j)) : EVT X (.Compare a [.NotEq] [b] pos) ρ μ (!decide (i = j)) := tv_cmp ha hb (aop_neS ⟨rfl, rfl⟩)
theorem tv_inI {n : Int} {ns : List Int} (ha : EV X a ρ μ (.int n)) (hb : EV X b ρ μ y) (hy : IsS μ y (ns.map D.int)) (hm : behindInMarks .In b = false := by rfl) : EVT X (.Compare a [.In] [b] pos) ρ μ (decide (n ∈ ns)) := tv_cmp ha hb (aop_inI hy ⟨rfl, rfl⟩) hm
theorem tv_notInI {n : Int} {ns : List Int} (ha : EV X a ρ μ (.int n)) (hb : EV X b ρ μ y) (hy : IsS μ y (ns.map D.int)) (hm : behindInMarks .NotIn b = false := by rfl) : EVT X (.Compare a [.NotIn] [b] pos) ρ μ (!decide (n ∈ ns)) := tv_cmp ha hb (aop_notInI hy ⟨rfl, rfl⟩) hm
theorem tv_isN (ha : EV X a ρ μ x) (hb : EV X b ρ μ .non) : EVT X (.Compare a [.Is] [b] pos) ρ μ x.isNon := tv_cmp ha hb (aop_isN ⟨rfl, rfl⟩)
theorem tv_notN (ha : EV X a ρ μ x) (hb : EV X b ρ μ .non) : EVT X (.Compare a [.IsNot] [b] pos) ρ μ (!x.isNon) := tv_cmp ha hb (aop_notN ⟨rfl, rfl⟩)
theorem tv_cast {k k' : Bool} (h : EVT X e ρ μ k) (he : k = k') : EVT X e ρ μ k' := by rw [← he]; exact h
abbrev EVTs (X : Cx) (ifs : List Expr) (ρ : AEnv) (μ : Sto) (k : Bool) : Prop := aTs X ifs ρ μ fun b μ' => b = k ∧ μ' = μ
theorem tvs_nil : EVTs X [] ρ μ true := aTs_nil ⟨rfl, rfl⟩
theorem tvs_one {k : Bool} (h : EVT X a ρ μ k) : EVTs X [a] ρ μ k := aTs_one (aT_ev h ⟨rfl, rfl⟩)

/-! ### pure comprehensions -/
abbrev EVI (X : Cx) (tg iter : Expr) (ρ : AEnv) (μ : Sto) (items : List D) : Prop := aI X tg iter ρ μ fun it μ1 => μ1 = μ ∧ it.items = items ∧ it.cond μ
theorem vi_list {tg : Expr} (h : EV X e ρ μ (.lst xs)) : EVI X tg e ρ μ xs := aI_list (aE_ev h (.inl ⟨xs, rfl, rfl, rfl, trivial⟩))
theorem vi_cell {tg : Expr} {k : Nat} (h : EV X e ρ μ (.pr k)) (hk : μ[k]? = some (.lst xs)) : EVI X tg e ρ μ xs := aI_list (aE_ev h (.inr ⟨k, xs, rfl, hk, rfl, rfl, hk⟩))
theorem vi_tup {tg : Expr} (h : EV X e ρ μ (.tup xs)) : EVI X tg e ρ μ xs := aI_tup (aE_ev h ⟨xs, rfl, rfl, rfl, trivial⟩)
theorem vi_range {tg : Expr} {n : Nat} (hm : X.mg "range" = none) (h : EV X e ρ μ (.int n)) (hn : n < 2 ^ 62) (hg : Gl X "range" := by rfl) (hs : starEach [e] X.env = [(false, eval e X.env)] := by rfl) (s1 : starEach [e] X.env = (false, eval e X.env) :: starEach [] X.env := by rfl) :
    EVI X tg (.Call (.Name "range" p) [e] [] pos) ρ μ (rangeD n) := aI_range1 (aE_ev h ⟨n, rfl, hn, rfl, rfl, trivial⟩) hm hg hs s1
theorem vi_enumT {elts : List Expr} {kk : Nat} {tpos : Pos} (hm : X.mg "enumerate" = none) (h : EV X e ρ μ (.tup xs)) (hg : Gl X "enumerate" := by rfl) (hs : starEach [e] X.env = [(false, eval e X.env)] := by rfl) (s1 : starEach [e] X.env = (false, eval e X.env) :: starEach [] X.env := by rfl) :
    EVI X (.Tuple elts kk tpos) (.Call (.Name "enumerate" p) [e] [] pos) ρ μ (enumD xs) := aI_enumT (aE_ev h ⟨xs, rfl, rfl, rfl, trivial⟩) hm hg hs s1
theorem vi_enum {elts : List Expr} {kk : Nat} {tpos : Pos} (hm : X.mg "enumerate" = none) (h : EV X e ρ μ (.lst xs)) (hg : Gl X "enumerate" := by rfl) (hs : starEach [e] X.env = [(false, eval e X.env)] := by rfl) (s1 : starEach [e] X.env = (false, eval e X.env) :: starEach [] X.env := by rfl) :
    EVI X (.Tuple elts kk tpos) (.Call (.Name "enumerate" p) [e] [] pos) ρ μ (enumD xs) := aI_enum (aE_ev h (.inl ⟨xs, rfl, rfl, rfl, trivial⟩)) hm hg hs s1
theorem vi_enumC {elts : List Expr} {kk k : Nat} {tpos : Pos} (hm : X.mg "enumerate" = none) (h : EV X e ρ μ (.pr k)) (hk : μ[k]? = some (.lst xs)) (hg : Gl X "enumerate" := by rfl) (hs : starEach [e] X.env = [(false, eval e X.env)] := by rfl) (s1 : starEach [e] X.env = (false, eval e X.env) :: starEach [] X.env := by rfl) :
    EVI X (.Tuple elts kk tpos) (.Call (.Name "enumerate" p) [e] [] pos) ρ μ (enumD xs) := aI_enum (aE_ev h (.inr ⟨k, xs, rfl, hk, rfl, rfl, hk⟩)) hm hg hs s1
theorem enumD_map {τ : Type} (L : List τ) (enc : τ → D) : enumD (L.map enc) = L.zipIdx.map fun p => .tup [.int (p.2 : Nat), enc p.1] := by
  unfold enumD
  rw [List.zipIdx_map, List.map_map]
  rfl
abbrev Bk (X : Cx) (scope : Scope) (J : Cx → Prop) : Prop := ∀ (s : Shared) (H : Hp) (C : Addr) (cl : List (Str × Addr)) (fp : List Addr), J (X.blk s H scope (compEnvC scope cl C X.env) fp)
variable {elt tg iter kx vx : Expr} {ifs : List Expr} {scope : Scope} {τ : Type} {L : List τ} {enc g : τ → D} {pr : τ → Bool} {env : τ → AEnv} {vs : List Nat} {cc : Bool}
theorem lcp (hi : EVI X tg iter ρ μ (L.map enc)) (hL : L.length < sizeLine) (hg : ∀ t ∈ L, Bk X scope fun Y => aGc Y tg vs (enc t) (wipeA ρ vs) μ fun ρ2 μ2 => ρ2 = env t ∧ μ2 = μ)
    (ht : ∀ t ∈ L, Bk X scope fun Y => EVTs Y ifs (env t) μ (pr t)) (he : ∀ t ∈ L, pr t = true → Bk X scope fun Y => EV Y elt (env t) μ (g t)) (q : LcOut cc ((L.filter pr).map g) μ Q) : LcAsk X elt tg iter ifs scope vs ρ μ cc Q := by
  refine aI_mono hi fun it μ1 ⟨e1, e2, hc⟩ => ?_
  subst e1
  refine ⟨fun i acc μ' => μ' = μ1 ∧ acc = ((L.take i).filter pr).map g, ⟨rfl, rfl⟩, fun i acc μ' ⟨h1, h2⟩ => ⟨by rw [h1]; exact hc, ?_⟩, fun i d acc μ' hd ⟨h1, h2⟩ => ?_, fun acc μ' ⟨h1, h2⟩ => ?_⟩
  · rw [h2, List.length_map]
    refine Nat.lt_of_le_of_lt (List.length_filter_le _ _) (Nat.lt_of_le_of_lt ?_ hL)
    rw [List.length_take]
    exact Nat.min_le_right _ _
  · subst h1 h2
    rw [e2, List.getElem?_map] at hd
    cases e : L[i]? with
    | none => rw [e] at hd; cases hd
    | some t =>
      rw [e] at hd
      cases hd
      have hm := List.mem_of_getElem? e
      intro s H C cl fp
      refine fun η α H1 σ v W Ev r => tG_mono (hg t hm s H C cl fp η α H1 σ v W Ev r) fun σ' H' ⟨hw, α', μ2, ρ2, W', l', E', e3, e4⟩ => ⟨hw, α', μ2, ρ2, W', l', E', ?_⟩
      subst e3 e4
      intro s H C cl fp
      refine aTs_mono (ht t hm s H C cl fp) fun k μ3 ⟨hk, e5⟩ => ?_
      subst hk e5
      have tk : L.take (i + 1) = L.take i ++ [t] := by rw [List.take_add_one, e]; rfl
      cases hp : pr t with
      | true =>
        intro s H C cl fp
        refine aE_mono (he t hm hp s H C cl fp) fun d μ4 ⟨h3, h4⟩ => ?_
        subst h3 h4
        exact ⟨rfl, by rw [tk, List.filter_append, List.map_append]; simp [hp]⟩
      | false =>
        exact ⟨rfl, by rw [tk, List.filter_append, List.map_append]; simp [hp]⟩
  · subst h1 h2
    rw [e2, List.length_map, List.take_of_length_le (Nat.le_refl _)]
    exact q
theorem lcm (hi : EVI X tg iter ρ μ (L.map enc)) (hL : L.length < sizeLine) (hg : ∀ t ∈ L, Bk X scope fun Y => aGc Y tg vs (enc t) (wipeA ρ vs) μ fun ρ2 μ2 => ρ2 = env t ∧ μ2 = μ)
    (he : ∀ t ∈ L, Bk X scope fun Y => EV Y elt (env t) μ (g t)) (q : LcOut cc (L.map g) μ Q) : LcAsk X elt tg iter [] scope vs ρ μ cc Q :=
  lcp (pr := fun _ => true) hi hL hg (fun _ _ _ _ _ _ _ => tvs_nil) (fun t ht _ => he t ht) (by rw [List.filter_eq_self.mpr fun _ _ => rfl]; exact q)
theorem dcp {key : τ → Key} (hi : EVI X tg iter ρ μ (L.map enc)) (hL : L.length < sizeLine) (hg : ∀ t ∈ L, Bk X scope fun Y => aGc Y tg vs (enc t) (wipeA ρ vs) μ fun ρ2 μ2 => ρ2 = env t ∧ μ2 = μ)
    (hk : ∀ t ∈ L, Bk X scope fun Y => EV Y kx (env t) μ (kD (key t))) (he : ∀ t ∈ L, Bk X scope fun Y => EV Y vx (env t) μ (g t)) (q : Q (.pr μ.length) (μ ++ [.dK (L.foldl (fun acc t => putD acc (key t) (g t)) [])])) : DcAsk X kx vx tg iter [] scope vs ρ μ Q := by
  refine aI_mono hi fun it μ1 ⟨e1, e2, hc⟩ => ?_
  subst e1
  have plen : ∀ (M : List τ) (acc : List (Key × D)), (M.foldl (fun acc t => putD acc (key t) (g t)) acc).length ≤ acc.length + M.length := by
    intro M
    induction M with
    | nil => intro acc; exact Nat.le_refl _
    | cons t M ih =>
      intro acc
      refine Nat.le_trans (ih _) ?_
      have : (putD acc (key t) (g t)).length ≤ acc.length + 1 := by
        unfold putD
        split
        · rw [List.length_map]; exact Nat.le_succ _
        · rw [List.length_append]; exact Nat.le_refl _
      rw [List.length_cons]
      show (putD acc (key t) (g t)).length + M.length ≤ acc.length + (M.length + 1)
      omega
  refine ⟨fun i acc μ' => μ' = μ1 ∧ acc = (L.take i).foldl (fun acc t => putD acc (key t) (g t)) [], ⟨rfl, rfl⟩, fun i acc μ' ⟨h1, h2⟩ => ⟨by rw [h1]; exact hc, ?_⟩, fun i d acc μ' hd ⟨h1, h2⟩ => ?_, fun acc μ' ⟨h1, h2⟩ => ?_⟩
  · rw [h2]
    have := plen (L.take i) []
    rw [List.length_take, List.length_nil] at this
    omega
  · subst h1 h2
    rw [e2, List.getElem?_map] at hd
    cases e : L[i]? with
    | none => rw [e] at hd; cases hd
    | some t =>
      rw [e] at hd
      cases hd
      have hm := List.mem_of_getElem? e
      intro s H C cl fp
      refine fun η α H1 σ v W Ev r => tG_mono (hg t hm s H C cl fp η α H1 σ v W Ev r) fun σ' H' ⟨hw, α', μ2, ρ2, W', l', E', e3, e4⟩ => ⟨hw, α', μ2, ρ2, W', l', E', ?_⟩
      subst e3 e4
      intro s H C cl fp
      refine aTs_nil ?_
      intro s H C cl fp
      refine aE_mono (hk t hm s H C cl fp) fun d μ3 ⟨h3, h4⟩ => ?_
      subst h3 h4
      intro s H C cl fp
      refine aE_mono (he t hm s H C cl fp) fun d μ4 ⟨h3, h4⟩ => ?_
      subst h3 h4
      have tk : L.take (i + 1) = L.take i ++ [t] := by rw [List.take_add_one, e]; rfl
      refine ⟨key t, by cases key t <;> rfl, rfl, ?_⟩
      rw [tk, List.foldl_append]
      rfl
  · subst h1 h2
    rw [e2, List.length_map, List.take_of_length_le (Nat.le_refl _)]
    exact q
end
end HF

/-! ## F0 -/
namespace HF
open PySem PySem.Spec PyProof.Rows L2
def topS (i : Nat) : Stmt := PySem.Challenge.pw_hiddenforks_k45_whole_other_names_and_ha.main.body.getD i (.Pass ⟨0, 0, 0, 0⟩)
abbrev Scp (N ps : List Str) (st : Stmt) : Prop := FnScope N ps (defScope st)
/-! ### what stands behind the top -/
structure DefF (K : PySem.W.Frag) (mg : Str → Option Value) (x qual : Str) (st : Stmt) (ps : List Str) where
  f : Addr
  fd : FuncData
  F : Fun K x qual st f fd
  m : mg x = some (.ref f)
  b : Binds K fd ps []
structure MetF (K : PySem.W.Frag) (C : Addr) (m qual : Str) (st : Stmt) (ps : List Str) where
  f : Addr
  fd : FuncData
  F : Fun K m qual st f fd
  M : Meth K C m f
  b : Binds K fd ps []
structure MkF (K : PySem.W.Frag) (C : Addr) (qual : Str) (st : Stmt) (ps : List Str) where
  f : Addr
  fd : FuncData
  F : Fun K "__init__" qual st f fd
  M : Mk K C f
  b : Binds K fd ps []
/-- a default () -/
def EmptyT (K : PySem.W.Frag) (v : V) : Prop := ∀ α G, Rep K α G v (.tup [])
/-- n defaults, each () -/
structure MetD (K : PySem.W.Frag) (C : Addr) (m qual : Str) (st : Stmt) (ps : List Str) (n : Nat) where
  f : Addr
  fd : FuncData
  dvs : List V
  F : FunD K m qual (defArgs st) (defBody st) (defScope st) dvs [] f fd
  M : Meth K C m f
  b : ∀ j ≤ n, ∃ dv, DefV K (dvs.drop j) dv (List.replicate (n - j) (.tup [])) ∧ Binds K fd ps dv
structure MkD (K : PySem.W.Frag) (C : Addr) (qual : Str) (st : Stmt) (ps : List Str) (n : Nat) where
  f : Addr
  fd : FuncData
  dvs : List V
  F : FunD K "__init__" qual (defArgs st) (defBody st) (defScope st) dvs [] f fd
  M : Mk K C f
  b : ∀ j ≤ n, ∃ dv, DefV K (dvs.drop j) dv (List.replicate (n - j) (.tup [])) ∧ Binds K fd ps dv
section
variable {X : Cx} {e o : Expr} {es : List Expr} {ρ : AEnv} {μ : Sto} {Q : DK} {pos p apos : Pos} {k : Nat} {C : Addr} {x m q : Str} {st : Stmt} {ps : List Str} {S : ASp} {pl : Sem Bool} {n : Nat}
theorem aE_def (d : DefF X.K X.mg x q st ps) (ok : AOk X.prog X.w X.K X.mg X.base k d.f d.fd ps S) (hr : Room k X.A) (h : aA X (e :: es) ρ μ fun ds μ1 => S ds μ1 Q)
    (hg : Gl X x := by rfl) (hdb : (x == ("__debug__" : Str)) = false := by decide) (he : starEach (e :: es) X.env = (false, eval e X.env) :: starEach es X.env := by rfl) (hpl : (backTo pos (starEach es X.env)).any (·.1) = false := by rfl) :
    aE X (.Call (.Name x p) (e :: es) [] pos) ρ μ Q := aE_call ok hr d.m d.F.kp d.b .nil (aA_mono h fun ds μ1 z => by rw [List.append_nil]; exact z) hg hdb he hpl
theorem aE_met (d : MetF X.K C m q st ps) (hc : Cls X.K C) (ok : AOk X.prog X.w X.K X.mg X.base k d.f d.fd ps S) (hr : Room k X.A)
    (h : aE X o ρ μ fun d μ1 => ∃ fs, IsI μ1 d C fs ∧ fs.lookup m = none ∧ aA X (e :: es) ρ μ1 fun ds μ2 => S (d :: ds) μ2 Q)
    (hst : starEach (e :: es) X.env = (false, eval e X.env) :: starEach es X.env := by rfl) (hpl : (backTo pos (starEach es X.env)).any (·.1) = false := by rfl)
    (ht : eval (.Call (.Attribute o m apos) (e :: es) [] pos) X.env = (do
      let ov ← eval o X.env
      standAt apos.atName
      let (f, first) ← holding [ov] (getMethod ov m pl)
      callWith pos f first (backTo pos (starEach (e :: es) X.env)) (backToKw pos (keywordEach [] X.env))) := by rfl) : aE X (.Call (.Attribute o m apos) (e :: es) [] pos) ρ μ Q :=
  aE_meth ok hr hc d.M d.b .nil (aE_mono h fun v μ1 ⟨fs, h1, h2, h3⟩ => ⟨fs, h1, h2, aA_mono h3 fun ds μ2 z => by rw [List.append_nil]; exact z⟩) hst hpl ht
theorem aE_met0 (d : MetF X.K C m q st ps) (hc : Cls X.K C) (ok : AOk X.prog X.w X.K X.mg X.base k d.f d.fd ps S) (hr : Room k X.A)
    (h : aE X o ρ μ fun d μ1 => ∃ fs, IsI μ1 d C fs ∧ fs.lookup m = none ∧ S [d] μ1 Q)
    (ht : eval (.Call (.Attribute o m apos) [] [] pos) X.env = (do
      let ov ← eval o X.env
      standAt apos.atName
      let (f, first) ← holding [ov] (getMethod ov m pl)
      callWith pos f first (backTo pos (starEach [] X.env)) (backToKw pos (keywordEach [] X.env))) := by rfl) : aE X (.Call (.Attribute o m apos) [] [] pos) ρ μ Q :=
  aE_meth0 ok hr hc d.M d.b .nil h ht
theorem aE_metD (j : Nat) (d : MetD X.K C m q st ps n) (hj : j ≤ n) (hc : Cls X.K C) (ok : AOk X.prog X.w X.K X.mg X.base k d.f d.fd ps S) (hr : Room k X.A)
    (h : aE X o ρ μ fun d μ1 => ∃ fs, IsI μ1 d C fs ∧ fs.lookup m = none ∧ aA X (e :: es) ρ μ1 fun ds μ2 => S (d :: (ds ++ List.replicate (n - j) (.tup []))) μ2 Q)
    (hst : starEach (e :: es) X.env = (false, eval e X.env) :: starEach es X.env := by rfl) (hpl : (backTo pos (starEach es X.env)).any (·.1) = false := by rfl)
    (ht : eval (.Call (.Attribute o m apos) (e :: es) [] pos) X.env = (do
      let ov ← eval o X.env
      standAt apos.atName
      let (f, first) ← holding [ov] (getMethod ov m pl)
      callWith pos f first (backTo pos (starEach (e :: es) X.env)) (backToKw pos (keywordEach [] X.env))) := by rfl) : aE X (.Call (.Attribute o m apos) (e :: es) [] pos) ρ μ Q := by
  obtain ⟨dv, h1, h2⟩ := d.b j hj
  exact aE_meth ok hr hc d.M h2 h1 h hst hpl ht
theorem aE_mk (d : MkF X.K C q st ps) (ok : AOk X.prog X.w X.K X.mg X.base k d.f d.fd ps S) (hr : Room (k + 1) X.A) (hm : X.mg x = some (.ref C))
    (h : aA X (e :: es) ρ μ fun ds μ1 => S (.pr μ1.length :: ds) (μ1 ++ [.ins C []]) fun d μ2 => d = .non ∧ Q (.pr μ1.length) μ2)
    (hg : Gl X x := by rfl) (hdb : (x == ("__debug__" : Str)) = false := by decide) (he : starEach (e :: es) X.env = (false, eval e X.env) :: starEach es X.env := by rfl) (hpl : (backTo pos (starEach es X.env)).any (·.1) = false := by rfl) :
    aE X (.Call (.Name x p) (e :: es) [] pos) ρ μ Q := aE_make d.M ok hr hm d.b .nil (aA_mono h fun ds μ1 z => by rw [List.append_nil]; exact z) hg hdb he hpl
theorem aE_mkD (j : Nat) (d : MkD X.K C q st ps n) (hj : j ≤ n) (ok : AOk X.prog X.w X.K X.mg X.base k d.f d.fd ps S) (hr : Room (k + 1) X.A) (hm : X.mg x = some (.ref C))
    (h : aA X (e :: es) ρ μ fun ds μ1 => S (.pr μ1.length :: (ds ++ List.replicate (n - j) (.tup []))) (μ1 ++ [.ins C []]) fun d μ2 => d = .non ∧ Q (.pr μ1.length) μ2)
    (hg : Gl X x := by rfl) (hdb : (x == ("__debug__" : Str)) = false := by decide) (he : starEach (e :: es) X.env = (false, eval e X.env) :: starEach es X.env := by rfl) (hpl : (backTo pos (starEach es X.env)).any (·.1) = false := by rfl) :
    aE X (.Call (.Name x p) (e :: es) [] pos) ρ μ Q := by
  obtain ⟨dv, h1, h2⟩ := d.b j hj
  exact aE_make d.M ok hr hm h2 h1 h hg hdb he hpl
end
/-- a def with defaults, by its body -/
theorem fnAD {P : Program} {w : World} {K : PySem.W.Frag} {mg : Str → Option Value} {base : Heap} {x qual : Str} {st : Stmt} {dvs : List V} {f : Addr} {fd : FuncData} {N ps : List Str} {k : Nat} {S : ASp} (F : FunD K x qual (defArgs st) (defBody st) (defScope st) dvs [] f fd) (Sc : FnScope N ps (defScope st)) (len : ∀ ds μ R, S ds μ R → ds.length = ps.length)
    (hbody : ∀ (cdv : Value) (A : Around) (outer : List Env) (s : Shared) (H : Hp) (E : XK) (ds : List D) (μ : Sto) (R : DK), Room k (A.deeper (envOfC qual (defScope st) s.heap.objs.size f cdv)) → S ds μ R →
      aSs (cxOf CX0 P w K mg base N qual (defScope st) f cdv A outer s H E).nox (defBody st) (startA N.length ds) μ (ends μ R)) : AOk P w K mg base (k + 1) f fd ps S := by
  refine F.ok Sc (fun vs H Q E h => ?_) (fun cdv A outer s H vs Q E hr h => ?_)
  · obtain ⟨η, α, μ, ds, R, W, r, hs, _⟩ := h
    rw [r.len]
    exact len ds μ R hs
  · obtain ⟨η, α, μ, ds, R, W, r, hs, q⟩ := h
    refine ⟨_, pssS.nox, ?_⟩
    have fin : ∀ v H', PD K η α H (fun d μ' => ∃ d2 μ2, Exit μ d μ' d2 μ2 ∧ R d2 μ2) v H' → Q v H' := fun v H' ⟨α', μ', d, W', l', r', d2, μ2, x, hR⟩ => by
      obtain ⟨α2, W2, l2, r2⟩ := x.ok W W' l' r'
      exact q d2 μ2 hR v H' α2 W2 l2 r2
    refine tSs_mono (hbody cdv A outer s H E ds μ R hr hs η α H _ W (start_ok r)) (fun σ H' z => ?_) (fun v H' z => fin v H' z) (fun σ H' ⟨_, _, _, _, _, _, z⟩ => z.elim) (fun σ H' ⟨_, _, _, _, _, _, z⟩ => z.elim)
    obtain ⟨α', μ', ρ', W', l', E', d2, μ2, x, hR⟩ := z
    exact fin .non H' ⟨α', μ', .non, W', l', .non, d2, μ2, x, hR⟩
abbrev s_asTuples : Stmt := topS 2
theorem sc_asTuples : Scp ["thing", "part"] ["thing"] s_asTuples := ⟨rfl, rfl, rfl, by decide +kernel, rfl, by decide +kernel, by decide +kernel⟩
abbrev s_eventsOf : Stmt := topS 12
theorem sc_eventsOf : Scp ["timetable", "word", "place", "event"] ["timetable", "word"] s_eventsOf := ⟨rfl, rfl, rfl, by decide +kernel, rfl, by decide +kernel, by decide +kernel⟩
abbrev s_looks : Stmt := topS 13
theorem sc_looks : Scp ["timetable"] ["timetable"] s_looks := ⟨rfl, rfl, rfl, by decide +kernel, rfl, by decide +kernel, by decide +kernel⟩
abbrev s_adds : Stmt := topS 14
theorem sc_adds : Scp ["timetable"] ["timetable"] s_adds := ⟨rfl, rfl, rfl, by decide +kernel, rfl, by decide +kernel, by decide +kernel⟩
abbrev s_checkLook : Stmt := topS 19
theorem sc_checkLook : Scp ["timetable", "number"] ["timetable", "number"] s_checkLook := ⟨rfl, rfl, rfl, by decide +kernel, rfl, by decide +kernel, by decide +kernel⟩
abbrev s_choices : Stmt := topS 21
theorem sc_choices : Scp ["some", "size", "found", "place", "thing", "rest"] ["some", "size"] s_choices := ⟨rfl, rfl, rfl, by decide +kernel, rfl, by decide +kernel, by decide +kernel⟩
abbrev s_checkPeople : Stmt := topS 30
theorem sc_checkPeople : Scp ["timetable", "people", "person"] ["timetable", "people"] s_checkPeople := ⟨rfl, rfl, rfl, by decide +kernel, rfl, by decide +kernel, by decide +kernel⟩
abbrev s_checkWishes : Stmt := topS 31
theorem sc_checkWishes : Scp ["timetable", "wishes", "look", "person"] ["timetable", "wishes"] s_checkWishes := ⟨rfl, rfl, rfl, by decide +kernel, rfl, by decide +kernel, by decide +kernel⟩
abbrev s_branch : Stmt := topS 32
theorem sc_branch : Scp ["bonds", "number", "look"] ["bonds", "number"] s_branch := ⟨rfl, rfl, rfl, by decide +kernel, rfl, by decide +kernel, by decide +kernel⟩
abbrev s_keptPeople : Stmt := topS 33
theorem sc_keptPeople : Scp ["timetable", "kind", "number", "bonds", "known", "person", "look"] ["timetable", "kind", "number"] s_keptPeople := ⟨rfl, rfl, rfl, by decide +kernel, rfl, by decide +kernel, by decide +kernel⟩
abbrev s_keptFrom : Stmt := topS 34
theorem sc_keptFrom : Scp ["timetable", "kind", "i", "own"] ["timetable", "kind", "i"] s_keptFrom := ⟨rfl, rfl, rfl, by decide +kernel, rfl, by decide +kernel, by decide +kernel⟩
abbrev s_knownAt : Stmt := topS 35
theorem sc_knownAt : Scp ["timetable", "kind", "i", "person", "people", "events", "known", "has", "number", "place", "event", "both", "other", "look"] ["timetable", "kind", "i", "person"] s_knownAt := ⟨rfl, rfl, rfl, by decide +kernel, rfl, by decide +kernel, by decide +kernel⟩
abbrev s_wayOf : Stmt := topS 36
theorem sc_wayOf : Scp ["timetable", "kind", "wishes"] ["timetable", "kind", "wishes"] s_wayOf := ⟨rfl, rfl, rfl, by decide +kernel, rfl, by decide +kernel, by decide +kernel⟩
abbrev s_keepWay : Stmt := topS 37
theorem sc_keepWay : Scp ["timetable", "kind", "i", "people", "own", "person"] ["timetable", "kind", "i", "people"] s_keepWay := ⟨rfl, rfl, rfl, by decide +kernel, rfl, by decide +kernel, by decide +kernel⟩
abbrev s_audiences : Stmt := topS 38
theorem sc_audiences : Scp ["timetable", "kind", "i", "own", "audience", "shown"] ["timetable", "kind", "i"] s_audiences := ⟨rfl, rfl, rfl, by decide +kernel, rfl, by decide +kernel, by decide +kernel⟩
abbrev s_clash : Stmt := topS 39
theorem sc_clash : Scp ["timetable", "kind", "wishes", "own", "some", "ordered", "size", "part"] ["timetable", "kind", "wishes"] s_clash := ⟨rfl, rfl, rfl, by decide +kernel, rfl, by decide +kernel, by decide +kernel⟩
abbrev s_lawTake : Stmt := topS 41
theorem sc_lawTake : Scp ["_law_box_here", "_law_below", "_law_found", "_law_once", "_law_odd"] ["_law_box_here", "_law_below"] s_lawTake := ⟨rfl, rfl, rfl, by decide +kernel, rfl, by decide +kernel, by decide +kernel⟩
abbrev s_lawEvent : Stmt := topS 42
theorem sc_lawEvent : Scp ["_law_box_here", "_law_folk", "_law_words", "_law_p", "_law_way"] ["_law_box_here", "_law_folk", "_law_words"] s_lawEvent := ⟨rfl, rfl, rfl, by decide +kernel, rfl, by decide +kernel, by decide +kernel⟩
abbrev s_lawTable : Stmt := topS 43
theorem sc_lawTable : Scp ["_law_box_here", "_law_folk", "_law_laps", "_law_words", "_law_most", "_law_found", "_law_count", "_law_lap", "_law_deed", "_law_both"] ["_law_box_here", "_law_folk", "_law_laps", "_law_words", "_law_most"] s_lawTable := ⟨rfl, rfl, rfl, by decide +kernel, rfl, by decide +kernel, by decide +kernel⟩
abbrev s_lawLive : Stmt := topS 44
theorem sc_lawLive : Scp ["_law_box_here", "_law_folk", "_law_laps", "_law_most", "_law_table_here", "_law_deed"] ["_law_box_here", "_law_folk", "_law_laps", "_law_most"] s_lawLive := ⟨rfl, rfl, rfl, by decide +kernel, rfl, by decide +kernel, by decide +kernel⟩
abbrev s_lawCrossed : Stmt := topS 45
theorem sc_lawCrossed : Scp ["_law_some", "_law_more", "_law_found", "_law_one", "_law_two"] ["_law_some", "_law_more"] s_lawCrossed := ⟨rfl, rfl, rfl, by decide +kernel, rfl, by decide +kernel, by decide +kernel⟩
abbrev s_lawPassed : Stmt := topS 46
theorem sc_lawPassed : Scp ["_law_has", "_law_deed", "_law_sort_so", "_law_mine", "_law_its", "_law_both"] ["_law_has", "_law_deed", "_law_sort_so"] s_lawPassed := ⟨rfl, rfl, rfl, by decide +kernel, rfl, by decide +kernel, by decide +kernel⟩
abbrev s_lawClosed : Stmt := topS 47
theorem sc_lawClosed : Scp ["_law_web_here", "_law_near", "_law_low", "_law_size", "_law_one", "_law_two", "_law_far", "_law_begin", "_law_end", "_law_spot", "_law_p"] ["_law_web_here"] s_lawClosed := ⟨rfl, rfl, rfl, by decide +kernel, rfl, by decide +kernel, by decide +kernel⟩
abbrev s_lawWeb : Stmt := topS 48
theorem sc_lawWeb : Scp ["_law_table_here", "_law_sort_so", "_law_web_here", "_law_spots", "_law_own", "_law_has", "_law_low", "_law_spot", "_law_deed", "_law_p", "_law_one", "_law_pair"] ["_law_table_here", "_law_sort_so"] s_lawWeb := ⟨rfl, rfl, rfl, by decide +kernel, rfl, by decide +kernel, by decide +kernel⟩
abbrev s_lawOf : Stmt := topS 49
theorem sc_lawOf : Scp ["_law_box_here", "_law_some"] ["_law_box_here", "_law_some"] s_lawOf := ⟨rfl, rfl, rfl, by decide +kernel, rfl, by decide +kernel, by decide +kernel⟩
abbrev s_lawDrawWants : Stmt := topS 50
theorem sc_lawDrawWants : Scp ["_law_box_here", "_law_web_here", "_law_many", "_law_some", "_law_lap"] ["_law_box_here", "_law_web_here", "_law_many"] s_lawDrawWants := ⟨rfl, rfl, rfl, by decide +kernel, rfl, by decide +kernel, by decide +kernel⟩
abbrev s_lawSame : Stmt := topS 51
theorem sc_lawSame : Scp ["_law_found", "_law_due", "_law_mine", "_law_its"] ["_law_found", "_law_due"] s_lawSame := ⟨rfl, rfl, rfl, by decide +kernel, rfl, by decide +kernel, by decide +kernel⟩
abbrev s_lawBox : Stmt := topS 52
theorem sc_lawBox : Scp ["_law_script", "_law_lap", "_law_cell", "_law_seed"] ["_law_script", "_law_lap"] s_lawBox := ⟨rfl, rfl, rfl, by decide +kernel, rfl, by decide +kernel, by decide +kernel⟩
abbrev s_lawMoved : Stmt := topS 53
theorem sc_lawMoved : Scp ["_law_deed", "_law_names", "_law_p"] ["_law_deed", "_law_names"] s_lawMoved := ⟨rfl, rfl, rfl, by decide +kernel, rfl, by decide +kernel, by decide +kernel⟩
abbrev s_lawAllTold : Stmt := topS 54
theorem sc_lawAllTold : Scp ["_law_table_here", "_law_sort_so", "_law_i", "_law_names", "_law_wants_so", "_law_mine", "_law_told", "_law_want", "_law_p"] ["_law_table_here", "_law_sort_so", "_law_i", "_law_names", "_law_wants_so"] s_lawAllTold := ⟨rfl, rfl, rfl, by decide +kernel, rfl, by decide +kernel, by decide +kernel⟩
abbrev s_lawRenamed : Stmt := topS 55
theorem sc_lawRenamed : Scp ["_law_told", "_law_names", "_law_idle", "_law_many", "_law_crowds", "_law_folk", "_law_p"] ["_law_told", "_law_names", "_law_idle"] s_lawRenamed := ⟨rfl, rfl, rfl, by decide +kernel, rfl, by decide +kernel, by decide +kernel⟩
abbrev s_lawMixed : Stmt := topS 56
theorem sc_lawMixed : Scp ["_law_box_here", "_law_one", "_law_two", "_law_left_so", "_law_more", "_law_found", "_law_turns", "_law_names", "_law_is_first", "_law_deed", "_law_places", "_law_p", "_law_k"] ["_law_box_here", "_law_one", "_law_two"] s_lawMixed := ⟨rfl, rfl, rfl, by decide +kernel, rfl, by decide +kernel, by decide +kernel⟩
abbrev s_lawRight : Stmt := topS 57
theorem sc_lawRight : Scp ["_law_box_here", "_law_sort_so", "_law_table_here", "_law_web_here", "_law_folk", "_law_left_so", "_law_names", "_law_wants_so", "_law_plain", "_law_other", "_law_i", "_law_due", "_law_told", "_law_both", "_law_places", "_law_is_few", "_law_k", "_law_p", "_law_deed"] ["_law_box_here"] s_lawRight := ⟨rfl, rfl, rfl, by decide +kernel, rfl, by decide +kernel, by decide +kernel⟩
abbrev s_bInit : Stmt := inClass (topS 18) 0
theorem sc_bInit : Scp ["self", "timetable", "kind", "gone", "more", "one", "other", "person"] ["self", "timetable", "kind", "gone", "more"] s_bInit := ⟨rfl, rfl, rfl, by decide +kernel, rfl, by decide +kernel, by decide +kernel⟩
abbrev s_bMany : Stmt := inClass (topS 18) 1
theorem sc_bMany : Scp ["self"] ["self"] s_bMany := ⟨rfl, rfl, rfl, by decide +kernel, rfl, by decide +kernel, by decide +kernel⟩
abbrev s_bIsAlike : Stmt := inClass (topS 18) 2
theorem sc_bIsAlike : Scp ["self", "one", "other"] ["self", "one", "other"] s_bIsAlike := ⟨rfl, rfl, rfl, by decide +kernel, rfl, by decide +kernel, by decide +kernel⟩
abbrev s_bIsBelow : Stmt := inClass (topS 18) 3
theorem sc_bIsBelow : Scp ["self", "one", "other"] ["self", "one", "other"] s_bIsBelow := ⟨rfl, rfl, rfl, by decide +kernel, rfl, by decide +kernel, by decide +kernel⟩
abbrev s_bHas : Stmt := inClass (topS 18) 4
theorem sc_bHas : Scp ["self", "person"] ["self", "person"] s_bHas := ⟨rfl, rfl, rfl, by decide +kernel, rfl, by decide +kernel, by decide +kernel⟩
abbrev s_bBind : Stmt := inClass (topS 18) 6
theorem sc_bBind : Scp ["self", "one", "other", "source"] ["self", "one", "other", "source"] s_bBind := ⟨rfl, rfl, rfl, by decide +kernel, rfl, by decide +kernel, by decide +kernel⟩
abbrev s_bLower : Stmt := inClass (topS 18) 7
theorem sc_bLower : Scp ["self", "one", "other", "source"] ["self", "one", "other", "source"] s_bLower := ⟨rfl, rfl, rfl, by decide +kernel, rfl, by decide +kernel, by decide +kernel⟩
abbrev s_bGoThrough : Stmt := inClass (topS 18) 8
theorem sc_bGoThrough : Scp ["self", "number", "place", "event"] ["self"] s_bGoThrough := ⟨rfl, rfl, rfl, by decide +kernel, rfl, by decide +kernel, by decide +kernel⟩
abbrev s_bLooked : Stmt := inClass (topS 18) 9
theorem sc_bLooked : Scp ["self", "person", "number", "other"] ["self", "person", "number"] s_bLooked := ⟨rfl, rfl, rfl, by decide +kernel, rfl, by decide +kernel, by decide +kernel⟩
abbrev s_bCompared : Stmt := inClass (topS 18) 10
theorem sc_bCompared : Scp ["self", "event", "word", "person", "other", "mine", "its", "one", "two", "both", "place"] ["self", "event"] s_bCompared := ⟨rfl, rfl, rfl, by decide +kernel, rfl, by decide +kernel, by decide +kernel⟩
abbrev s_bIsLate : Stmt := inClass (topS 18) 11
theorem sc_bIsLate : Scp ["self", "one", "other", "begin", "end", "person", "place", "adder"] ["self", "one", "other"] s_bIsLate := ⟨rfl, rfl, rfl, by decide +kernel, rfl, by decide +kernel, by decide +kernel⟩
abbrev s_bClose : Stmt := inClass (topS 18) 12
theorem sc_bClose : Scp ["self", "goes_on", "one", "other"] ["self"] s_bClose := ⟨rfl, rfl, rfl, by decide +kernel, rfl, by decide +kernel, by decide +kernel⟩
abbrev s_bRules : Stmt := inClass (topS 18) 13
theorem sc_bRules : Scp ["self", "one", "other", "found", "third"] ["self", "one", "other"] s_bRules := ⟨rfl, rfl, rfl, by decide +kernel, rfl, by decide +kernel, by decide +kernel⟩
abbrev s_bNewest : Stmt := inClass (topS 18) 14
theorem sc_bNewest : Scp ["self", "number", "found", "other", "end", "person", "own", "entry", "place", "adder"] ["self", "number"] s_bNewest := ⟨rfl, rfl, rfl, by decide +kernel, rfl, by decide +kernel, by decide +kernel⟩
abbrev s_bBefore : Stmt := inClass (topS 18) 15
theorem sc_bBefore : Scp ["self", "number", "place", "adder"] ["self", "number"] s_bBefore := ⟨rfl, rfl, rfl, by decide +kernel, rfl, by decide +kernel, by decide +kernel⟩
abbrev s_pInit : Stmt := inClass (topS 23) 0
theorem sc_pInit : Scp ["self", "timetable", "kind", "pairs", "alike", "one", "other"] ["self", "timetable", "kind", "pairs", "alike"] s_pInit := ⟨rfl, rfl, rfl, by decide +kernel, rfl, by decide +kernel, by decide +kernel⟩
abbrev s_pEverything : Stmt := inClass (topS 23) 1
theorem sc_pEverything : Scp ["self"] ["self"] s_pEverything := ⟨rfl, rfl, rfl, by decide +kernel, rfl, by decide +kernel, by decide +kernel⟩
abbrev s_pLastAdd : Stmt := inClass (topS 23) 2
theorem sc_pLastAdd : Scp ["self", "look", "end", "person", "place", "adder"] ["self", "look"] s_pLastAdd := ⟨rfl, rfl, rfl, by decide +kernel, rfl, by decide +kernel, by decide +kernel⟩
abbrev s_pStops : Stmt := inClass (topS 23) 3
theorem sc_pStops : Scp ["self", "look", "other"] ["self", "look", "other"] s_pStops := ⟨rfl, rfl, rfl, by decide +kernel, rfl, by decide +kernel, by decide +kernel⟩
abbrev s_pIsFirst : Stmt := inClass (topS 23) 4
theorem sc_pIsFirst : Scp ["self", "look", "part", "other"] ["self", "look", "part"] s_pIsFirst := ⟨rfl, rfl, rfl, by decide +kernel, rfl, by decide +kernel, by decide +kernel⟩
abbrev s_pParts : Stmt := inClass (topS 23) 5
theorem sc_pParts : Scp ["self", "some", "left", "found", "part", "queue", "look", "more", "other"] ["self", "some"] s_pParts := ⟨rfl, rfl, rfl, by decide +kernel, rfl, by decide +kernel, by decide +kernel⟩
abbrev s_pFirsts : Stmt := inClass (topS 23) 6
theorem sc_pFirsts : Scp ["self", "part", "look"] ["self", "part"] s_pFirsts := ⟨rfl, rfl, rfl, by decide +kernel, rfl, by decide +kernel, by decide +kernel⟩
abbrev s_pStuck : Stmt := inClass (topS 23) 7
theorem sc_pStuck : Scp ["self", "some", "part", "found", "rest", "look"] ["self", "some"] s_pStuck := ⟨rfl, rfl, rfl, by decide +kernel, rfl, by decide +kernel, by decide +kernel⟩
abbrev s_kInit : Stmt := inClass (topS 28) 0
abbrev s_kStops : Stmt := inClass (topS 28) 1
abbrev s_kIsFine : Stmt := inClass (topS 28) 2
theorem sc_kIsFine : Scp ["self", "look"] ["self"] s_kIsFine := ⟨rfl, rfl, rfl, by decide +kernel, rfl, by decide +kernel, by decide +kernel⟩
abbrev s_aInit : Stmt := inClass (topS 29) 0
theorem sc_aInit : Scp ["self", "timetable", "kind", "mark", "number"] ["self", "timetable", "kind", "mark"] s_aInit := ⟨rfl, rfl, rfl, by decide +kernel, rfl, by decide +kernel, by decide +kernel⟩
abbrev s_aNumbers : Stmt := inClass (topS 29) 1
theorem sc_aNumbers : Scp ["self"] ["self"] s_aNumbers := ⟨rfl, rfl, rfl, by decide +kernel, rfl, by decide +kernel, by decide +kernel⟩
abbrev s_aSets : Stmt := inClass (topS 29) 2
theorem sc_aSets : Scp ["self", "found", "number", "shown"] ["self"] s_aSets := ⟨rfl, rfl, rfl, by decide +kernel, rfl, by decide +kernel, by decide +kernel⟩
abbrev s_aIsPossible : Stmt := inClass (topS 29) 3
theorem sc_aIsPossible : Scp ["self", "shown", "rest", "number", "look"] ["self", "shown"] s_aIsPossible := ⟨rfl, rfl, rfl, by decide +kernel, rfl, by decide +kernel, by decide +kernel⟩
abbrev s_aPartOf : Stmt := inClass (topS 29) 4
theorem sc_aPartOf : Scp ["self", "look", "shown", "found", "at", "other"] ["self", "look", "shown"] s_aPartOf := ⟨rfl, rfl, rfl, by decide +kernel, rfl, by decide +kernel, by decide +kernel⟩
abbrev s_aCut : Stmt := inClass (topS 29) 5
theorem sc_aCut : Scp ["self", "look", "shown", "part", "found", "number", "one"] ["self", "look", "shown"] s_aCut := ⟨rfl, rfl, rfl, by decide +kernel, rfl, by decide +kernel, by decide +kernel⟩
abbrev s_aPeople : Stmt := inClass (topS 29) 6
theorem sc_aPeople : Scp ["self", "shown", "everybody", "person", "look"] ["self", "shown"] s_aPeople := ⟨rfl, rfl, rfl, by decide +kernel, rfl, by decide +kernel, by decide +kernel⟩
structure Facts (K : PySem.W.Frag) (mg : Str → Option Value) where
  asTuples : DefF K mg "as_tuples" "as_tuples" s_asTuples ["thing"]
  eventsOf : DefF K mg "events_of" "events_of" s_eventsOf ["timetable", "word"]
  looks : DefF K mg "looks" "looks" s_looks ["timetable"]
  adds : DefF K mg "adds" "adds" s_adds ["timetable"]
  checkLook : DefF K mg "check_look" "check_look" s_checkLook ["timetable", "number"]
  choices : DefF K mg "choices" "choices" s_choices ["some", "size"]
  checkPeople : DefF K mg "check_people" "check_people" s_checkPeople ["timetable", "people"]
  checkWishes : DefF K mg "check_wishes" "check_wishes" s_checkWishes ["timetable", "wishes"]
  branch : DefF K mg "branch" "branch" s_branch ["bonds", "number"]
  keptPeople : DefF K mg "kept_people" "kept_people" s_keptPeople ["timetable", "kind", "number"]
  keptFrom : DefF K mg "kept_from" "kept_from" s_keptFrom ["timetable", "kind", "i"]
  knownAt : DefF K mg "known_at" "known_at" s_knownAt ["timetable", "kind", "i", "person"]
  wayOf : DefF K mg "way_of" "way_of" s_wayOf ["timetable", "kind", "wishes"]
  keepWay : DefF K mg "keep_way" "keep_way" s_keepWay ["timetable", "kind", "i", "people"]
  audiences : DefF K mg "audiences" "audiences" s_audiences ["timetable", "kind", "i"]
  clash : DefF K mg "clash" "clash" s_clash ["timetable", "kind", "wishes"]
  lawTake : DefF K mg "_law_take" "_law_take" s_lawTake ["_law_box_here", "_law_below"]
  lawEvent : DefF K mg "_law_event" "_law_event" s_lawEvent ["_law_box_here", "_law_folk", "_law_words"]
  lawTable : DefF K mg "_law_table" "_law_table" s_lawTable ["_law_box_here", "_law_folk", "_law_laps", "_law_words", "_law_most"]
  lawLive : DefF K mg "_law_live" "_law_live" s_lawLive ["_law_box_here", "_law_folk", "_law_laps", "_law_most"]
  lawCrossed : DefF K mg "_law_crossed" "_law_crossed" s_lawCrossed ["_law_some", "_law_more"]
  lawPassed : DefF K mg "_law_passed" "_law_passed" s_lawPassed ["_law_has", "_law_deed", "_law_sort_so"]
  lawClosed : DefF K mg "_law_closed" "_law_closed" s_lawClosed ["_law_web_here"]
  lawWeb : DefF K mg "_law_web" "_law_web" s_lawWeb ["_law_table_here", "_law_sort_so"]
  lawOf : DefF K mg "_law_of" "_law_of" s_lawOf ["_law_box_here", "_law_some"]
  lawDrawWants : DefF K mg "_law_draw_wants" "_law_draw_wants" s_lawDrawWants ["_law_box_here", "_law_web_here", "_law_many"]
  lawSame : DefF K mg "_law_same" "_law_same" s_lawSame ["_law_found", "_law_due"]
  lawBox : DefF K mg "_law_box" "_law_box" s_lawBox ["_law_script", "_law_lap"]
  lawMoved : DefF K mg "_law_moved" "_law_moved" s_lawMoved ["_law_deed", "_law_names"]
  lawAllTold : DefF K mg "_law_all_told" "_law_all_told" s_lawAllTold ["_law_table_here", "_law_sort_so", "_law_i", "_law_names", "_law_wants_so"]
  lawRenamed : DefF K mg "_law_renamed" "_law_renamed" s_lawRenamed ["_law_told", "_law_names", "_law_idle"]
  lawMixed : DefF K mg "_law_mixed" "_law_mixed" s_lawMixed ["_law_box_here", "_law_one", "_law_two"]
  lawRight : DefF K mg "_law_right" "_law_right" s_lawRight ["_law_box_here"]
  CBonds : Addr
  clsBonds : Cls K CBonds
  mBonds : mg "Bonds" = some (.ref CBonds)
  CKeeping : Addr
  clsKeeping : Cls K CKeeping
  mKeeping : mg "Keeping" = some (.ref CKeeping)
  CAudience : Addr
  clsAudience : Cls K CAudience
  mAudience : mg "Audience" = some (.ref CAudience)
  naB_own_people : NoAttr K CBonds "own_people"
  naB_own_events : NoAttr K CBonds "own_events"
  naB_own_kind : NoAttr K CBonds "own_kind"
  naB_own_gone : NoAttr K CBonds "own_gone"
  naB_own_looks : NoAttr K CBonds "own_looks"
  naB_own_adds : NoAttr K CBonds "own_adds"
  naB_own_alike : NoAttr K CBonds "own_alike"
  naB_own_below : NoAttr K CBonds "own_below"
  naB_own_has : NoAttr K CBonds "own_has"
  naB_own_facts : NoAttr K CBonds "own_facts"
  naK_own_looks : NoAttr K CKeeping "own_looks"
  naK_own_adds : NoAttr K CKeeping "own_adds"
  naK_own_bonds : NoAttr K CKeeping "own_bonds"
  naK_own_unlike : NoAttr K CKeeping "own_unlike"
  naK_own_barred : NoAttr K CKeeping "own_barred"
  naA_own_bonds : NoAttr K CAudience "own_bonds"
  naA_own_people : NoAttr K CAudience "own_people"
  naA_own_mark : NoAttr K CAudience "own_mark"
  naA_own_newest : NoAttr K CAudience "own_newest"
  naA_own_before : NoAttr K CAudience "own_before"
  bInit : MkD K CBonds "Bonds.__init__" s_bInit ["self", "timetable", "kind", "gone", "more"] 2
  bMany : MetF K CBonds "many" "Bonds.many" s_bMany ["self"]
  bIsAlike : MetF K CBonds "is_alike" "Bonds.is_alike" s_bIsAlike ["self", "one", "other"]
  bIsBelow : MetF K CBonds "is_below" "Bonds.is_below" s_bIsBelow ["self", "one", "other"]
  bHas : MetF K CBonds "has" "Bonds.has" s_bHas ["self", "person"]
  bBind : MetD K CBonds "bind" "Bonds.bind" s_bBind ["self", "one", "other", "source"] 1
  bLower : MetD K CBonds "lower" "Bonds.lower" s_bLower ["self", "one", "other", "source"] 1
  bGoThrough : MetF K CBonds "go_through" "Bonds.go_through" s_bGoThrough ["self"]
  bLooked : MetF K CBonds "looked" "Bonds.looked" s_bLooked ["self", "person", "number"]
  bCompared : MetF K CBonds "compared" "Bonds.compared" s_bCompared ["self", "event"]
  bIsLate : MetF K CBonds "is_late" "Bonds.is_late" s_bIsLate ["self", "one", "other"]
  bClose : MetF K CBonds "close" "Bonds.close" s_bClose ["self"]
  bRules : MetF K CBonds "rules" "Bonds.rules" s_bRules ["self", "one", "other"]
  bNewest : MetF K CBonds "newest" "Bonds.newest" s_bNewest ["self", "number"]
  bBefore : MetF K CBonds "before" "Bonds.before" s_bBefore ["self", "number"]
  pEverything : MetF K CKeeping "everything" "Peeling.everything" s_pEverything ["self"]
  pLastAdd : MetF K CKeeping "last_add" "Peeling.last_add" s_pLastAdd ["self", "look"]
  pIsFirst : MetF K CKeeping "is_first" "Peeling.is_first" s_pIsFirst ["self", "look", "part"]
  pParts : MetF K CKeeping "parts" "Peeling.parts" s_pParts ["self", "some"]
  pFirsts : MetF K CKeeping "firsts" "Peeling.firsts" s_pFirsts ["self", "part"]
  pStuck : MetF K CKeeping "stuck" "Peeling.stuck" s_pStuck ["self", "some"]
  kIsFine : MetF K CKeeping "is_fine" "Keeping.is_fine" s_kIsFine ["self"]
  aInit : MkF K CAudience "Audience.__init__" s_aInit ["self", "timetable", "kind", "mark"]
  aNumbers : MetF K CAudience "numbers" "Audience.numbers" s_aNumbers ["self"]
  aSets : MetF K CAudience "sets" "Audience.sets" s_aSets ["self"]
  aIsPossible : MetF K CAudience "is_possible" "Audience.is_possible" s_aIsPossible ["self", "shown"]
  aPartOf : MetF K CAudience "part_of" "Audience.part_of" s_aPartOf ["self", "look", "shown"]
  aCut : MetF K CAudience "cut" "Audience.cut" s_aCut ["self", "look", "shown"]
  aPeople : MetF K CAudience "people" "Audience.people" s_aPeople ["self", "shown"]
  n_isinstance : mg "isinstance" = none
  n_enumerate : mg "enumerate" = none
  n_range : mg "range" = none
  n_len : mg "len" = none
  n_any : mg "any" = none
  n_all : mg "all" = none
  n_list : mg "list" = none
  n_tuple : mg "tuple" = none
  n_sorted : mg "sorted" = none
  n_set : mg "set" = none
  n_max : mg "max" = none
  n_min : mg "min" = none
  n_int : mg "int" = none
  n_abs : mg "abs" = none
  n_dict : mg "dict" = none
  n_zip : mg "zip" = none
  n_bool : mg "bool" = none
  n_str : mg "str" = none
  g_LOOK : ∃ t, mg "LOOK" = some (.str "look" t)
  g_ADD : ∃ t, mg "ADD" = some (.str "add" t)
  g_MEET : ∃ t, mg "MEET" = some (.str "meet" t)
  g_TELL : ∃ t, mg "TELL" = some (.str "tell" t)
  g_LONG : ∃ t, mg "LONG" = some (.str "long" t)
  g_ALIKE : ∃ t, mg "ALIKE" = some (.str "alike" t)
  g_BEGINS : ∃ t, mg "BEGINS" = some (.str "begins" t)
  g_NO : ∃ t, mg "NO" = some (.str "no" t)
  g_DELAY : ∃ t, mg "DELAY" = some (.str "delay" t)
  g_FORK : ∃ t, mg "FORK" = some (.str "fork" t)
end HF

/-! ## A12 -/
namespace HF
open PySem PySem.Spec PyProof.Rows L2
/-! ### isinstance -/
def D.tyn : D → Option String
  | .non => some "NoneType"
  | .bl _ => some "bool"
  | .int _ => some "int"
  | .str _ => some "str"
  | .lst _ => some "list"
  | .scr _ => some "list"
  | .tup _ => some "tuple"
  | _ => none
theorem Rep.tyX {K : PySem.W.Frag} {α η : List Addr} {H : Hp} {v : V} {d : D} {n : String} (r : Rep K α (msk α η H) v d) (h : d.tyn = some n) : TyX K H v (.type n) := by
  cases r with
  | non => cases h; exact .base .non
  | bl => cases h; exact .base (.bl _)
  | int => cases h; exact .base (.int _)
  | str => cases h; exact .base (.str _)
  | lst e _ => cases h; exact .base (.lst (msk_some.mp e).2.2)
  | scr e _ =>
    cases h
    rcases SqL.unmsk e with (e | ⟨o, e⟩) | ⟨o, _, _, e, c, _⟩
    · exact .base (.lst e)
    · exact .base (.frz e)
    · exact .kList e c
  | tup e _ =>
    cases h
    rcases SqT.unmsk e with (e | ⟨o, e⟩) | ⟨o, _, _, e, c, _⟩
    · exact .base (.tup e)
    · exact .fTuple e
    · exact .kTuple e c
  | pr _ => cases h
  | ty => cases h
  | kt _ => cases h
def rIsiD (K : PySem.W.Frag) : List V → Hp → VK → Prop := fun xs H Q => ∃ (x : V) (tp : Addr) (cs : List V) (t : Value) (us : List Value) (b : Bool), xs = [x, .ref tp] ∧ SqT K H tp cs ∧ Paired ClsV cs us ∧ TyX K H x t ∧ PySem.W.kitAny K t us = some b ∧ Q (.bl b) H
theorem call_isiD {X : Cx} : CallR X (.builtin "isinstance") (rIsiD X.K) := by
  intro pins s σ H xs us Q I r h
  obtain ⟨x, tp, cs, t, ws, b, rfl, hT, k, ty, e, q⟩ := h
  obtain ⟨u1, u2, rfl, r1, r2⟩ := vals2 r
  cases (show u2 = Value.ref tp from r2)
  obtain ⟨P, Z, p, hx⟩ := kit_of I r1 ty
  rcases hT with (hT | ⟨o, hT⟩) | ⟨o, its, n, hk, h2, h3, _, rv⟩
  · obtain ⟨_, its, rv, o, h1, h2, n, h3⟩ := (show ObjOk X.prog X.w H s.heap tp (.tup cs) from I.hok tp _ hT)
    have e3 := ClsV.all k rv
    subst e3
    obtain ⟨oc, od, dt, sl⟩ := o
    simp only at h2 h3
    subst h2 h3
    exact PySem.W.kia_tup Z I.kIn p h1 e hx fun tk => ⟨.bl b, H, I.tok tk, rfl, q⟩
  · obtain ⟨_, _, its, rv, o, h1, h2, n, h3⟩ := (show ObjOk X.prog X.w H s.heap tp (.frz o (.tup cs)) from I.hok tp _ hT)
    have e3 := ClsV.all k rv
    subst e3
    obtain ⟨oc, od, dt, sl⟩ := o
    simp only at h2 h3
    subst h2 h3
    exact PySem.W.kia_tup Z I.kIn p h1 e hx fun tk => ⟨.bl b, H, I.tok tk, rfl, q⟩
  · have e3 := ClsV.all k rv
    obtain ⟨oc, od, dt, sl⟩ := o
    simp only at h2 h3
    subst h2 h3
    have h1 := I.kIn _ _ hk
    rw [show its = its.toList.toArray by simp, e3] at h1
    exact PySem.W.kia_tup Z I.kIn p h1 e hx fun tk => ⟨.bl b, H, I.tok tk, rfl, q⟩
section
variable {X : Cx} {e a b c o : Expr} {es : List Expr} {ρ : AEnv} {μ : Sto} {Q : DK} {pos p : Pos} {x y z d : D} {xs ys : List D}
/-- a type's name as a value -/
theorem ev_ty {x : Str} {T : String} (hm : X.mg x = none) (hv : bootBuiltins x = some (.type T)) (hg : Gl X x := by rfl) (hn : x ≠ "__name__" := by decide) (hd : (x == ("__debug__" : Str)) = false := by decide) : EV X (.Name x pos) ρ μ (.ty T) := fun η α H σ W R =>
  tE_of (pe_bltn hg hm hv (v := .ty T) rfl hn hd) (fin_le W Le.refl .ty ⟨rfl, rfl⟩)
def kitsB (a : String) : List String → Option Bool
  | [] => some false
  | b :: bs => match kitB a b with
    | some true => some true
    | some false => kitsB a bs
    | none => none
theorem kits_ty {K : PySem.W.Frag} {a : String} : ∀ {bs : List String} {r : Bool}, kitsB a bs = some r → PySem.W.kitAny K (.type a) (bs.map Value.type) = some r
  | [], r, h => by cases h; rfl
  | b :: bs, r, h => by
    unfold kitsB at h
    cases e : kitB a b with
    | none => rw [e] at h; cases h
    | some k =>
      rw [e] at h
      cases k with
      | true => cases h; exact kitAny_cons (kit_ty e) (fun z => by cases z) fun _ => rfl
      | false => exact kitAny_cons (kit_ty e) (fun _ => kits_ty h) fun z => by cases z
theorem Reps.tys {K : PySem.W.Frag} {α : List Addr} {G : Hp} : ∀ {vs : List V} {ns : List String}, Reps K α G vs (ns.map D.ty) → Paired ClsV vs (ns.map Value.type)
  | _, [], .nil => .nil
  | _, n :: ns, .cons r t => by
    cases r with
    | ty => exact .cons (.ty n) (Reps.tys t)
theorem acall_isi {n T : String} {k : Bool} (hx : x.tyn = some n) (hk : kitB n T = some k) (q : Q (.bl k) μ) : ACall X (.builtin "isinstance") [x, .ty T] μ Q := fun η α H vs W r => by
  cases r with
  | cons r1 t =>
    cases t with
    | cons r2 t =>
      cases t
      cases r2
      exact xCall_of call_isi ⟨_, _, _, _, k, rfl, .ty T, r1.tyX hx, kit_ty hk, fin0 W .bl q⟩
theorem acall_isiD {n : String} {ns : List String} {k : Bool} (hx : x.tyn = some n) (hk : kitsB n ns = some k) (q : Q (.bl k) μ) : ACall X (.builtin "isinstance") [x, .tup (ns.map D.ty)] μ Q := fun η α H vs W r => by
  cases r with
  | cons r1 t =>
    cases t with
    | cons r2 t =>
      cases t
      cases r2 with
      | tup e rr => exact xCall_of call_isiD ⟨_, _, _, _, _, k, rfl, SqT.unmsk e, rr.tys, r1.tyX hx, kits_ty hk, fin0 W .bl q⟩
end
def D.isSeq : D → Bool
  | .lst _ => true
  | .scr _ => true
  | .tup _ => true
  | _ => false
def D.isBS : D → Bool
  | .bl _ => true
  | .str _ => true
  | _ => false
def D.isL : D → Bool
  | .lst _ => true
  | .scr _ => true
  | _ => false
def D.isT : D → Bool
  | .tup _ => true
  | _ => false
def D.isB : D → Bool
  | .bl _ => true
  | _ => false
def D.isI : D → Bool
  | .bl _ => true
  | .int _ => true
  | _ => false
theorem D.tyn_seq {d : D} {n : String} (h : d.tyn = some n) : kitsB n ["list", "tuple"] = some d.isSeq := by cases d <;> cases h <;> kernel_rfl
theorem D.tyn_bs {d : D} {n : String} (h : d.tyn = some n) : kitsB n ["bool", "str"] = some d.isBS := by cases d <;> cases h <;> kernel_rfl
theorem D.tyn_list {d : D} {n : String} (h : d.tyn = some n) : kitB n "list" = some d.isL := by cases d <;> cases h <;> kernel_rfl
theorem D.tyn_tuple {d : D} {n : String} (h : d.tyn = some n) : kitB n "tuple" = some d.isT := by cases d <;> cases h <;> kernel_rfl
theorem D.tyn_bool {d : D} {n : String} (h : d.tyn = some n) : kitB n "bool" = some d.isB := by cases d <;> cases h <;> kernel_rfl
theorem D.tyn_int {d : D} {n : String} (h : d.tyn = some n) : kitB n "int" = some d.isI := by cases d <;> cases h <;> kernel_rfl
end HF

/-! ## A13 -/
namespace HF
open PySem PySem.Spec PyProof.Rows L2
/-! ### naturals -/
abbrev nD (i : Nat) : D := .int (i : Int)
abbrev pD (p : Nat × Nat) : D := .tup [nD p.1, nD p.2]
theorem decN {i j : Nat} : decide ((i : Int) = (j : Int)) = decide (i = j) := by
  by_cases h : i = j
  · subst h; simp
  · simp [h, Int.natCast_inj]
theorem decNlt {i j : Nat} : decide ((i : Int) < (j : Int)) = decide (i < j) := by
  by_cases h : i < j
  · simp [h]
  · simp [h]
theorem decNmem {i : Nat} {l : List Nat} : decide ((i : Int) ∈ l.map fun x : Nat => (x : Int)) = decide (i ∈ l) := by
  by_cases h : i ∈ l
  · rw [decide_eq_true h, decide_eq_true]
    exact List.mem_map.mpr ⟨i, h, rfl⟩
  · rw [decide_eq_false h, decide_eq_false]
    intro z
    obtain ⟨j, hj, e⟩ := List.mem_map.mp z
    exact h (by rw [← Int.ofNat_inj.mp e]; exact hj)
theorem nD_map (l : List Nat) : l.map nD = (l.map fun x : Nat => (x : Int)).map D.int := by rw [List.map_map]; rfl
theorem rangeD_nD (n : Nat) : rangeD n = (List.range n).map nD := rfl
section
variable {X : Cx} {e a b c o : Expr} {es : List Expr} {ρ : AEnv} {μ : Sto} {Q : DK} {pos p : Pos} {x y z d : D} {xs ys : List D} {i j : Nat} {l : List Nat}
theorem ev_eqN (ha : EV X a ρ μ (nD i)) (hb : EV X b ρ μ (nD j)) : EV X (.Compare a [.Eq] [b] pos) ρ μ (.bl (decide (i = j))) := ev_cast (ev_eqI ha hb) (congrArg D.bl decN)
theorem ev_neN (ha : EV X a ρ μ (nD i)) (hb : EV X b ρ μ (nD j)) : EV X (.Compare a [.NotEq] [b] pos) ρ μ (.bl (!decide (i = j))) := ev_cast (ev_neI ha hb) (congrArg (fun k => D.bl (!k)) decN)
theorem ev_ltN (ha : EV X a ρ μ (nD i)) (hb : EV X b ρ μ (nD j)) : EV X (.Compare a [.Lt] [b] pos) ρ μ (.bl (decide (i < j))) := ev_cast (ev_lt ha hb) (congrArg D.bl decNlt)
theorem ev_addN {j : Nat} (ha : EV X a ρ μ (nD i)) (hb : EV X b ρ μ (nD j)) : EV X (.BinOp a .Add b pos) ρ μ (nD (i + j)) := ev_add ha hb
theorem tv_eqN (ha : EV X a ρ μ (nD i)) (hb : EV X b ρ μ (nD j)) : EVT X (.Compare a [.Eq] [b] pos) ρ μ (decide (i = j)) := tv_cast (tv_eqI ha hb) decN
theorem tv_neN (ha : EV X a ρ μ (nD i)) (hb : EV X b ρ μ (nD j)) : EVT X (.Compare a [.NotEq] [b] pos) ρ μ (!decide (i = j)) := tv_cast (tv_neI ha hb) (congrArg (fun k => !k) decN)
theorem tv_ltN (ha : EV X a ρ μ (nD i)) (hb : EV X b ρ μ (nD j)) : EVT X (.Compare a [.Lt] [b] pos) ρ μ (decide (i < j)) := tv_cast (tv_lt ha hb) decNlt
theorem tv_gtN (ha : EV X a ρ μ (nD i)) (hb : EV X b ρ μ (nD j)) : EVT X (.Compare a [.Gt] [b] pos) ρ μ (decide (j < i)) := tv_cast (tv_gt ha hb) decNlt
theorem ev_inN (ha : EV X a ρ μ (nD i)) (hb : EV X b ρ μ y) (hy : IsS μ y (l.map nD)) (hm : behindInMarks .In b = false := by rfl) : EV X (.Compare a [.In] [b] pos) ρ μ (.bl (decide (i ∈ l))) := ev_cast (ev_inI ha hb (by rw [← nD_map]; exact hy) hm) (congrArg D.bl decNmem)
theorem ev_notInN (ha : EV X a ρ μ (nD i)) (hb : EV X b ρ μ y) (hy : IsS μ y (l.map nD)) (hm : behindInMarks .NotIn b = false := by rfl) : EV X (.Compare a [.NotIn] [b] pos) ρ μ (.bl (!decide (i ∈ l))) := ev_cast (ev_notInI ha hb (by rw [← nD_map]; exact hy) hm) (congrArg (fun k => D.bl (!k)) decNmem)
theorem tv_inN (ha : EV X a ρ μ (nD i)) (hb : EV X b ρ μ y) (hy : IsS μ y (l.map nD)) (hm : behindInMarks .In b = false := by rfl) : EVT X (.Compare a [.In] [b] pos) ρ μ (decide (i ∈ l)) := tv_cast (tv_inI ha hb (by rw [← nD_map]; exact hy) hm) decNmem
theorem tv_notInN (ha : EV X a ρ μ (nD i)) (hb : EV X b ρ μ y) (hy : IsS μ y (l.map nD)) (hm : behindInMarks .NotIn b = false := by rfl) : EVT X (.Compare a [.NotIn] [b] pos) ρ μ (!decide (i ∈ l)) := tv_cast (tv_notInI ha hb (by rw [← nD_map]; exact hy) hm) (congrArg (fun k => !k) decNmem)
theorem ev_ixN (ha : EV X a ρ μ x) (hb : EV X b ρ μ (nD i)) (hx : IsS μ x xs) (h : xs[i]? = some d) (hs : PlainIx b := by exact fun _ _ => rfl) : EV X (.Subscript a b pos) ρ μ d := ev_ix ha hb hx (atI_nat h) hs
theorem ev_0 {j p} : EV X (.Constant (.int 0) j p) ρ μ (nD 0) := ev_int
theorem ev_1 {j p} : EV X (.Constant (.int 1) j p) ρ μ (nD 1) := ev_int
theorem ev_2 {j p} : EV X (.Constant (.int 2) j p) ρ μ (nD 2) := ev_int
end

section
variable {X : Cx} {e a b c o i : Expr} {es : List Expr} {ρ : AEnv} {μ : Sto} {pos p : Pos} {x y z d w : D} {xs ys : List D}
theorem aT_chain {op op' : CmpOp} {Q : Bool → Sto → Prop} (h : aE X a ρ μ fun x μ1 => aE X b ρ μ1 fun y μ2 => AOp X (compareOp op) x y μ2 fun z μ3 => ∃ k, z = .bl k ∧ if k = true then aE X c ρ μ3 fun w μ4 => AOp X (compareOp op') y w μ4 fun d μ5 => ∃ k, d = .bl k ∧ Q k μ5 else Q false μ3)
    (hm : lastMarks [op, op'] [b, c] = false := by with_unfolding_all rfl) : aT X (.Compare a [op, op'] [b, c] pos) ρ μ Q := fun η α H σ W Ev =>
  tT_of (pt_chain xOp_ok xOp_ok peE peE peE hm) (aE_then W Ev h fun v H1 α1 μ1 d W1 l1 Ev1 r1 q1 =>
    aE_then W1 Ev1 q1 fun u H2 α2 μ2 d2 W2 l2 Ev2 r2 q2 => by
      obtain ⟨r, Q', h1, h2, h3⟩ := q2 η α2 H2 v u W2 (r1.le l2) r2
      refine ⟨r, Q', h1, h2, fun z H3 hz => ?_⟩
      obtain ⟨α3, μ3, d3, W3, l3, r3, k, e, q3⟩ := h3 z H3 hz
      subst e
      refine ⟨k, r3.blV, ?_⟩
      cases k with
      | false => exact ⟨false, rfl, α3, μ3, W3, l1.trans (l2.trans l3), q3⟩
      | true =>
        refine aE_then W3 (Ev2.le l3) q3 fun w H4 α4 μ4 d4 W4 l4 Ev4 r4 q4 => ?_
        obtain ⟨r', Q2, g1, g2, g3⟩ := q4 η α4 H4 u w W4 ((r2.le l3).le l4) r4
        exact ⟨r', Q2, g1, g2, fun v H z => PD_bl ((g3 v H z).le (l1.trans (l2.trans (l3.trans l4))))⟩)
theorem aop_mono {f : Value → Value → Sem Value} {Q Q' : DK} (h : AOp X f x y μ Q) (k : ∀ d μ', Q d μ' → Q' d μ') : AOp X f x y μ Q' := by
  intro η α H v u W rv ru
  obtain ⟨r, Q1, h1, h2, h3⟩ := h η α H v u W rv ru
  refine ⟨r, Q1, h1, h2, fun v2 H2 q => ?_⟩
  obtain ⟨α', μ', d, W', l, r', e⟩ := h3 v2 H2 q
  exact ⟨α', μ', d, W', l, r', k _ _ e⟩
theorem tv_chain {op op' : CmpOp} {k k' : Bool} {w : D} (ha : EV X a ρ μ x) (hb : EV X b ρ μ y) (h : AOp X (compareOp op) x y μ (isD (.bl k) μ)) (hc : EV X c ρ μ w) (h' : AOp X (compareOp op') y w μ (isD (.bl k') μ)) (hm : lastMarks [op, op'] [b, c] = false := by with_unfolding_all rfl) :
    EVT X (.Compare a [op, op'] [b, c] pos) ρ μ (k && k') := aT_chain (aE_ev ha (aE_ev hb (aop_mono h fun d μ' ⟨e1, e2⟩ => by
  subst e1
  refine ⟨k, rfl, ?_⟩
  rw [e2]
  cases k with
  | true =>
    rw [if_pos rfl]
    refine aE_ev hc (aop_mono h' fun d2 μ2 ⟨e3, e4⟩ => ⟨k', e3, rfl, e4⟩)
  | false => exact ⟨rfl, rfl⟩))) hm
theorem aT_dinT {Q : Bool → Sto → Prop} {j : Nat} {kvs : List (List Key × D)} {es : List Expr} {ks : List Key} {x1 p1} (hu : X.A.units + 1 < cLine) (hi : aA X es ρ μ fun ds μ1 => ds = ks.map kD ∧ ks.length ≤ 100 ∧ μ1 = μ) (ho : EV X o ρ μ (.pr j)) (hj : μ[j]? = some (.dT kvs)) (q : Q (valD kvs ks).isSome μ)
    (h1 : behindInMarks .In o = false := by rfl) : aT X (.Compare (.Tuple es x1 p1) [.In] [o] pos) ρ μ Q := fun η α H σ W Ev =>
  tT_of (pt_cmp (pc_din hu peE peE) h1) (keyTup W Ev hi fun p α1 H1 W1 l1 E1 hp n1 n2 => by
    refine aE_then W1 E1 ho fun u H2 α2 μ2 d2 W2 l2 E2 r2 ⟨e1, e2⟩ => ?_
    subst e1 e2
    cases r2 with
    | pr ea =>
      rename_i a
      obtain ⟨ws, hq, rr⟩ := W2.cell j a _ ea hj
      have hp2 : H2 p = some (.tup (ks.map kV)) := (msk_some.mp (l2.same _ _ (msk_some.mpr ⟨n1, n2, hp⟩))).2.2
      refine ⟨a, valV ws ks, rfl, DGet.t hq hp2, ?_⟩
      rw [val_some rr]
      exact ⟨_, rfl, α2, μ2, W2, l1.trans l2, q⟩)
theorem aT_din {Q : Bool → Sto → Prop} {j : Nat} {kvs : List (Key × D)} {y : D} {key : Key} (hu : X.A.units + 1 < cLine) (ho : EV X o ρ μ (.pr j)) (hi : EV X i ρ μ y) (hj : μ[j]? = some (.dK kvs)) (hk : y.key = some key) (q : Q (valD kvs key).isSome μ)
    (h1 : behindInMarks .In o = false := by rfl) : aT X (.Compare i [.In] [o] pos) ρ μ Q := fun η α H σ W Ev =>
  tT_of (pt_cmp (pc_din hu peE peE) h1) (aE_then W Ev hi fun u H1 α1 μ1 d1 W1 l1 E1 r1 ⟨e1, e2⟩ => by
    subst e1 e2
    refine aE_then W1 E1 ho fun v H2 α2 μ2 d2 W2 l2 E2 r2 ⟨e1, e2⟩ => ?_
    subst e1 e2
    cases r2 with
    | pr ea =>
      rename_i a
      obtain ⟨ws, hq, rr⟩ := W2.cell j a _ ea hj
      have hkv := (r1.le l2).key hk
      subst hkv
      refine ⟨a, valV ws key, rfl, DGet.k hq, ?_⟩
      rw [val_some rr]
      exact ⟨_, rfl, α2, μ2, W2, l1.trans l2, q⟩)
theorem isl {μ : Sto} {xs : List D} : IsS μ (.lst xs) xs := .l .l
end

/-! ### dicts of pairs, of numbers -/
def pK (p : Nat × Nat) : List Key := [.inl (p.1 : Int), .inl (p.2 : Int)]
theorem pK_inj {p q : Nat × Nat} (h : pK p = pK q) : p = q := by
  obtain ⟨a, b⟩ := p
  obtain ⟨c, d⟩ := q
  unfold pK at h
  injection h with h1 h2
  injection h2 with h2 _
  injection h1 with h1
  injection h2 with h2
  exact Prod.ext (Int.ofNat_inj.mp h1) (Int.ofNat_inj.mp h2)
def encP (A : List (Nat × Nat)) : List (List Key × D) := A.map fun p => (pK p, .bl true)
def addP (A : List (Nat × Nat)) (p : Nat × Nat) : List (Nat × Nat) := if p ∈ A then A else A ++ [p]
theorem valD_map {κ τ : Type} [DecidableEq κ] [DecidableEq τ] {f : τ → κ} (inj : ∀ a b, f a = f b → a = b) {g : τ → D} (k : τ) : ∀ A : List τ, valD (A.map fun p => (f p, g p)) (f k) = if k ∈ A then some (g k) else none
  | [] => rfl
  | p :: A => by
    have ih := valD_map inj (g := g) k A
    unfold valD at ih ⊢
    rw [List.map_cons, List.find?_cons]
    by_cases h : p = k
    · subst h
      simp
    · have h2 : ¬ f p = f k := fun z => h (inj _ _ z)
      rw [decide_eq_false h2]
      simp only [List.mem_cons]
      rw [ih]
      have : (k = p ∨ k ∈ A) ↔ k ∈ A := ⟨fun z => z.elim (fun q => absurd q.symm h) id, .inr⟩
      simp only [this]
theorem valD_encP {A : List (Nat × Nat)} {p : Nat × Nat} : (valD (encP A) (pK p)).isSome = decide (p ∈ A) := by
  unfold encP
  rw [valD_map (g := fun _ => D.bl true) (fun _ _ => pK_inj) p A]
  by_cases h : p ∈ A
  · rw [if_pos h, decide_eq_true h]; rfl
  · rw [if_neg h, decide_eq_false h]; rfl
theorem any_map_iff {κ τ : Type} [DecidableEq κ] {f : τ → κ} (inj : ∀ a b, f a = f b → a = b) {g : τ → D} (k : τ) (A : List τ) : ((A.map fun p => (f p, g p)).any fun kv => decide (kv.1 = f k)) = true ↔ k ∈ A := by
  rw [List.any_map, List.any_eq_true]
  constructor
  · rintro ⟨p, hp, z⟩
    rw [← inj _ _ (of_decide_eq_true z)]; exact hp
  · exact fun h => ⟨k, h, decide_eq_true rfl⟩
theorem putD_encP {A : List (Nat × Nat)} {p : Nat × Nat} : putD (encP A) (pK p) (.bl true) = encP (addP A p) := by
  unfold putD encP addP
  have an := any_map_iff (g := fun _ => D.bl true) (fun _ _ => pK_inj) p A
  by_cases h : p ∈ A
  · rw [an.mpr h, if_pos rfl, if_pos h, List.map_map]
    refine List.map_congr_left fun q hq => ?_
    show (if _ then _ else _) = _
    split <;> rfl
  · rw [if_neg fun z => h (an.mp z), if_neg h, List.map_append]
    rfl
theorem mem_addP {A : List (Nat × Nat)} {p q : Nat × Nat} : q ∈ addP A p ↔ q ∈ A ∨ q = p := by
  unfold addP
  split
  · rename_i h
    exact ⟨.inl, fun z => z.elim id fun e => e ▸ h⟩
  · rw [List.mem_append, List.mem_singleton]
/-- lists by number -/
def encH (hs : List (List Nat)) : List (Key × D) := hs.zipIdx.map fun p => (.inl (p.2 : Int), .lst (p.1.map nD))
theorem valD_encH' {hs : List (List Nat)} : ∀ {k i : Nat} {l : List Nat}, hs[i]? = some l → valD ((hs.zipIdx k).map fun p : List Nat × Nat => ((Sum.inl (p.2 : Int) : Key), D.lst (p.1.map nD))) (.inl ((k + i : Nat) : Int)) = some (.lst (l.map nD)) := by
  induction hs with
  | nil => intro k i l h; cases h
  | cons x hs ih =>
    intro k i l h
    cases i with
    | zero =>
      cases h
      unfold valD
      simp
    | succ i =>
      have h2 : hs[i]? = some l := by simpa using h
      have q := ih (k := k + 1) h2
      unfold valD at q ⊢
      rw [List.zipIdx_cons, List.map_cons, List.find?_cons]
      have : ¬ ((Sum.inl (k : Int) : Key) = .inl ((k + (i + 1) : Nat) : Int)) := fun z => by
        injection z with z
        omega
      rw [decide_eq_false this]
      rw [show k + (i + 1) = k + 1 + i by omega]
      exact q
theorem valD_encH {hs : List (List Nat)} {i : Nat} {l : List Nat} (h : hs[i]? = some l) : valD (encH hs) (.inl (i : Int)) = some (.lst (l.map nD)) := by
  have := valD_encH' (k := 0) h
  rwa [Nat.zero_add] at this
theorem putD_encH' {hs : List (List Nat)} {l : List Nat} : ∀ {k i : Nat}, ((hs.zipIdx k).map fun p : List Nat × Nat => ((Sum.inl (p.2 : Int) : Key), D.lst (p.1.map nD))).map (fun kv => if decide (kv.1 = .inl ((k + i : Nat) : Int)) = true then (kv.1, D.lst (l.map nD)) else kv) = (((hs.set i l).zipIdx k).map fun p : List Nat × Nat => ((Sum.inl (p.2 : Int) : Key), D.lst (p.1.map nD))) := by
  induction hs with
  | nil => intro k i; rfl
  | cons x hs ih =>
    intro k i
    cases i with
    | zero =>
      rw [List.set_cons_zero, List.zipIdx_cons, List.map_cons, List.map_cons, List.zipIdx_cons, List.map_cons, Nat.add_zero]
      rw [if_pos (decide_eq_true rfl)]
      congr 1
      rw [List.map_map]
      refine List.map_congr_left fun q hq => ?_
      have := List.le_snd_of_mem_zipIdx hq
      show (if _ then _ else _) = _
      rw [if_neg]
      intro z
      have z := of_decide_eq_true z
      injection z with z
      omega
    | succ i =>
      rw [List.set_cons_succ, List.zipIdx_cons, List.map_cons, List.map_cons, List.zipIdx_cons, List.map_cons]
      congr 1
      · rw [if_neg]
        intro z
        have z := of_decide_eq_true z
        injection z with z
        omega
      · rw [show k + (i + 1) = k + 1 + i by omega]
        exact ih
theorem putD_encH {hs : List (List Nat)} {i : Nat} {l : List Nat} (h : i < hs.length) : putD (encH hs) (.inl (i : Int)) (.lst (l.map nD)) = encH (hs.set i l) := by
  unfold putD
  have e : ((encH hs).any fun kv => decide (kv.1 = (.inl (i : Int) : Key))) = true := by
    rw [List.any_eq_true]
    refine ⟨(.inl (i : Int), .lst (hs[i].map nD)), ?_, decide_eq_true rfl⟩
    unfold encH
    refine List.mem_map.mpr ⟨(hs[i], i), ?_, rfl⟩
    rw [List.mem_iff_getElem?]
    exact ⟨i, by rw [List.getElem?_zipIdx, List.getElem?_eq_getElem h]; simp⟩
  rw [e, if_pos rfl]
  have := putD_encH' (hs := hs) (l := l) (k := 0) (i := i)
  rw [Nat.zero_add] at this
  unfold encH
  rw [← this]
  simp only [decide_eq_true_eq]
theorem encH_len (hs : List (List Nat)) : (encH hs).length = hs.length := by unfold encH; rw [List.length_map, List.length_zipIdx]

/-! ### cells in place -/
theorem get_at {pre l : Sto} {k i : Nat} (h : pre.length = k) : (pre ++ l)[k + i]? = l[i]? := by
  subst h
  rw [List.getElem?_append_right (Nat.le_add_right _ _), Nat.add_sub_cancel_left]
theorem set_at {pre l : Sto} {k i : Nat} {x : Cell} (h : pre.length = k) : (pre ++ l).set (k + i) x = pre ++ l.set i x := by
  subst h
  rw [List.set_append_right _ _ (Nat.le_add_right _ _), Nat.add_sub_cancel_left]
end HF

/-! ## A14 -/
namespace HF
open PySem PySem.Spec PyProof.Rows L2
/-! ### loops over data, by the part that is done -/
abbrev EVL (X : Cx) (tg iter : Expr) (ρ : AEnv) (μ : Sto) (items : List D) : Prop := aI X tg iter ρ μ fun it μ1 => μ1 = μ ∧ it.items = items ∧ ∀ μ', it.cond μ'
section
variable {X : Cx} {e a b c o e2 : Expr} {es : List Expr} {ρ : AEnv} {μ : Sto} {Q : DK} {pos p : Pos} {x y z d : D} {xs ys : List D} {tg iter elt : Expr} {ifs body : List Expr} {E : AEnds}
theorem wi_list (h : EV X e ρ μ (.lst xs)) : EVL X tg e ρ μ xs := aI_list (aE_ev h (.inl ⟨xs, rfl, rfl, rfl, fun _ => trivial⟩))
theorem wi_tup (h : EV X e ρ μ (.tup xs)) : EVL X tg e ρ μ xs := aI_tup (aE_ev h ⟨xs, rfl, rfl, rfl, fun _ => trivial⟩)
theorem wi_range {n : Nat} (hm : X.mg "range" = none) (h : EV X e ρ μ (nD n)) (hn : n ≤ 100000) (hg : Gl X "range" := by rfl) (hs : starEach [e] X.env = [(false, eval e X.env)] := by rfl) (s1 : starEach [e] X.env = (false, eval e X.env) :: starEach [] X.env := by rfl) :
    EVL X tg (.Call (.Name "range" p) [e] [] pos) ρ μ ((List.range n).map nD) := aI_range1 (aE_ev h ⟨n, rfl, Nat.lt_of_le_of_lt hn (by decide), rfl, rfl, fun _ => trivial⟩) hm hg hs s1
theorem wi_enumT {elts : List Expr} {kk : Nat} {tpos : Pos} (hm : X.mg "enumerate" = none) (h : EV X e ρ μ (.tup xs)) (hg : Gl X "enumerate" := by rfl) (hs : starEach [e] X.env = [(false, eval e X.env)] := by rfl) (s1 : starEach [e] X.env = (false, eval e X.env) :: starEach [] X.env := by rfl) :
    EVL X (.Tuple elts kk tpos) (.Call (.Name "enumerate" p) [e] [] pos) ρ μ (enumD xs) := aI_enumT (aE_ev h ⟨xs, rfl, rfl, rfl, fun _ => trivial⟩) hm hg hs s1
theorem wi_enum {elts : List Expr} {kk : Nat} {tpos : Pos} (hm : X.mg "enumerate" = none) (h : EV X e ρ μ (.lst xs)) (hg : Gl X "enumerate" := by rfl) (hs : starEach [e] X.env = [(false, eval e X.env)] := by rfl) (s1 : starEach [e] X.env = (false, eval e X.env) :: starEach [] X.env := by rfl) :
    EVL X (.Tuple elts kk tpos) (.Call (.Name "enumerate" p) [e] [] pos) ρ μ (enumD xs) := aI_enum (aE_ev h (.inl ⟨xs, rfl, rfl, rfl, fun _ => trivial⟩)) hm hg hs s1
variable {τ σ : Type} {L : List τ} {enc : τ → D} {scope : Scope} {vs vs1 : List Nat} {cc : Bool}
theorem split_at {L : List τ} {i : Nat} {t : τ} (h : L[i]? = some t) : L = L.take i ++ t :: L.drop (i + 1) ∧ L.take (i + 1) = L.take i ++ [t] := by
  obtain ⟨hi, e⟩ := List.getElem?_eq_some_iff.mp h
  refine ⟨?_, by rw [List.take_add_one, h]; rfl⟩
  rw [← e, List.getElem_cons_drop, List.take_append_drop]
theorem aS_forL {sts : List Stmt} (hi : EVL X tg iter ρ μ (L.map enc)) (P : List τ → AEnv → Sto → Prop) (h0 : P [] ρ μ)
    (hstep : ∀ pre t post ρ' μ', L = pre ++ t :: post → P pre ρ' μ' → aG X tg (enc t) ρ' μ' fun ρ2 μ2 => aSs X sts ρ2 μ2 { E with nx := P (pre ++ [t]), ct := P (pre ++ [t]), bk := E.nx })
    (hd : ∀ ρ' μ', P L ρ' μ' → E.nx ρ' μ')
    (hp : PassesOwn (model X.prog X.w) X.A X.env X.xe := by exact PassesOwn.never) (hc : X.calm = true := by rfl) (hs : ∀ x, foldedSetIterable iter X.env x = pure x := by intro _; rfl) : aS X (.For tg iter sts [] pos) ρ μ E := by
  refine aS_for (aI_mono hi fun it μ1 ⟨e1, e2, hc⟩ => ?_) hp hc hs
  subst e1
  refine ⟨fun i => P (L.take i), h0, fun _ _ μ' _ => hc μ', fun i d ρ' μ' hd h => ?_, fun ρ' μ' h => hd ρ' μ' (by rw [e2, List.length_map, List.take_length] at h; exact h)⟩
  rw [e2, List.getElem?_map] at hd
  cases e : L[i]? with
  | none => rw [e] at hd; cases hd
  | some t =>
    rw [e] at hd
    cases hd
    obtain ⟨s1, s2⟩ := split_at e
    have z := hstep _ t _ ρ' μ' s1 h
    rw [← s2] at z
    exact z
theorem lcs (hi : EVL X tg iter ρ μ (L.map enc)) (hL : L.length < sizeLine) (P : List τ → List D → Sto → Prop) (h0 : P [] [] μ)
    (hstep : ∀ pre t post acc μ', L = pre ++ t :: post → P pre acc μ' → Bk X scope fun Y => aGc Y tg vs (enc t) (wipeA ρ vs) μ' fun ρ2 μ2 => Bk X scope fun Y => aTs Y ifs ρ2 μ2 fun k μ3 => if k = true then
      (Bk X scope fun Y => aE Y elt ρ2 μ3 fun y μ4 => P (pre ++ [t]) (acc ++ [y]) μ4) else P (pre ++ [t]) acc μ3)
    (hd : ∀ acc μ', P L acc μ' → LcOut cc acc μ' Q) : LcAsk X elt tg iter ifs scope vs ρ μ cc Q := by
  refine aI_mono hi fun it μ1 ⟨e1, e2, hc⟩ => ?_
  subst e1
  refine ⟨fun i acc μ' => acc.length ≤ i ∧ i ≤ L.length ∧ P (L.take i) acc μ', ⟨Nat.le_refl _, Nat.zero_le _, by rw [List.take_zero]; exact h0⟩, fun i acc μ' h => ⟨hc μ', Nat.lt_of_le_of_lt (Nat.le_trans h.1 h.2.1) hL⟩, fun i d acc μ' hd ⟨h1, h2, h⟩ => ?_,
    fun acc μ' ⟨h1, h2, h⟩ => hd acc μ' (by rw [e2, List.length_map, List.take_length] at h; exact h)⟩
  rw [e2, List.getElem?_map] at hd
  cases e : L[i]? with
  | none => rw [e] at hd; cases hd
  | some t =>
    rw [e] at hd
    cases hd
    obtain ⟨s1, s2⟩ := split_at e
    have hlt : i < L.length := (List.getElem?_eq_some_iff.mp e).1
    intro s H C cl fp
    refine fun η α H1 σ v W Ev r => tG_mono (hstep _ t _ acc μ' s1 h s H C cl fp η α H1 σ v W Ev r) fun σ' H' ⟨hw, α', μ2, ρ2, W', l', E', q⟩ => ⟨hw, α', μ2, ρ2, W', l', E', ?_⟩
    intro s H C cl fp
    refine aTs_mono (q s H C cl fp) fun k μ3 q2 => ?_
    cases k with
    | true =>
      intro s H C cl fp
      refine aE_mono (q2 s H C cl fp) fun y μ4 q3 => ⟨by rw [List.length_append]; exact Nat.succ_le_succ h1, hlt, by rw [s2]; exact q3⟩
    | false => exact ⟨Nat.le_succ_of_le h1, hlt, by rw [s2]; exact q2⟩
variable {M : List σ} {enc1 : σ → D} {tg1 iter1 : Expr} {ifs1 : List Expr}
theorem lc2s (hi : EVL X tg iter ρ μ (L.map enc)) (hL : L.length * M.length < sizeLine) (P : List τ → List D → Sto → Prop) (h0 : P [] [] μ) (P1 : List τ → τ → List σ → List D → Sto → Prop)
    (hstep : ∀ pre t post acc μ', L = pre ++ t :: post → P pre acc μ' → Bk X scope fun Y => aGc Y tg vs (enc t) (wipeA ρ vs) μ' fun ρ2 μ2 => Bk X scope fun Y => EVL Y tg1 iter1 ρ2 μ2 (M.map enc1) ∧ P1 pre t [] acc μ2 ∧
      (∀ pre1 t1 post1 acc1 μ5, M = pre1 ++ t1 :: post1 → P1 pre t pre1 acc1 μ5 → Bk X scope fun Y => aGc Y tg1 vs1 (enc1 t1) (wipeA ρ2 vs1) μ5 fun ρ3 μ6 => Bk X scope fun Y => aTs Y ifs1 ρ3 μ6 fun k μ7 => if k = true then
        (Bk X scope fun Y => aE Y elt ρ3 μ7 fun y μ8 => P1 pre t (pre1 ++ [t1]) (acc1 ++ [y]) μ8) else P1 pre t (pre1 ++ [t1]) acc1 μ7) ∧
      ∀ acc1 μ5, P1 pre t M acc1 μ5 → P (pre ++ [t]) acc1 μ5)
    (hd : ∀ acc μ', P L acc μ' → LcOut cc acc μ' Q) : Lc2Ask X elt tg iter [] tg1 iter1 ifs1 scope vs vs1 ρ μ cc Q := by
  refine aI_mono hi fun it μ1 ⟨e1, e2, hc⟩ => ?_
  subst e1
  refine ⟨fun i acc μ' => acc.length ≤ i * M.length ∧ i ≤ L.length ∧ P (L.take i) acc μ', ⟨by simp, Nat.zero_le _, by rw [List.take_zero]; exact h0⟩, fun i acc μ' h => hc μ', fun i d acc μ' hd ⟨h1, h2, h⟩ => ?_,
    fun acc μ' ⟨h1, h2, h⟩ => hd acc μ' (by rw [e2, List.length_map, List.take_length] at h; exact h)⟩
  rw [e2, List.getElem?_map] at hd
  cases e : L[i]? with
  | none => rw [e] at hd; cases hd
  | some t =>
    rw [e] at hd
    cases hd
    obtain ⟨s1, s2⟩ := split_at e
    have hlt : i < L.length := (List.getElem?_eq_some_iff.mp e).1
    intro s H C cl fp
    refine fun η α H1 σ v W Ev r => tG_mono (hstep _ t _ acc μ' s1 h s H C cl fp η α H1 σ v W Ev r) fun σ' H' ⟨hw, α', μ2, ρ2, W', l', E', q⟩ => ⟨hw, α', μ2, ρ2, W', l', E', ?_⟩
    intro s H C cl fp
    refine aTs_nil ?_
    rw [if_pos rfl]
    intro s H C cl fp
    obtain ⟨hi1, p0, ps, pd⟩ := q s H C cl fp
    refine aI_mono hi1 fun it1 μ4 ⟨g1, g2, gc⟩ => ?_
    subst g1
    refine ⟨fun j acc1 μ5 => acc1.length ≤ i * M.length + j ∧ j ≤ M.length ∧ P1 (L.take i) t (M.take j) acc1 μ5, ⟨h1, Nat.zero_le _, by rw [List.take_zero]; exact p0⟩, fun j acc1 μ5 h => ⟨gc μ5, ?_⟩, fun j d1 acc1 μ5 hd1 ⟨k1, k2, k⟩ => ?_, fun acc1 μ5 ⟨k1, k2, k⟩ => ?_⟩
    · have : (i + 1) * M.length ≤ L.length * M.length := Nat.mul_le_mul_right _ hlt
      rw [Nat.succ_mul] at this
      have := h.1
      have := h.2.1
      omega
    · rw [g2, List.getElem?_map] at hd1
      cases e' : M[j]? with
      | none => rw [e'] at hd1; cases hd1
      | some t1 =>
        rw [e'] at hd1
        cases hd1
        obtain ⟨s3, s4⟩ := split_at e'
        have hlt1 : j < M.length := (List.getElem?_eq_some_iff.mp e').1
        intro s H C cl fp
        refine fun η α H1 σ v W Ev r => tG_mono (ps _ t1 _ acc1 μ5 s3 k s H C cl fp η α H1 σ v W Ev r) fun σ' H' ⟨hw, α', μ2, ρ2, W', l', E', q⟩ => ⟨hw, α', μ2, ρ2, W', l', E', ?_⟩
        intro s H C cl fp
        refine aTs_mono (q s H C cl fp) fun k μ3 q2 => ?_
        cases k with
        | true =>
          intro s H C cl fp
          refine aE_mono (q2 s H C cl fp) fun y μ4 q3 => ⟨by rw [List.length_append]; exact Nat.succ_le_succ k1, hlt1, by rw [s4]; exact q3⟩
        | false => exact ⟨Nat.le_succ_of_le k1, hlt1, by rw [s4]; exact q2⟩
    · rw [g2, List.length_map, List.take_length] at k
      refine ⟨?_, hlt, by rw [s2]; exact pd acc1 μ5 k⟩
      rw [g2, List.length_map] at k1
      rw [Nat.succ_mul]
      exact k1
/-! targets a, b and a, (b, c) -/
variable {px py pz : Pos} {n1 n2 n3 : Str} {i j l : Nat} {d1 d2 d3 : D} {k1 k2 : Nat} {N : AEnv → Sto → Prop}
theorem aG_pair (i j : Nat) {n1 n2 : Str} {d1 d2 : D} (hN : X.N.Nodup) (h : N ((ρ.set i (some d1)).set j (some d2)) μ) (hi : X.N[i]? = some n1 := by rfl) (hj : X.N[j]? = some n2 := by rfl) (hx : Loc X.env.scope n1 := by first | exact Or.inl rfl | exact Or.inr rfl) (hy : Loc X.env.scope n2 := by first | exact Or.inl rfl | exact Or.inr rfl)
    (f1 : X.fn n1 = true ∨ X.env.scope.names.lookup n1 = some .local := by first | exact .inl rfl | exact .inr rfl) (f2 : X.fn n2 = true ∨ X.env.scope.names.lookup n2 = some .local := by first | exact .inl rfl | exact .inr rfl) (hc : X.calm = true := by rfl)
    (hn : (assignEach [.Name n1 px, .Name n2 py] X.env).length = 2 := by rfl) (hst : (assignEach [.Name n1 px, .Name n2 py] X.env).findIdx? (·.1) = none := by rfl)
    (s1 : (assignEach [.Name n1 px, .Name n2 py] X.env).map (·.2) = assign (.Name n1 px) X.env :: (assignEach [.Name n2 py] X.env).map (·.2) := by rfl) (s2 : (assignEach [.Name n2 py] X.env).map (·.2) = assign (.Name n2 py) X.env :: (assignEach [] X.env).map (·.2) := by rfl) :
    aG X (.Tuple [.Name n1 px, .Name n2 py] k1 pos) (.tup [d1, d2]) ρ μ N := aG_tup (aGs_cons (aG_name (aGs_cons (aG_name (aGs_nil h) hN hj hy f2) s2) hN hi hx f1) s1) rfl hc hn hst
theorem aG_npair (i j l : Nat) {n1 n2 n3 : Str} {d1 d2 d3 : D} (hN : X.N.Nodup) (h : N (((ρ.set i (some d1)).set j (some d2)).set l (some d3)) μ) (hi : X.N[i]? = some n1 := by rfl) (hj : X.N[j]? = some n2 := by rfl) (hl : X.N[l]? = some n3 := by rfl) (hx : Loc X.env.scope n1 := by first | exact Or.inl rfl | exact Or.inr rfl) (hy : Loc X.env.scope n2 := by first | exact Or.inl rfl | exact Or.inr rfl) (hz : Loc X.env.scope n3 := by first | exact Or.inl rfl | exact Or.inr rfl)
    (f1 : X.fn n1 = true ∨ X.env.scope.names.lookup n1 = some .local := by first | exact .inl rfl | exact .inr rfl) (f2 : X.fn n2 = true ∨ X.env.scope.names.lookup n2 = some .local := by first | exact .inl rfl | exact .inr rfl) (f3 : X.fn n3 = true ∨ X.env.scope.names.lookup n3 = some .local := by first | exact .inl rfl | exact .inr rfl) (hc : X.calm = true := by rfl)
    (hn : (assignEach [.Name n2 py, .Name n3 pz] X.env).length = 2 := by rfl) (hst : (assignEach [.Name n2 py, .Name n3 pz] X.env).findIdx? (·.1) = none := by rfl)
    (s1 : (assignEach [.Name n2 py, .Name n3 pz] X.env).map (·.2) = assign (.Name n2 py) X.env :: (assignEach [.Name n3 pz] X.env).map (·.2) := by rfl) (s2 : (assignEach [.Name n3 pz] X.env).map (·.2) = assign (.Name n3 pz) X.env :: (assignEach [] X.env).map (·.2) := by rfl)
    (hn' : (assignEach [.Name n1 px, .Tuple [.Name n2 py, .Name n3 pz] k2 p] X.env).length = 2 := by rfl) (hst' : (assignEach [.Name n1 px, .Tuple [.Name n2 py, .Name n3 pz] k2 p] X.env).findIdx? (·.1) = none := by rfl)
    (s3 : (assignEach [.Name n1 px, .Tuple [.Name n2 py, .Name n3 pz] k2 p] X.env).map (·.2) = assign (.Name n1 px) X.env :: (assignEach [.Tuple [.Name n2 py, .Name n3 pz] k2 p] X.env).map (·.2) := by rfl)
    (s4 : (assignEach [.Tuple [.Name n2 py, .Name n3 pz] k2 p] X.env).map (·.2) = assign (.Tuple [.Name n2 py, .Name n3 pz] k2 p) X.env :: (assignEach [] X.env).map (·.2) := by rfl) :
    aG X (.Tuple [.Name n1 px, .Tuple [.Name n2 py, .Name n3 pz] k2 p] k1 pos) (.tup [d1, .tup [d2, d3]]) ρ μ N := aG_tup (aGs_cons (aG_name (aGs_cons (aG_pair j l hN (aGs_nil h) hj hl hy hz f2 f3 hc hn hst s1 s2) s4) hN hi hx f1) s3) rfl hc hn' hst'
theorem aGc_pair (i j : Nat) {n1 n2 : Str} {d1 d2 : D} (hN : X.N.Nodup) (h : N ((ρ.set i (some d1)).set j (some d2)) μ) (hi : X.N[i]? = some n1 := by rfl) (hj : X.N[j]? = some n2 := by rfl) (vi : i ∈ vs := by decide) (vj : j ∈ vs := by decide) (hx : Loc X.env.scope n1 := by first | exact Or.inl rfl | exact Or.inr rfl) (hy : Loc X.env.scope n2 := by first | exact Or.inl rfl | exact Or.inr rfl)
    (f1 : X.fn n1 = true ∨ X.env.scope.names.lookup n1 = some .local := by first | exact .inl rfl | exact .inr rfl) (f2 : X.fn n2 = true ∨ X.env.scope.names.lookup n2 = some .local := by first | exact .inl rfl | exact .inr rfl) (hc : X.calm = true := by rfl)
    (hn : (assignEach [.Name n1 px, .Name n2 py] X.env).length = 2 := by rfl) (hst : (assignEach [.Name n1 px, .Name n2 py] X.env).findIdx? (·.1) = none := by rfl)
    (s1 : (assignEach [.Name n1 px, .Name n2 py] X.env).map (·.2) = assign (.Name n1 px) X.env :: (assignEach [.Name n2 py] X.env).map (·.2) := by rfl) (s2 : (assignEach [.Name n2 py] X.env).map (·.2) = assign (.Name n2 py) X.env :: (assignEach [] X.env).map (·.2) := by rfl) :
    aGc X (.Tuple [.Name n1 px, .Name n2 py] k1 pos) vs (.tup [d1, d2]) ρ μ N := aGc_tup (aGcs_cons (aGc_name (aGcs_cons (aGc_name (aGcs_nil h) hN hj vj hy f2) s2) hN hi vi hx f1) s1) rfl hc hn hst
theorem aGc_npair (i j l : Nat) {n1 n2 n3 : Str} {d1 d2 d3 : D} (hN : X.N.Nodup) (h : N (((ρ.set i (some d1)).set j (some d2)).set l (some d3)) μ) (hi : X.N[i]? = some n1 := by rfl) (hj : X.N[j]? = some n2 := by rfl) (hl : X.N[l]? = some n3 := by rfl) (vi : i ∈ vs := by decide) (vj : j ∈ vs := by decide) (vl : l ∈ vs := by decide) (hx : Loc X.env.scope n1 := by first | exact Or.inl rfl | exact Or.inr rfl) (hy : Loc X.env.scope n2 := by first | exact Or.inl rfl | exact Or.inr rfl) (hz : Loc X.env.scope n3 := by first | exact Or.inl rfl | exact Or.inr rfl)
    (f1 : X.fn n1 = true ∨ X.env.scope.names.lookup n1 = some .local := by first | exact .inl rfl | exact .inr rfl) (f2 : X.fn n2 = true ∨ X.env.scope.names.lookup n2 = some .local := by first | exact .inl rfl | exact .inr rfl) (f3 : X.fn n3 = true ∨ X.env.scope.names.lookup n3 = some .local := by first | exact .inl rfl | exact .inr rfl) (hc : X.calm = true := by rfl)
    (hn : (assignEach [.Name n2 py, .Name n3 pz] X.env).length = 2 := by rfl) (hst : (assignEach [.Name n2 py, .Name n3 pz] X.env).findIdx? (·.1) = none := by rfl)
    (s1 : (assignEach [.Name n2 py, .Name n3 pz] X.env).map (·.2) = assign (.Name n2 py) X.env :: (assignEach [.Name n3 pz] X.env).map (·.2) := by rfl) (s2 : (assignEach [.Name n3 pz] X.env).map (·.2) = assign (.Name n3 pz) X.env :: (assignEach [] X.env).map (·.2) := by rfl)
    (hn' : (assignEach [.Name n1 px, .Tuple [.Name n2 py, .Name n3 pz] k2 p] X.env).length = 2 := by rfl) (hst' : (assignEach [.Name n1 px, .Tuple [.Name n2 py, .Name n3 pz] k2 p] X.env).findIdx? (·.1) = none := by rfl)
    (s3 : (assignEach [.Name n1 px, .Tuple [.Name n2 py, .Name n3 pz] k2 p] X.env).map (·.2) = assign (.Name n1 px) X.env :: (assignEach [.Tuple [.Name n2 py, .Name n3 pz] k2 p] X.env).map (·.2) := by rfl)
    (s4 : (assignEach [.Tuple [.Name n2 py, .Name n3 pz] k2 p] X.env).map (·.2) = assign (.Tuple [.Name n2 py, .Name n3 pz] k2 p) X.env :: (assignEach [] X.env).map (·.2) := by rfl) :
    aGc X (.Tuple [.Name n1 px, .Tuple [.Name n2 py, .Name n3 pz] k2 p] k1 pos) vs (.tup [d1, .tup [d2, d3]]) ρ μ N := aGc_tup (aGcs_cons (aGc_name (aGcs_cons (aGc_pair j l hN (aGcs_nil h) hj hl vj vl hy hz f2 f3 hc hn hst s1 s2) s4) hN hi vi hx f1) s3) rfl hc hn' hst'
theorem tv_and3 {k1 k2 k3 : Bool} (ha : EVT X a ρ μ k1) (hb : k1 = true → EVT X b ρ μ k2) (hc : k1 = true → k2 = true → EVT X c ρ μ k3) : EVT X (.BoolOp .And [a, b, c] pos) ρ μ (k1 && k2 && k3) := aT_w (aW_and (aT_ev ha (by
  cases k1 with
  | false => exact ⟨rfl, rfl⟩
  | true =>
    rw [if_pos rfl]
    refine aW_and (aT_ev (hb rfl) ?_)
    cases k2 with
    | false => exact ⟨rfl, rfl⟩
    | true => rw [if_pos rfl]; exact aW_and1 (hc rfl rfl))))
theorem tv_or3 {k1 k2 k3 : Bool} (ha : EVT X a ρ μ k1) (hb : k1 = false → EVT X b ρ μ k2) (hc : k1 = false → k2 = false → EVT X c ρ μ k3) : EVT X (.BoolOp .Or [a, b, c] pos) ρ μ (k1 || k2 || k3) := aT_w (aW_or (aT_ev ha (by
  cases k1 with
  | true => exact ⟨rfl, rfl⟩
  | false =>
    rw [if_neg Bool.false_ne_true]
    refine aW_or (aT_ev (hb rfl) ?_)
    cases k2 with
    | true => exact ⟨rfl, rfl⟩
    | false => rw [if_neg Bool.false_ne_true]; exact aW_or1 (hc rfl rfl))))
theorem ev_and3 {k1 k2 k3 : Bool} (ha : EV X a ρ μ (.bl k1)) (hb : k1 = true → EV X b ρ μ (.bl k2)) (hc : k1 = true → k2 = true → EV X c ρ μ (.bl k3)) : EV X (.BoolOp .And [a, b, c] pos) ρ μ (.bl (k1 && k2 && k3)) := aE_and (aE_ev ha ⟨k1, rfl, by
  cases k1 with
  | false => exact ⟨rfl, rfl⟩
  | true =>
    rw [if_pos rfl]
    refine aE_and (aE_ev (hb rfl) ⟨k2, rfl, ?_⟩)
    cases k2 with
    | false => exact ⟨rfl, rfl⟩
    | true => rw [if_pos rfl]; exact aE_one (hc rfl rfl)⟩)
theorem last_get {pre : Sto} {c : Cell} : (pre ++ [c])[pre.length]? = some c := get_at (i := 0) rfl
theorem last_set {pre : Sto} {c x : Cell} : (pre ++ [c]).set pre.length x = pre ++ [x] := set_at (i := 0) rfl
end
end HF

/-! ## A15 -/
namespace HF
open PySem PySem.Spec PyProof.Rows L2
section
variable {P : Program} {w : World} {A : Around} {E : Value → Shared → Prop} {s : Shared}
theorem call_set_listI {l : Addr} {items : Array Value} (ns : List Int) {Q : Value → Shared → Prop} (hh : A.handled = none) (hl : s.heap.IsList l items) (hit : IntsAre items.toList ns) (hb : ns.length + 1 < scanBound)
    (h : ∀ (h' : Heap) (tk c : Nat), SetR w h' s.heap.objs.size (fun j => decide (j ∈ ns)) c → c ≤ ns.length → (∀ b o, s.heap.get? b = some o → h'.get? b = some o) → Q (.ref s.heap.objs.size) { s with heap := h', toks := tk }) :
    wpAny (model P w) A (call (.type "set") [.ref l]) Q E s := by
  have hisz : items.size = ns.length := by
    have q := IntsAre.length hit
    rw [Array.length_toList] at q
    exact q
  obtain ⟨c, tl, hmro⟩ := F.called_set.mro
  have hmade := F.called_set.made
  have hsub := F.called_set.sub
  refine wpAny_call (codeAny_of_tree ?_)
  show wpAny _ _ (callAny (.type "set") _) _ _ _
  refine wpAny_pure ⟨Code.quiet_builtin _ (by decide +kernel), codeAny_builtin F.entry_type_call ?_⟩
  rw [Around.under_plain (weight_type_call_type "set" [.ref l] []) rfl]
  have h1 := F.called_set.notType
  have h2 := F.called_set.canCreate
  have hct := F.typeCall_set_1 (.ref l)
  repeat (any_goals (first | assumption | wp_step))

  refine codeAny_mono (code_set_led1 (.ref l) (E := E) (Q₁ := fun obj s₁ => obj = .ref s.heap.objs.size ∧ s₁ = { s with heap := s.heap.push { cls := .type "set", dict := none, data := .set #[] 0 (.fresh 0 0 (!w.params.followText "set-order")) } }) ⟨rfl, rfl⟩) fun r s₁ hr => ?_
  cases r with
  | error e => exact hr
  | ok fl =>
    cases fl with
    | ret obj =>
      obtain ⟨rfl, rfl⟩ := hr
      have hS : (s.heap.push { cls := .type "set", dict := none, data := .set #[] 0 (.fresh 0 0 (!w.params.followText "set-order")) }).get? s.heap.objs.size = some { cls := .type "set", dict := none, data := .set #[] 0 (.fresh 0 0 (!w.params.followText "set-order")) } := Heap.get?_push_size _ rfl
      have hT : Shared.TypeIs { s with heap := s.heap.push { cls := .type "set", dict := none, data := .set #[] 0 (.fresh 0 0 (!w.params.followText "set-order")) } } (.ref s.heap.objs.size) "set" := ⟨_, hS, rfl⟩
      have hli := F.called_set.init.lookup
      have hbi := F.called_set.init.bind (.ref s.heap.objs.size)
      repeat (any_goals (first | assumption | wp_step))

      refine codeAny_mono (codeAny_call_builtin (R := wants (fun r s₂ => r = .none ∧ ∃ h' tk c, s₂ = { s with heap := h', toks := tk } ∧ SetR w h' s.heap.objs.size (fun j => decide (j ∈ ns)) c ∧ c ≤ ns.length ∧
          (∀ b o, s.heap.get? b = some o → h'.get? b = some o)) E) F.called_set.init.plain F.entry_set_init (check_set_init_1 hT ?_)) fun r₂ s₂ hr₂ => ?_
      · obtain ⟨ol, hol, hcl, nl, hdl⟩ := hl
        obtain ⟨ocls, odict, odata, oslots⟩ := ol
        simp only at hcl hdl
        subst hcl; subst hdl
        have hol' : (s.heap.push { cls := .type "set", dict := none, data := .set #[] 0 (.fresh 0 0 (!w.params.followText "set-order")) }).get? l = some { cls := .type "list", dict := odict, data := .seq items nl, slots := oslots } := Heap.get?_push_of_some _ hol
        have hsls := F.sub_list_set
        have hslf := F.sub_list_frozenset
        have hne : (Value.type "tuple" == Value.type "dict") = false := by decide
        have hl1 : (s.heap.push { cls := .type "set", dict := none, data := .set #[] 0 (.fresh 0 0 (!w.params.followText "set-order")) }).IsList l items := ⟨_, hol', rfl, nl, rfl⟩
        unfold Builtin.«set.__init__» noKeywords Builtin.Frozenset.updateFrom
        generalize hPI : pyIter = PI
        wp_walk
        subst hPI

        refine wpAny_pyIter_list hl1 ?_
        refine wpAny_bind (wpAny_runValue ?_)
        have hlS : l < s.heap.objs.size := Heap.lt_size hol
        have hh3 : A.in1.in1.in1.handled = none := by simp [hh]
        have hz1 : (s.heap.push { cls := .type "set", dict := none, data := .set #[] 0 (.fresh 0 0 (!w.params.followText "set-order")) }).objs.size = s.heap.objs.size + 1 := Heap.size_push ..
        have hneI : l ≠ (s.heap.push { cls := .type "set", dict := none, data := .set #[] 0 (.fresh 0 0 (!w.params.followText "set-order")) }).objs.size := by
          rw [Heap.size_push]; exact Nat.ne_of_lt (Nat.lt_succ_of_lt hlS)
        have hSf : s.heap.objs.size ∉ [(s.heap.push { cls := .type "set", dict := none, data := .set #[] 0 (.fresh 0 0 (!w.params.followText "set-order")) }).objs.size, l] := by
          rw [Heap.size_push]; simp only [List.mem_cons, List.mem_singleton, List.not_mem_nil, or_false, not_or]
          exact ⟨Nat.ne_of_lt (Nat.lt_succ_self _), Nat.ne_of_gt hlS⟩
        have hval : ∀ (i : Nat) (v : Value), items[i]? = some v → ∃ k t, ns[i]? = some k ∧ v = .int k t := fun i v hv => by
          have hi : i < ns.length := by rw [← hisz]; exact (Array.getElem?_eq_some_iff.mp hv).1
          obtain ⟨t, e⟩ := PyProof.Rows.IntsAre.int_at hit i v (by rw [Array.getElem?_toList]; exact hv)
          refine ⟨ns[i], t, List.getElem?_eq_getElem hi, ?_⟩
          rw [e, List.getD_eq_getElem?_getD, List.getElem?_eq_getElem hi] <;> rfl
        refine set_update_ints ((Walks.list hh3 _ l hneI items).toS) s.heap.objs.size
          hSf ns hisz hb hval (items.size - 0) 0 _ (by omega) (Nat.zero_le _)
          ⟨⟨_, Heap.get?_push_size _ rfl, rfl, rfl⟩, (hl1.push _)⟩ ?hS0 ?hR
        case hS0 =>
          have hget : ((s.heap.push { cls := .type "set", dict := none, data := .set #[] 0 (.fresh 0 0 (!w.params.followText "set-order")) }).push { cls := .type "list_iterator", data := .fields #[.ref l, .int 0 0] }).get? s.heap.objs.size
              = some { cls := .type "set", dict := none, data := .set #[] 0 (.fresh 0 0 (!w.params.followText "set-order")) } := Heap.get?_push_of_some _ hS
          exact ⟨0, Nat.le_refl 0, setR_new_at hget⟩
        case hR =>
          intro s' c' hm hc' hS'
          obtain ⟨h', g2, d', tk', os'⟩ := s'
          have eg : g2 = s.gens := hm.gens
          have ed : d' = s.drawn := hm.drawn
          have eo : os' = s.os := hm.os
          subst eg; subst ed; subst eo
          show wpAny _ _ _ _ _ _
          refine wpAny_pure ?_
          show wpAny _ _ (ret Value.none) _ _ _
          rw [hisz] at hc'
          refine wpAny_pure ⟨rfl, h', tk', c', rfl, hS', hc', fun b o e => ?_⟩
          have hb0 : b < s.heap.objs.size := Heap.lt_size e
          have hb1 : b ≠ s.heap.objs.size := Nat.ne_of_lt hb0
          have hb2 : b ≠ (s.heap.push { cls := .type "set", dict := none, data := .set #[] 0 (.fresh 0 0 (!w.params.followText "set-order")) }).objs.size := by
            rw [Heap.size_push]; exact Nat.ne_of_lt (Nat.lt_succ_of_lt hb0)
          exact hm.heap b o (by simp only [List.mem_cons, List.mem_singleton, List.not_mem_nil, or_false, not_or]; exact ⟨hb1, hb2⟩) (Heap.get?_push_of_some _ (Heap.get?_push_of_some _ e))

      · cases r₂ with
        | error e => exact hr₂
        | ok fl₂ =>
          cases fl₂ with
          | ret r =>
            obtain ⟨rfl, h', tk, c', rfl, hS', hc', hk'⟩ := hr₂
            repeat (any_goals (first | assumption | wp_step))
            exact h _ _ _ hS' hc' hk'
          | _ => exact hr₂.elim
    | _ => exact hr.elim

end
end HF

/-! ## A15b -/
namespace HF
open PySem PySem.Spec PyProof.Rows L2
section
variable {X : Cx}
def rSetOfL (K : PySem.W.Frag) (w : World) : List V → Hp → VK → Prop := fun xs H Q => ∃ (l : Addr) (ns : List Int), xs = [V.ref l] ∧ SqL K H l (ns.map V.int) ∧ ns.length < 64 ∧ ∀ a c, H a = none → c ≤ ns.length → Q (.ref a) (upd H a (SetO w a (fun j => decide (j ∈ ns)) c))
theorem cr_setOfL (hc : X.calm = true) : CallR X (.type "set") (rSetOfL X.K X.w) := by
  intro pins s σ H xs us Q I r h
  obtain ⟨l, ns, rfl, hl, hf, q⟩ := h
  rw [Vals.ref1 r]
  obtain ⟨its, rv, pl, hz⟩ := I.list hl
  have hn : H s.heap.objs.size = none := I.hok.fresh (Nat.le_refl _)
  refine call_set_listI (P := X.prog) (w := X.w) ns (I.ok.hd hc) pl.isList (by simpa using rv.ints) (by unfold scanBound; omega) fun h' tk c R hcn k => ?_
  exact ⟨.ref s.heap.objs.size, upd H s.heap.objs.size (SetO X.w s.heap.objs.size (fun j => decide (j ∈ ns)) c), I.laid (t' := tk) k (Nat.le_refl _) (setO_new R), rfl, q _ c hn hcn⟩
theorem aE_sortedSet {e : Expr} {ρ : AEnv} {μ : Sto} {Q : DK} {p p2 q q2 : Pos} {ns : List Int} (h : EV X e ρ μ (.lst (ns.map D.int))) (hf : ns.length < 64) (hq : ∀ ns' : List Int, ns'.Pairwise (· < ·) → (∀ k, k ∈ ns' ↔ k ∈ ns) → Q (.lst (ns'.map D.int)) μ)
    (hm : X.mg "sorted" = none) (hm2 : X.mg "set" = none) (hg : Gl X "sorted" := by rfl) (hg2 : Gl X "set" := by rfl) (hc : X.calm = true := by rfl) (he : starEach [e] X.env = (false, eval e X.env) :: starEach [] X.env := by rfl) :
    aE X (.Call (.Name "sorted" p) [.Call (.Name "set" p2) [e] [] q2] [] q) ρ μ Q := fun η α H σ W Ev =>
  tE_of (pe_callB (cr_sortedSet hc) hg hm rfl (pa_cons (pe_callTy (cr_setOfL hc) hg2 hm2 rfl paA (by decide) (by decide) he rfl) pa_nil rfl) (by decide) (by decide) rfl rfl) (by
    refine aA_then W Ev (aA_cons (Q := fun ds μ' => ds = [.lst (ns.map D.int)] ∧ μ' = μ) (aE_ev h (aA_nil ⟨rfl, rfl⟩)) he) fun vs H1 α1 μ1 ds W1 l1 E1 r1 ⟨e1, e2⟩ => ?_
    subst e1 e2
    cases r1 with
    | cons r1 r2 =>
      cases r2
      cases r1 with
      | lst hl r =>
        rename_i a vs
        have hv := r.ints
        subst hv
        refine ⟨a, ns, rfl, SqL.of (msk_some.mp hl).2.2, hf, fun b c hb hcn => ?_⟩
        obtain ⟨W2, l2, _, _⟩ := W1.new hb (SetO X.w b (fun j => decide (j ∈ ns)) c)
        refine ⟨b, _, c, rfl, upd_same, by omega, fun ns' p h1 h2 h3 hp => ?_⟩
        have := new_lst (Q := Q) W2 (Reps.of_ints ns') (hq ns' h1 fun k => (h2 k).trans ⟨of_decide_eq_true, decide_eq_true⟩) hp
        exact this.le (l1.trans l2))
end
/-- .. of naturals below 64 -/
theorem uni_eq {ns' : List Int} {l : List Nat} (h1 : ns'.Pairwise (· < ·)) (h2 : ∀ k, k ∈ ns' ↔ k ∈ l.map fun x : Nat => (x : Int)) (hb : ∀ x ∈ l, x < 64) : ns' = ((List.range 64).filter fun i => decide (i ∈ l)).map fun x : Nat => (x : Int) := by
  refine (List.Perm.eq_of_pairwise (le := (· < ·)) (fun a b _ _ p q => absurd p (Int.not_lt.mpr (Int.le_of_lt q))) h1 ?_ ?_)
  · rw [List.pairwise_map]
    refine List.Pairwise.imp ?_ (List.Pairwise.filter _ List.pairwise_lt_range)
    intro a b h
    exact Int.ofNat_lt.mpr h
  · refine (List.perm_ext_iff_of_nodup (h1.imp fun h => Int.ne_of_lt h) ?_).mpr fun k => ?_
    · rw [List.nodup_iff_pairwise_ne, List.pairwise_map]
      refine List.Pairwise.imp ?_ (List.Pairwise.filter _ List.pairwise_lt_range)
      intro a b h z
      exact Nat.ne_of_lt h (Int.ofNat_inj.mp z)
    · rw [h2]
      constructor
      · intro z
        obtain ⟨x, hx, e⟩ := List.mem_map.mp z
        exact List.mem_map.mpr ⟨x, List.mem_filter.mpr ⟨List.mem_range.mpr (hb x hx), decide_eq_true hx⟩, e⟩
      · intro z
        obtain ⟨x, hx, e⟩ := List.mem_map.mp z
        exact List.mem_map.mpr ⟨x, of_decide_eq_true (List.mem_filter.mp hx).2, e⟩
end HF

/-! ## A16 -/
namespace HF
open PySem PySem.Spec PyProof.Rows L2 NdefX ClX
/-! ### super() -/
/-- a method that says super(), as it stands behind the top; cc its cell of the class D, cda its code -/
structure FunS (prog : Program) (K : PySem.W.Frag) (x qual : Str) (st : Stmt) (f : Addr) (fd : FuncData) (cc cda D : Addr) : Prop where
  ex : ∃ (oc : Value) (od : Option Addr) (dV kV doc pm : Value) (an : Option Addr) (ct : Value) (osl : Array (Option Value)),
    fd = PySem.W.ksFn x qual (defArgs st) (defBody st) (defScope st) dV kV doc pm an (.ref cda) ct cc ∧ K.lookup f = some ⟨oc, od, .func fd, osl⟩
  cd : PySem.W.codeIn K (.ref cda) qual = true
  cell : ∃ (cl : Value) (cld : Option Addr) (csl : Array (Option Value)), K.lookup cc = some ⟨cl, cld, .cell (some (.ref D)), csl⟩
  code : ∃ (ccl : Value) (cdd : Option Addr) (vs : Array Value) (ccs : Array (Option Value)) (file : Str) (tf : Tok), K.lookup cda = some ⟨ccl, cdd, .fields vs, ccs⟩ ∧ vs[2]? = some (.str file tf) ∧ ((prog.main.file : Str) == file) = true
  dc : ∃ cdD, PySem.W.clsIn K D = some cdD
abbrev nfS (x qual : Str) (st : Stmt) (cc cda : Addr) : NF := ⟨x, qual, defArgs st, defBody st, defScope st, [("__class__", cc)], cda⟩
abbrev ScpS (N ps : List Str) (st : Stmt) : Prop := NScope N ps ["__class__"] (defScope st)
section
variable {P : Program} {w : World} {K : PySem.W.Frag} {mg : Str → Option Value} {base : Heap}
/-- its body, run as the code of that very def -/
theorem fnS_of {x qual : Str} {st : Stmt} {f cc cda D : Addr} {fd : FuncData} {N ps : List Str} {k : Nat} {sp : Sp} (F : FunS P K x qual st f fd cc cda D) (S : ScpS N ps st) (len : ∀ vs H Q E, sp vs H Q E → vs.length = ps.length)
    (hbody : ∀ (A : Around) (outer : List Env) (s : Shared) (H : Hp) (vs : List V) (Q : VK) (E : XK), Room k (A.deeper (envF (nfS x qual st cc cda) f s.heap.objs.size)) → sp vs H Q E → ∀ s1, Inv (ncx CX0 P w K mg base N (nfS x qual st cc cda) f A outer s H E).nox [] (startF N vs [none]) H s1 →
      _root_.PySem.wpAt (model P w) (A.deeper (envF (nfS x qual st cc cda) f s.heap.objs.size)) (.func (defBody st) (envF (nfS x qual st cc cda) f s.heap.objs.size)) (execs (defBody st) (envF (nfS x qual st cc cda) f s.heap.objs.size))
        (SP (ncx CX0 P w K mg base N (nfS x qual st cc cda) f A outer s H E).nox [] { nx := fun _ H' => Q .non H', rt := Q }) (fun _ _ => False) s1) : FnOk P w K mg base CX0 (k + 1) f fd ps sp := by
  obtain ⟨oc, od, dV, kV, doc, pm, an, ct, osl, efd, lk⟩ := F.ex
  refine ⟨len, fun A outer s H args us vs Q E hr e0 hb r hsp => ?_⟩
  have hl := len _ _ _ _ hsp
  have KX : K.In s.heap := e0.mod.kin.keeps fun b o e => (e0.bs b o e).1
  have lim : s.heap.NoLimit := e0.mod.nolimit.keeps fun b o e => (e0.bs b o e).1
  have hcdr := PySem.W.codeRec_of KX F.cd
  subst efd
  refine codeAny_call_function hr.depth (KX _ _ lk) rfl S.co S.gen rfl hcdr (hb _ _ _ _ ?_)
  refine wpAny_newFunctionEnv S.nocell (fun ⟨n, _⟩ hy => S.par n (List.of_mem_zip hy).1) (fun h₁ hns hsb => ⟨lim.fresh _ hsb, ?_⟩) S.kind
  show codeAny _ _ (.func (defBody st) (envF (nfS x qual st cc cda) f s.heap.objs.size)) _ _
  have kp : ∀ b o, s.heap.get? b = some o → h₁.get? b = some o := fun b o e => hsb.extBut b o (Nat.ne_of_lt (Heap.lt_size e)) (Heap.get?_push_of_some _ e)
  obtain ⟨cl, cld, csl, hcell⟩ := F.cell
  have C : CellsAt (nfS x qual st cc cda).cl ["__class__"] [none] s.heap H := by
    have one : ∀ y c, ([("__class__", cc)] : List (Str × Addr)).lookup y = some c → y = "__class__" ∧ c = cc := fun y c e => by
      rw [List.lookup_cons] at e
      split at e
      · rename_i hb
        cases e
        exact ⟨eq_of_beq hb, rfl⟩
      · cases e
    refine ⟨rfl, fun y c e => ?_, fun y z c e1 e2 => (one y c e1).1.trans (one z c e2).1.symm, fun i y e => ?_⟩
    · rw [(one y c e).2]
      exact ⟨(e0.bs cc _ (e0.mod.kin _ _ hcell)).2, some (.ref D), _, KX _ _ hcell, rfl⟩
    · match i, e with
      | 0, e =>
        cases e
        exact ⟨cc, rfl, fun v z => by cases z⟩
  have I : Inv (ncx CX0 P w K mg base N (nfS x qual st cc cda) f A outer s H E) [] (startF N vs [none]) H { s with heap := h₁, toks := s.toks + (ps.zip us).length } := inv_startN S hr.hd e0 hl r C hns kp
  refine PySem.ks_codeAny_funcAt (_root_.PySem.wpAt_mono (hbody A outer s H vs Q E (hr.deeper _) hsp _ (I.wish _)) (fun fl s' hs => ?_) fun e s' hs => hs.elim)
  have hs := SP.unwish hs
  have fin : ∀ {σ' : L2.St} {H' : Hp} {v : V} {u : Value}, Inv (ncx CX0 P w K mg base N (nfS x qual st cc cda) f A outer s H E) [] σ' H' s' → L2.RelV v u → Q v H' → CE outer P w H s Q u s' :=
    fun {σ' H' v u} J rv q => ⟨v, H', J.os, J.bare, J.base, J.hok, rv, q⟩
  cases fl with
  | ret u =>
    obtain ⟨v, σ', H', J, rv, q⟩ := hs
    exact fin J rv q
  | next =>
    obtain ⟨σ', H', J, q⟩ := hs
    exact fin (v := V.non) (u := Value.none) J rfl q
  | brk =>
    obtain ⟨_, _, _, q⟩ := hs
    exact False.elim q
  | cont =>
    obtain ⟨_, _, _, q⟩ := hs
    exact False.elim q
end
/-- a block of the code itself -/
def bSs (X : Cx) (body sts : List Stmt) (ρ : AEnv) (μ : Sto) (E : AEnds) : Prop := ∀ η α H σ, WOk X.K α η μ H → EnvR X.K α η H ρ σ → ∀ pins s, Inv X pins σ H s →
  _root_.PySem.wpAt (model X.prog X.w) X.A (.func body X.env) (execs sts X.env) (SP X pins (conc X.K η α H E)) X.xe s
def bE (X : Cx) (body : List Stmt) (e : Expr) (ρ : AEnv) (μ : Sto) (Q : DK) : Prop := ∀ η α H σ, WOk X.K α η μ H → EnvR X.K α η H ρ σ → ∀ pins s, Inv X pins σ H s →
  _root_.PySem.wpAt (model X.prog X.w) X.A (.func body X.env) (eval e X.env) (EP X pins σ (PD X.K η α H Q)) X.xe s
section
variable {X : Cx} {body sts : List Stmt} {st : Stmt} {e : Expr} {es : List Expr} {ρ : AEnv} {μ : Sto} {E : AEnds} {Q : DK} {pos : Pos}
theorem bSs_of (h : aSs X sts ρ μ E) : bSs X body sts ρ μ E := fun η α H σ W Ev pins s I => _root_.PySem.wpAt_of_wpAny (h η α H σ W Ev pins s I)
theorem bSs_cons (h : aS X st ρ μ { E with nx := fun ρ1 μ1 => bSs X body sts ρ1 μ1 E }) : bSs X body (st :: sts) ρ μ E := fun η α H σ W Ev pins s I => by
  refine PySem.ks_wpAt_execs_cons (_root_.PySem.wpAt_of_wpAny (thn (h η α H σ W Ev pins s I) fun f s1 q => ?_))
  cases f with
  | next =>
    obtain ⟨σ1, H1, I1, α1, μ1, ρ1, W1, l1, E1, z⟩ := q
    exact _root_.PySem.wpAt_mono (z η α1 H1 σ1 W1 E1 pins s1 I1) (fun f s' y => SP.mono (fun _ _ z => PN.le l1 z) (fun _ _ z => PD.le l1 z) (fun _ _ z => PN.le l1 z) (fun _ _ z => PN.le l1 z) y) fun _ _ y => y
  | brk => exact q
  | cont => exact q
  | ret u => exact q
theorem bSs_expr (h : bE X body e ρ μ fun _ μ1 => bSs X body sts ρ μ1 E) (hi : interactive X.env = false := by rfl) (hs : swapsWith e none pos.line X.env = pure false := by rfl) : bSs X body (.Expr e pos :: sts) ρ μ E := fun η α H σ W Ev pins s I => by
  refine PySem.ks_wpAt_execs_cons (PySem.ks_wpAt_Expr_any (_root_.PySem.wpAt_mono (h η α H σ W Ev pins s I) (fun u s1 q => ?_) fun _ _ y => y) hi hs)
  obtain ⟨v, H1, I1, r, α1, μ1, d, W1, l1, rr, z⟩ := q
  exact _root_.PySem.wpAt_mono (z η α1 H1 σ W1 (Ev.le l1) pins s1 I1) (fun f s' y => SP.mono (fun _ _ z => PN.le l1 z) (fun _ _ z => PD.le l1 z) (fun _ _ z => PN.le l1 z) (fun _ _ z => PN.le l1 z) y) fun _ _ y => y
theorem bSs_ret (h : bE X body e ρ μ E.rt) : bSs X body [.Return (some e) pos] ρ μ E := fun η α H σ W Ev pins s I => by
  refine PySem.ks_wpAt_execs_cons (PySem.ks_wpAt_Return_some (_root_.PySem.wpAt_mono (h η α H σ W Ev pins s I) (fun u s1 q => ?_) fun _ _ y => y))
  obtain ⟨v, H1, I1, r, z⟩ := q
  exact ⟨v, σ, H1, I1, r, z⟩
end
/-- what stands above the class: D's next method m is at f2 -/
structure SupM (K : PySem.W.Frag) (C D : Addr) (m : Str) (f2 : Addr) : Prop where
  sub : PySem.W.mroIn K C (.ref D) = some true
  opq : PySem.W.nsIn K PySem.cStatics "thirdparty.any" = some none
  at_ : PySem.W.ks_superIn K C D m = some (some (.ref f2))
  ty : PySem.W.typeIn K (.ref f2) = some (.type "function")
  fi : PySem.W.fnIn K f2 = true
theorem bE_super {X : Cx} {body : List Stmt} {x qual : Str} {st : Stmt} {f cc cda D C f2 : Addr} {fd fd2 : FuncData} {ps2 : List Str} {S2 : ASp} {k2 : Nat} {dvs : List V} {dv : List Value} {e : Expr} {es : List Expr} {ρ : AEnv} {μ : Sto} {Q : DK} {p0 p1 apos pos : Pos} {m : Str} {pl : Sem Bool} {i : Nat} {fs : List (Str × HF.D)} {xs : List HF.D}
    (F : FunS X.prog X.K x qual st f fd cc cda D) (hfu : X.env.func = some f) (hco : X.env.code = .ref cda) (hce : X.env.cells.lookup ("__class__" : Str) = some cc) (SM : SupM X.K C D m f2)
    (ok : AOk X.prog X.w X.K X.mg X.base k2 f2 fd2 ps2 S2) (hr : Room k2 X.A) (hb : Binds X.K fd2 ps2 dv) (hd : DefV X.K dvs dv xs)
    (hm : X.mg "super" = none) (h0 : ρ[0]? = some (some (.pr i))) (hN : X.N[0]? = some ("self" : Str)) (hi : μ[i]? = some (.ins C fs)) (h : aA X (e :: es) ρ μ fun ds μ1 => S2 (.pr i :: (ds ++ xs)) μ1 Q)
    (har : (((defArgs st).posonlyargs ++ (defArgs st).args).head?.map (·.arg)) = some "self" := by rfl)
    (hks : X.env.kindOf "super" = some .globalImplicit := by rfl) (hkc : X.env.kindOf "__class__" = some .free := by rfl) (hka : X.env.scope.names.lookup ("self" : Str) = some .local := by rfl) (hat : (m == ("__class__" : Str)) = false := by decide)
    (htop : (X.prog.main.scope.names.lookup ("super" : Str)).isSome = false)
    (hst : starEach (e :: es) X.env = (false, eval e X.env) :: starEach es X.env := by rfl) (hpl : (backTo pos (starEach es X.env)).any (·.1) = false := by rfl)
    (he : eval (.Call (.Attribute (.Call (.Name "super" p0) [] [] p1) m apos) (e :: es) [] pos) X.env = (do
      let ov ← attributeBase (.Call (.Name "super" p0) [] [] p1) m X.env (eval (.Call (.Name "super" p0) [] [] p1) X.env)
      standAt apos.atName
      let (f, first) ← holding [ov] (getMethod ov m pl)
      callWith pos f first (backTo pos (starEach (e :: es) X.env)) []) := by rfl) : bE X body (.Call (.Attribute (.Call (.Name "super" p0) [] [] p1) m apos) (e :: es) [] pos) ρ μ Q := by
  intro η α H σ W Ev pins s I
  obtain ⟨oc, od, dV, kV, doc, pm, an, ct, osl, efd, lk⟩ := F.ex
  obtain ⟨cl, cld, csl, hcell⟩ := F.cell
  obtain ⟨ccl, cdd, vs, ccs, file, tf, hcode, hvs, hfile⟩ := F.code
  obtain ⟨cdD, hD⟩ := F.dc
  obtain ⟨oD, hD1, hD2⟩ : ∃ oD, s.heap.get? D = some oD ∧ oD.data = .cls cdD := by
    unfold PySem.W.clsIn at hD
    split at hD
    · rename_i c d cd' sl ho
      cases hD
      exact ⟨_, I.kIn _ _ ho, rfl⟩
    · cases hD
  obtain ⟨ar, har1, har2⟩ : ∃ ar, ((defArgs st).posonlyargs ++ (defArgs st).args).head? = some ar ∧ ar.arg = "self" := by
    cases e : ((defArgs st).posonlyargs ++ (defArgs st).args).head? with
    | none => rw [e] at har; cases har
    | some ar => rw [e] at har; exact ⟨ar, rfl, Option.some.inj har⟩
  -- the instance
  obtain ⟨v0, hv0, r0⟩ := Ev.get 0 _ h0
  cases r0 with
  | pr ea =>
  rename_i a
  obtain ⟨dx, ws, hq, rr⟩ := W.cell i a _ ea hi
  obtain ⟨mA, O, _⟩ := ins_get I.hok hq
  obtain ⟨odx, J, _⟩ := O.look
  obtain ⟨mL, hns, hloc⟩ := I.loc
  obtain ⟨u0, ru0, hu0⟩ := hloc 0 "self" _ hN hv0 (.inl hka)
  obtain rfl : u0 = Value.ref a := ru0
  have hself : mL "self" = some (.ref a) := by
    rcases hu0 with ⟨_, z⟩ | ⟨z, _⟩
    · exact z
    · have hk : X.env.kindOf "self" = some .local := hka
      rcases z with z | z <;> rw [hk] at z <;> cases z
  refine PySem.ks_wpAt_MethodCall (pl := pl) ?_ he
  refine PySem.ks_wpAt_super_base (of := ⟨oc, od, .func fd, osl⟩) (fd := fd) (ar := ar) hks hkc hat hfu (I.kIn _ _ lk) rfl (by rw [efd]; exact har1) hco (I.kIn _ _ hcode) rfl hvs hfile htop ?_
  obtain ⟨mb, hb1, hb2⟩ := I.mod.blt
  refine PySem.W.ks_loadName_global I.ok.kind hks (Calls.loadGlobal_builtin (by rw [I.ok.glob]; exact I.mod.glob.keeps I.bk) hm (by rw [I.ok.blt]; exact hb1.keeps I.bk) ((hb2 "super" (by decide)).trans rfl) ⟨rfl, ?_⟩)
  refine wpAny_loadName_free I.ok.kind hkc hce ⟨_, I.kIn _ _ hcell, rfl⟩ ?_
  rw [har2]
  refine wpAny_loadName_local I.ok.kind hka hns hself ?_
  refine PySem.ks_wpAny_isType_cls hD1 hD2 ⟨rfl, ?_⟩
  have hnc : ∀ c, (PySem.W.instObj C dx).data ≠ .cls c := fun c z => by cases z
  obtain ⟨hh, g, dr, t, os⟩ := s
  refine PySem.ks_wpAny_call_super hD1 hD2 J.at_ J.cls hnc (PySem.W.looks_mroIn I.kIn SM.sub) fun h1 e1 k1 => ?_
  have I1 : Inv X ((hh.objs.size, PySem.W.ks_superObj D a C) :: pins) σ H ⟨h1, g, dr, t, os⟩ := pin_new I k1 (Nat.le_refl _) e1 (fun v z => nomatch z)
  obtain ⟨cd, hcC, hal⟩ : ∃ cd, PySem.W.clsIn X.K C = some cd ∧ PySem.W.alongIn X.K m ((cd.mro.dropWhile (· != .ref D)).drop 1) = some (some (.ref f2)) := by
    have := SM.at_
    unfold PySem.W.ks_superIn at this
    cases hc : PySem.W.clsIn X.K C with
    | none => rw [hc] at this; cases this
    | some cd => rw [hc] at this; exact ⟨cd, rfl, this⟩
  obtain ⟨of, hof, hofc⟩ : ∃ of, h1.get? f2 = some of ∧ of.cls = .type "function" := by
    have ht' : (X.K.lookup f2).map (·.cls) = some (.type "function") := SM.ty
    cases z : X.K.lookup f2 with
    | none => rw [z] at ht'; cases ht'
    | some of => rw [z] at ht'; exact ⟨of, I1.kIn _ _ z, Option.some.inj ht'⟩
  have hne : a ≠ C := PySem.W.ks_ne I.kIn J hcC
  refine PySem.ks_wpAny_getMethod_super e1 (PySem.W.looks_opaque I1.kIn SM.opq) (l₀ := cd.mro) (fun A Q E s k q => wpAny_bind ((PySem.W.looks_clsIn I1.kIn hcC) A _ E s k (wpAny_pure q))) rfl I1.kIn hal hof hofc hne hat ?_
  have I2 : Inv X ((h1.objs.size, PySem.W.methodObj (.ref f2) (.ref a)) :: (hh.objs.size, PySem.W.ks_superObj D a C) :: pins) σ H ⟨h1.push (PySem.W.methodObj (.ref f2) (.ref a)), g, dr, t + 1, os⟩ :=
    pin_new I1 (fun _ _ z => Heap.get?_push_of_some _ z) (Nat.le_refl _) (Heap.get?_push_size h1 rfl) (fun v z => nomatch z)
  have hbq : X.base.get? h1.objs.size = none := base_none I1 (Nat.le_refl _)
  have hqm := pin_at I2
  have hL : h1.objs.size ≠ X.env.locals := (I2.pin (h1.objs.size, PySem.W.methodObj (.ref f2) (.ref a)) (List.mem_append_right _ List.mem_cons_self)).2.2.1
  refine PySem.W.callWith_M (K := X.K) (h₀ := X.base) (first := []) I2.ok.mod.kin (news_at hL hbq hqm) List.mem_cons_self SM.fi ?_ hst hpl
  refine thn (h η α H σ W Ev pos _ _ I2) fun us s3 ⟨vs3, H3, I3, r3, α3, μ3, ds3, W3, l3, rr3, q3⟩ => ⟨⟨pin_at I3, I3.kIn⟩, ?_⟩
  have z : wpAny (model X.prog X.w) X.A (call (.ref h1.objs.size) us) (EP X ((h1.objs.size, PySem.W.methodObj (.ref f2) (.ref a)) :: (hh.objs.size, PySem.W.ks_superObj D a C) :: pins) σ (PD X.K η α H Q)) X.xe s3 := by
    have r2 : Vals ((.ref a :: vs3) ++ dvs) ((.ref a :: us) ++ dv) := (show Vals (.ref a :: vs3) (.ref a :: us) from .cons rfl r3).append hd.1
    have hsp : absSp X.K S2 ((.ref a :: vs3) ++ dvs) H3 (PD X.K η α H Q) E0 := absSp_of (vs := .ref a :: (vs3 ++ dvs)) W3 l3 (.cons (.pr (pre_get l3.pre ea)) (rr3.app (hd.2 _ _))) q3
    have hl : ((.ref a :: us) ++ dv).length = ps2.length := by rw [← r2.length]; exact ok.len _ _ _ _ hsp
    refine wpAny_call (PySem.W.method_call (pin_at I3) (codeAny_mono (ok.run X.A X.stack s3 H3 ⟨.ref a :: us, []⟩ ((.ref a :: us) ++ dv) ((.ref a :: vs3) ++ dvs) (PD X.K η α H Q) E0 hr I3.env0 (hb s3 (.ref a :: us) I3.kIn hl) r2 hsp) fun r s' hq' => ?_))
    cases r with
    | error e => exact (pass0 (X := X)) _ σ H3 s3 e s' I3 hq'
    | ok fl =>
      cases fl with
      | ret u => exact I3.after hq'
      | next => exact False.elim hq'
      | brk => exact False.elim hq'
      | cont => exact False.elim hq'
  exact thn z fun _ _ y => unpinE (unpinE y)
end HF

/-! ## A17 -/
namespace HF
open PySem PySem.Spec PyProof.Rows L2 NdefX ClX
/-! ### super() in a def with a cell of its own -/
theorem newEnv_cells {M : Model} {A : Around} {E : Value → Shared → Prop} {s : Shared} {scope : Scope} {globals : Addr} {closure cs : List (Str × Addr)} {binds : List (Str × Value)} {qual : Str} {func : Option Addr} {code : Value} {builtins : Addr} {Q : Env → Shared → Prop}
    (hcs : cellsFrom (s.heap.objs.size + 1) scope.names closure = cs) (hl : ∀ x ∈ binds, scope.names.lookup x.1 = some .local)
    (hQ : ∀ h', h'.Ns s.heap.objs.size (fun x => binds.reverse.lookup x) → Heap.SameBut s.heap.objs.size (pushCells (s.heap.push { cls := .type "frame", data := .dict #[] }) scope.names) h' →
      Q (newEnv scope s.heap.objs.size globals cs qual func code none builtins) { s with heap := h', toks := s.toks + binds.length })
    (hk : scope.kind = .function) : wpAny M A (newFunctionEnv scope globals closure binds qual func code none builtins) Q E s := by
  simp only [newFunctionEnv, Option.isSome_none, Bool.false_eq_true, if_false]
  refine wpAny_bind (wpAny_alloc ?_)
  refine wpAny_bind (wpAny_layCells _ (fun name kind cells => by cases hkc : kind == NameKind.cell <;> simp [hkc]) _ _ _ _ ?_)
  rw [show ({ s with heap := s.heap.push { cls := .type "frame", data := .dict #[] } } : Shared).heap.objs.size = s.heap.objs.size + 1 from Heap.size_push .., hcs]
  simp only [newEnv] at hQ
  refine wpAny_bind ?_
  refine wpAny_forIn_list _
    (fun rest _ s' => ∃ done h', binds = done ++ rest ∧ s' = { s with heap := h', toks := s.toks + done.length } ∧
      h'.Ns s.heap.objs.size (fun x => done.reverse.lookup x) ∧
      Heap.SameBut s.heap.objs.size (pushCells (s.heap.push { cls := .type "frame", data := .dict #[] }) scope.names) h') _ ?_ ?_ binds _
    ⟨[], _, rfl, rfl, (Heap.Ns.new s.heap (.type "frame")).keeps (pushCells_keeps _ _), Heap.SameBut.refl ..⟩
  · rintro ⟨name, v⟩ rest _ s' ⟨done, h', hb, rfl, hns, hsb⟩
    have hk' : Env.kindOf { scope, locals := s.heap.objs.size, globals, cells := cs, qual, func, code, frame := some s.heap.objs.size, builtins } name = some .local :=
      hl (name, v) (by rw [hb]; simp)
    have hp : (({ scope, locals := s.heap.objs.size, globals, cells := cs, qual, func, code, frame := some s.heap.objs.size, builtins } : Env).scope.kind == .class || (({ scope, locals := s.heap.objs.size, globals, cells := cs, qual, func, code, frame := some s.heap.objs.size, builtins } : Env).scope.kind == .module &&
        ({ scope, locals := s.heap.objs.size, globals, cells := cs, qual, func, code, frame := some s.heap.objs.size, builtins } : Env).locals != ({ scope, locals := s.heap.objs.size, globals, cells := cs, qual, func, code, frame := some s.heap.objs.size, builtins } : Env).globals)) = false := by
      show (scope.kind == .class || (scope.kind == .module && _)) = false
      rw [hk]; rfl
    simp only [storeName_local hk' hp]
    refine wpAny_bind (wpAny_nsSet hns fun h'' hns' hsb' => wpAny_pure ⟨done ++ [(name, v)], h'', by simp [hb], ?_, ?_, hsb.trans hsb'⟩)
    · simp [Nat.add_assoc]
    · rw [lookup_reverse_snoc]; exact hns'
  · rintro _ s' ⟨done, h', hb, rfl, hns, hsb⟩
    rw [List.append_nil] at hb; subst hb
    exact wpAny_pure (hQ h' hns hsb)
/-- its names: one cell cn of its own, the class cell -/
structure ScpC (N ps : List Str) (cn : Str) (st : Stmt) : Prop where
  kind : (defScope st).kind = .function
  co : (defScope st).isCoroutine = false
  gen : (defScope st).isGenerator = false
  nd : N.Nodup
  pre : N.take ps.length = ps
  par : ∀ x ∈ ps, (defScope st).names.lookup x = some .local
  cs : ∀ n cc, cellsFrom n (defScope st).names [("__class__", cc)] = [(cn, n), ("__class__", cc)]
  push : ∀ h : Heap, pushCells h (defScope st).names = h.push { cls := .type "cell", data := .cell none }
  cl : ∀ y ∈ (defScope st).names, y.2 = .cell → y.1 = cn
  fr : ∀ y ∈ (defScope st).names, y.2 = .free → y.1 = ("__class__" : Str)
  ne : cn ≠ ("__class__" : Str)
abbrev envM (qual : Str) (st : Stmt) (cn : Str) (cc cda f L : Addr) : Env := PySem.W.envX qual (defScope st) L f (.ref cda) [(cn, L + 1), ("__class__", cc)]
def mcx (CX : CXT) (P : Program) (w : World) (K : PySem.W.Frag) (mg : Str → Option Value) (base : Heap) (N : List Str) (qual : Str) (st : Stmt) (cn : Str) (cc cda f : Addr) (A : Around) (outer : List Env) (s : Shared) (H : Hp) (E : XK) : Cx where
  prog := P
  w := w
  K := K
  mg := mg
  base := base
  A := A.deeper (envM qual st cn cc cda f s.heap.objs.size)
  N := N
  s_0 := s
  H_0 := H
  env := envM qual st cn cc cda f s.heap.objs.size
  outer := outer
  stack := envM qual st cn cc cda f s.heap.objs.size :: outer
  ex := []
  calm := true
  fn := fun x => x == cn
  pn := []
  xe := fun e s' => wpAny (model P w) (A.deeper (envM qual st cn cc cda f s.heap.objs.size)) (leaving (envM qual st cn cc cda f s.heap.objs.size) e) (fun _ s'' => CX outer H s E e s'') (fun e' s'' => CX outer H s E e' s'') s'
theorem two_cells {cn : Str} {c1 cc : Addr} {y : Str} {c : Addr} (e : ([(cn, c1), ("__class__", cc)] : List (Str × Addr)).lookup y = some c) : (y = cn ∧ c = c1) ∨ (y = "__class__" ∧ c = cc) := by
  rw [List.lookup_cons] at e
  split at e
  · rename_i hb
    cases e
    exact .inl ⟨eq_of_beq hb, rfl⟩
  · rw [List.lookup_cons] at e
    split at e
    · rename_i hb
      cases e
      exact .inr ⟨eq_of_beq hb, rfl⟩
    · cases e
section
variable {P : Program} {w : World} {K : PySem.W.Frag} {mg : Str → Option Value} {base : Heap}
theorem fnC_of {x qual : Str} {st : Stmt} {cn : Str} {f cc cda D : Addr} {fd : FuncData} {N ps : List Str} {k : Nat} {sp : Sp} (F : FunS P K x qual st f fd cc cda D) (S : ScpC N ps cn st) (len : ∀ vs H Q E, sp vs H Q E → vs.length = ps.length)
    (hbody : ∀ (A : Around) (outer : List Env) (s : Shared) (H : Hp) (vs : List V) (Q : VK) (E : XK), Room k (A.deeper (envM qual st cn cc cda f s.heap.objs.size)) → sp vs H Q E → ∀ s1, Inv (mcx CX0 P w K mg base N qual st cn cc cda f A outer s H E).nox [] (L2.start N vs) H s1 →
      _root_.PySem.wpAt (model P w) (A.deeper (envM qual st cn cc cda f s.heap.objs.size)) (.func (defBody st) (envM qual st cn cc cda f s.heap.objs.size)) (execs (defBody st) (envM qual st cn cc cda f s.heap.objs.size))
        (SP (mcx CX0 P w K mg base N qual st cn cc cda f A outer s H E).nox [] { nx := fun _ H' => Q .non H', rt := Q }) (fun _ _ => False) s1) : FnOk P w K mg base CX0 (k + 1) f fd ps sp := by
  obtain ⟨oc, od, dV, kV, doc, pm, an, ct, osl, efd, lk⟩ := F.ex
  refine ⟨len, fun A outer s H args us vs Q E hr e0 hb r hsp => ?_⟩
  have hl := len _ _ _ _ hsp
  have KX : K.In s.heap := e0.mod.kin.keeps fun b o e => (e0.bs b o e).1
  have lim : s.heap.NoLimit := e0.mod.nolimit.keeps fun b o e => (e0.bs b o e).1
  have hcdr := PySem.W.codeRec_of KX F.cd
  subst efd
  refine codeAny_call_function hr.depth (KX _ _ lk) rfl S.co S.gen rfl hcdr (hb _ _ _ _ ?_)
  refine newEnv_cells (S.cs _ cc) (fun ⟨n, _⟩ hy => S.par n (List.of_mem_zip hy).1) (fun h₁ hns hsb => ?_) S.kind
  rw [S.push] at hsb
  have szp : (s.heap.push ({ cls := .type "frame", data := .dict #[] } : Obj)).objs.size = s.heap.objs.size + 1 := Heap.size_push ..
  have kp : ∀ b o, s.heap.get? b = some o → h₁.get? b = some o := fun b o e => hsb.extBut b o (Nat.ne_of_lt (Heap.lt_size e)) (Heap.get?_push_of_some _ (Heap.get?_push_of_some _ e))
  have hnew : h₁.IsCell (s.heap.objs.size + 1) none := by
    refine ⟨({ cls := .type "cell", data := .cell none } : Obj), hsb.extBut _ _ (Nat.succ_ne_self _) ?_, rfl⟩
    have := Heap.get?_push_size (s.heap.push ({ cls := .type "frame", data := .dict #[] } : Obj)) (o := ({ cls := .type "cell", data := .cell none } : Obj)) rfl
    rwa [szp] at this
  refine ⟨lim.keeps kp, ?_⟩
  show codeAny _ _ (.func (defBody st) (envM qual st cn cc cda f s.heap.objs.size)) _ _
  obtain ⟨cl, cld, csl, hcell⟩ := F.cell
  have hccH : H cc = none := (e0.bs cc _ (e0.mod.kin _ _ hcell)).2
  have hcc : s.heap.IsCell cc (some (.ref D)) := ⟨_, KX _ _ hcell, rfl⟩
  have hcclt : cc < s.heap.objs.size := hcc.lt
  have noA : ∀ b : Addr, b ∉ (mcx CX0 P w K mg base N qual st cn cc cda f A outer s H E).ex := fun b z => absurd (show b ∈ ([] : List Addr) from z) (by simp)
  have I : Inv (mcx CX0 P w K mg base N qual st cn cc cda f A outer s H E) [] (L2.start N vs) H { s with heap := h₁, toks := s.toks + (ps.zip us).length } := by
    have hpl : ps.length ≤ N.length := by have := congrArg List.length S.pre; rw [List.length_take] at this; omega
    refine ⟨⟨e0.mod, S.kind, rfl, rfl, Nat.le_refl _, fun y z c e1 e2 => ?_, fun y hy => ?_, fun y c z e => ?_, fun _ => hr.hd, Around.frames_deeper e0.frames, .inr ⟨rfl, rfl⟩, fun b z => absurd z (noA b), e0.bs, e0.bsz, fun b _ _ => noA b,
        fun b z => absurd z (noA b), e0.funs, e0.frf⟩,
      rfl, e0.bare, Un.kept kp, ⟨_, hns, fun i y v e1 e2 e3 => ?_⟩, fun y c e => ?_, e0.hok.fresh (Nat.le_refl _), fun y c e => ?_, fun q hq => absurd (show q ∈ ([] : List (Addr × Obj)) ++ [] from hq) (by simp), e0.hok.kept kp, ?_⟩
    · rcases two_cells e1 with ⟨a1, a2⟩ | ⟨a1, a2⟩ <;> rcases two_cells e2 with ⟨b1, b2⟩ | ⟨b1, b2⟩
      · rw [a1, b1]
      · exact absurd (a2.symm.trans b2) (Nat.ne_of_gt (Nat.lt_succ_of_lt hcclt))
      · exact absurd (b2.symm.trans a2) (Nat.ne_of_gt (Nat.lt_succ_of_lt hcclt))
      · rw [a1, b1]
    · have hy : (defScope st).names.lookup y = some .cell ∨ (defScope st).names.lookup y = some .free := hy
      show ∃ c, ([(cn, s.heap.objs.size + 1), ("__class__", cc)] : List (Str × Addr)).lookup y = some c
      rcases hy with hy | hy
      · have hyc : y = cn := S.cl (y, .cell) (PySem.mem_of_lookup hy) rfl
        rw [hyc]
        exact ⟨s.heap.objs.size + 1, by rw [List.lookup_cons, beq_self_eq_true]⟩
      · have hyc : y = "__class__" := S.fr (y, .free) (PySem.mem_of_lookup hy) rfl
        rw [hyc]
        refine ⟨cc, ?_⟩
        rw [List.lookup_cons]
        have : (("__class__" : Str) == cn) = false := beq_eq_false_iff_ne.mpr (Ne.symm S.ne)
        rw [this]
        simp
    · have hy : y = cn := eq_of_beq (show (y == cn) = true from z)
      rcases two_cells e with ⟨a1, a2⟩ | ⟨a1, a2⟩
      · rw [a2]; exact Nat.le_succ _
      · exact absurd (hy.symm.trans a1) S.ne
    · have e1 : N[i]? = some y := e1
      have hi : i < vs.length := by
        unfold L2.start at e2
        by_cases hi : i < vs.length
        · exact hi
        · rw [List.getElem?_append_right (by simpa using hi), List.getElem?_replicate] at e2
          split at e2 <;> cases e2
      have ha : vs[i]? = some v := by
        unfold L2.start at e2
        rw [List.getElem?_append_left (by simpa using hi), List.getElem?_map] at e2
        cases e : vs[i]? with
        | none => rw [e] at e2; cases e2
        | some a => rw [e] at e2; cases e2; rfl
      obtain ⟨u, hu, rv⟩ := r.get ha
      have hp : ps[i]? = some y := by
        rw [← S.pre, List.getElem?_take_of_lt (by omega)]; exact e1
      have ndP : ps.Nodup := by
        have q := S.nd.sublist (List.take_sublist ps.length N)
        rwa [S.pre] at q
      exact ⟨u, rv, .inl ⟨S.par y (List.mem_of_getElem? hp), zip_look ndP hp hu⟩⟩
    · rcases two_cells e with ⟨a1, a2⟩ | ⟨a1, a2⟩
      · rw [a2]; exact ⟨_, hnew⟩
      · rw [a2]; exact ⟨_, hcc.keeps kp⟩
    · rcases two_cells e with ⟨a1, a2⟩ | ⟨a1, a2⟩
      · rw [a2]; exact e0.hok.fresh (Nat.le_succ _)
      · rw [a2]; exact hccH
    · show (L2.start N vs).length = N.length
      unfold L2.start
      rw [List.length_append, List.length_map, List.length_replicate]
      omega
  refine PySem.ks_codeAny_funcAt (_root_.PySem.wpAt_mono (hbody A outer s H vs Q E (hr.deeper _) hsp _ (I.wish _)) (fun fl s' hs => ?_) fun e s' hs => hs.elim)
  have hs := SP.unwish hs
  have fin : ∀ {σ' : L2.St} {H' : Hp} {v : V} {u : Value}, Inv (mcx CX0 P w K mg base N qual st cn cc cda f A outer s H E) [] σ' H' s' → L2.RelV v u → Q v H' → CE outer P w H s Q u s' :=
    fun {σ' H' v u} J rv q => ⟨v, H', J.os, J.bare, J.base, J.hok, rv, q⟩
  cases fl with
  | ret u =>
    obtain ⟨v, σ', H', J, rv, q⟩ := hs
    exact fin J rv q
  | next =>
    obtain ⟨σ', H', J, q⟩ := hs
    exact fin (v := V.non) (u := Value.none) J rfl q
  | brk =>
    obtain ⟨_, _, _, q⟩ := hs
    exact False.elim q
  | cont =>
    obtain ⟨_, _, _, q⟩ := hs
    exact False.elim q
/-- the two, without addresses -/
theorem fnAS {x qual : Str} {st : Stmt} {f cc cda D : Addr} {fd : FuncData} {N ps : List Str} {k : Nat} {S : ASp} (F : FunS P K x qual st f fd cc cda D) (Sc : ScpS N ps st) (len : ∀ ds μ R, S ds μ R → ds.length = ps.length)
    (hbody : ∀ (A : Around) (outer : List Env) (s : Shared) (H : Hp) (E : XK) (ds : List HF.D) (μ : Sto) (R : DK), Room k (A.deeper (envF (nfS x qual st cc cda) f s.heap.objs.size)) → S ds μ R →
      bSs (ncx CX0 P w K mg base N (nfS x qual st cc cda) f A outer s H E).nox (defBody st) (defBody st) (ds.map some ++ (none :: List.replicate (N.length - ds.length - 1) none)) μ (ends μ R)) : AOk P w K mg base (k + 1) f fd ps S := by
  refine fnS_of F Sc (fun vs H Q E h => ?_) (fun A outer s H vs Q E hr h s1 I => ?_)
  · obtain ⟨η, α, μ, ds, R, W, r, hs, _⟩ := h
    rw [r.len]
    exact len ds μ R hs
  · obtain ⟨η, α, μ, ds, R, W, r, hs, q⟩ := h
    have fin : ∀ v H', PD K η α H (fun d μ' => ∃ d2 μ2, Exit μ d μ' d2 μ2 ∧ R d2 μ2) v H' → Q v H' := fun v H' ⟨α', μ', d, W', l', r', d2, μ2, x, hR⟩ => by
      obtain ⟨α2, W2, l2, r2⟩ := x.ok W W' l' r'
      exact q d2 μ2 hR v H' α2 W2 l2 r2
    have hlv := r.len
    have Ev : EnvR K α η H (ds.map some ++ (none :: List.replicate (N.length - ds.length - 1) none)) (startF N vs [none]) := by
      refine ⟨by unfold startF; simp [hlv], fun i d h => ?_⟩
      by_cases hi : i < ds.length
      · rw [List.getElem?_append_left (by simpa using hi), List.getElem?_map] at h
        cases e : ds[i]? with
        | none => rw [e] at h; cases h
        | some d' =>
          rw [e] at h
          cases h
          obtain ⟨v, hv, rv⟩ := r.get e
          refine ⟨v, ?_, rv⟩
          unfold startF
          rw [List.getElem?_append_left (by rw [List.length_map, hlv]; exact hi), List.getElem?_map, hv]
          rfl
      · rw [List.getElem?_append_right (by simpa using hi)] at h
        rw [← List.replicate_succ, List.getElem?_replicate] at h
        split at h <;> cases h
    refine _root_.PySem.wpAt_mono (hbody A outer s H E ds μ R hr hs η α H _ W Ev [] s1 I) (fun fl s' z => SP.mono (D := conc K η α H (ends μ R)) (fun σ H' z => ?_) (fun v H' z => fin v H' z) (fun σ H' ⟨_, _, _, _, _, _, z⟩ => z.elim) (fun σ H' ⟨_, _, _, _, _, _, z⟩ => z.elim) z) fun _ _ z => z
    obtain ⟨α', μ', ρ', W', l', E', d2, μ2, x, hR⟩ := z
    exact fin .non H' ⟨α', μ', .non, W', l', .non, d2, μ2, x, hR⟩
theorem fnAC {x qual : Str} {st : Stmt} {cn : Str} {f cc cda D : Addr} {fd : FuncData} {N ps : List Str} {k : Nat} {S : ASp} (F : FunS P K x qual st f fd cc cda D) (Sc : ScpC N ps cn st) (len : ∀ ds μ R, S ds μ R → ds.length = ps.length)
    (hbody : ∀ (A : Around) (outer : List Env) (s : Shared) (H : Hp) (E : XK) (ds : List HF.D) (μ : Sto) (R : DK), Room k (A.deeper (envM qual st cn cc cda f s.heap.objs.size)) → S ds μ R →
      bSs (mcx CX0 P w K mg base N qual st cn cc cda f A outer s H E).nox (defBody st) (defBody st) (startA N.length ds) μ (ends μ R)) : AOk P w K mg base (k + 1) f fd ps S := by
  refine fnC_of F Sc (fun vs H Q E h => ?_) (fun A outer s H vs Q E hr h s1 I => ?_)
  · obtain ⟨η, α, μ, ds, R, W, r, hs, _⟩ := h
    rw [r.len]
    exact len ds μ R hs
  · obtain ⟨η, α, μ, ds, R, W, r, hs, q⟩ := h
    have fin : ∀ v H', PD K η α H (fun d μ' => ∃ d2 μ2, Exit μ d μ' d2 μ2 ∧ R d2 μ2) v H' → Q v H' := fun v H' ⟨α', μ', d, W', l', r', d2, μ2, x, hR⟩ => by
      obtain ⟨α2, W2, l2, r2⟩ := x.ok W W' l' r'
      exact q d2 μ2 hR v H' α2 W2 l2 r2
    refine _root_.PySem.wpAt_mono (hbody A outer s H E ds μ R hr hs η α H _ W (start_ok r) [] s1 I) (fun fl s' z => SP.mono (D := conc K η α H (ends μ R)) (fun σ H' z => ?_) (fun v H' z => fin v H' z) (fun σ H' ⟨_, _, _, _, _, _, z⟩ => z.elim) (fun σ H' ⟨_, _, _, _, _, _, z⟩ => z.elim) z) fun _ _ z => z
    obtain ⟨α', μ', ρ', W', l', E', d2, μ2, x, hR⟩ := z
    exact fin .non H' ⟨α', μ', .non, W', l', .non, d2, μ2, x, hR⟩
end
end HF

/-! ## A18 -/
namespace HF
open PySem PySem.Spec PyProof.Rows L2
/-! ### a walk over a dict: it is locked -/
section
variable {X : Cx} {e o i tg : Expr} {ρ : AEnv} {μ : Sto} {Q : DK} {pos : Pos}
theorem aE_lock {j : Nat} {kvs : List (Key × D)} (hj : μ[j]? = some (.dK kvs)) (h : ∀ od ws, aE X e ρ (μ.set j (.fK od ws kvs)) fun d μ' => μ'[j]? = some (.fK od ws kvs) ∧ Q d (μ'.set j (.dK kvs))) : aE X e ρ μ Q := fun η α H σ W Ev => by
  obtain ⟨a, ea, ws, hq, rr⟩ := W.get hj
  have ha := List.mem_of_getElem? ea
  refine tE_of (pe_lock peE) ⟨a, .dK ws, hq, trivial, fun od => ?_⟩
  have mu : ∀ o, msk α η (upd H a o) = msk α η H := fun o => msk_upd ha
  obtain ⟨W1, l1⟩ := W.write ea (o := .frz od (.dK ws)) (c := .fK od ws kvs) ⟨upd_same, by rw [mu]; exact rr⟩
  refine tE_mono (h od ws η α _ σ W1 (Ev.le l1)) fun v H' ⟨α', μ', d, W2, l2, r2, g, q⟩ => ?_
  have ea2 := pre_get l2.pre ea
  obtain ⟨hq2, rr2⟩ := W2.cell j a _ ea2 g
  obtain ⟨W3, l3⟩ := W2.write ea2 (o := .dK ws) (c := .dK kvs) ⟨ws, upd_same, by rw [msk_upd (List.mem_of_getElem? ea2)]; exact rr2⟩
  exact ⟨hq2, α', _, d, W3, l1.trans (l2.trans l3), r2.le l3, q⟩
theorem aI_keysF {j : Nat} {od : Obj} {ws : List (Key × V)} {kvs : List (Key × D)} {R : AIt → Sto → Prop} (ho : EV X o ρ μ (.pr j)) (hj : μ[j]? = some (.fK od ws kvs)) (h : R ⟨kvs.map fun p => kD p.1, fun μ' => μ'[j]? = some (.fK od ws kvs)⟩ μ) : aI X tg o ρ μ R := fun η α H σ W Ev pins s I =>
  (pi_keys (tg := tg) peE).run pins s σ H _ I (aE_then W Ev ho fun v H1 α1 μ1 d W1 l1 E1 r1 ⟨e1, e2⟩ => by
    subst e1 e2
    cases r1 with
    | pr ea =>
      rename_i a
      obtain ⟨hq, rr⟩ := W1.cell j a _ ea hj
      refine ⟨a, od, rfl, .inl ⟨ws, hq, α1, _, _, W1, l1, ?_, h⟩⟩
      intro ζ i α2 μ2 H2 W2 p2 s2 hc
      obtain ⟨hq2, rr2⟩ := W2.cell j a _ (pre_get p2 ea) hc
      refine ⟨fun d hd => ?_, fun hi => ⟨hq2, by rw [rr2.len]; rw [List.length_map] at hi; exact hi⟩⟩
      rw [List.getElem?_map] at hd
      cases hk : kvs[i]? with
      | none => rw [hk] at hd; cases hd
      | some p =>
        rw [hk] at hd
        cases hd
        have hlt : i < ws.length := by rw [rr2.len]; exact (List.getElem?_eq_some_iff.mp hk).1
        refine ⟨⟨hq2, hlt⟩, fun y H3 ⟨e3, k, v, hkv, hy⟩ => ?_⟩
        subst e3 hy
        have hkk : k = p.1 := by
          have : ∀ {ws : List (Key × V)} {kvs : List (Key × D)} {i : Nat}, RepKV X.K α2 (msk α2 (ζ ++ η) H3) ws kvs → ws[i]? = some (k, v) → kvs[i]? = some p → k = p.1 := by
            intro ws kvs i r
            induction r generalizing i with
            | nil => intro z; cases z
            | cons a t ih =>
              intro h1 h2
              cases i with
              | zero =>
                cases h1; cases h2
                exact a.1
              | succ i => exact ih (by simpa using h1) (by simpa using h2)
          exact this rr2 hkv hk
        rw [hkk]
        have hrep : ∀ q : Key, Rep X.K α2 (msk α2 (ζ ++ η) H3) (kV q) (kD q) := fun q => by
          cases q with
          | inl n => exact .int
          | inr x => exact .str
        exact ⟨W2, Le.refl, hrep p.1⟩)
theorem ev_dgetF {j : Nat} {od : Obj} {ws : List (Key × V)} {kvs : List (Key × D)} {y d : D} {key : Key} (hu : X.A.units + 1 < cLine) (ho : EV X o ρ μ (.pr j)) (hi : EV X i ρ μ y) (hj : μ[j]? = some (.fK od ws kvs)) (hk : y.key = some key) (hd : valD kvs key = some d)
    (hs : NoSl i := by exact fun _ _ => rfl) : EV X (.Subscript o i pos) ρ μ d := fun η α H σ W Ev =>
  tE_of (pe_dget hu peE peE hs) (aE_then W Ev ho fun u H1 α1 μ1 d1 W1 l1 E1 r1 ⟨e1, e2⟩ => by
    subst e1 e2
    refine aE_then W1 E1 hi fun w H2 α2 μ2 d2 W2 l2 E2 r2 ⟨e1, e2⟩ => ?_
    subst e1 e2
    have r1' := r1.le l2
    cases r1' with
    | pr ea =>
      rename_i a
      obtain ⟨hq, rr⟩ := W2.cell j a _ ea hj
      have hv := rr.val (k := key)
      rw [hd] at hv
      obtain ⟨v, hv, rv⟩ := hv
      refine ⟨a, v, rfl, ?_, fin_le W2 (l1.trans l2) rv ⟨rfl, rfl⟩⟩
      rw [r2.key hk, ← hv]
      exact .inl ⟨ws, key, .inr ⟨od, hq⟩, rfl, rfl⟩)
end
end HF

/-! ## A19 -/
namespace HF
open PySem PySem.Spec PyProof.Rows L2
/-- tuples of ints, in the order of Python -/
def tkey (k : List Int) : List (Int ⊕ List Nat) := k.map Sum.inl
def tLt (a b : List Int) : Bool := lexLt itemOrd (tkey a) (tkey b)
theorem tLt_irrefl (a : List Int) : tLt a a = false := (listOrd itemOrd).irrefl _
theorem tkey_inj : ∀ {a b : List Int}, tkey a = tkey b → a = b
  | [], [], _ => rfl
  | [], _ :: _, h => by cases h
  | _ :: _, [], h => by cases h
  | x :: a, y :: b, h => by
    have h1 : (Sum.inl x : Int ⊕ List Nat) :: tkey a = Sum.inl y :: tkey b := h
    injection h1 with h1 h2
    injection h1 with h1
    rw [h1, tkey_inj h2]
theorem tLt_total {a b : List Int} (h1 : tLt a b = false) (h2 : tLt b a = false) : a = b := tkey_inj ((listOrd itemOrd).total _ _ h1 h2)
theorem tLt_trans {a b c : List Int} (h1 : tLt a b = true) (h2 : tLt b c = true) : tLt a c = true := (listOrd itemOrd).trans _ _ _ h1 h2
theorem tLt_asymm {a b : List Int} (h1 : tLt a b = true) : tLt b a = false := by
  cases h : tLt b a with
  | false => rfl
  | true => rw [← tLt_irrefl a, ← tLt_trans h1 h]
theorem tSort_unique {l l' : List (List Int)} (p : l.Perm l') (h : l.Pairwise fun a b => tLt b a = false) (h' : l'.Pairwise fun a b => tLt b a = false) : l = l' :=
  List.Perm.eq_of_pairwise (le := fun a b => tLt b a = false) (fun a b _ _ x y => tLt_total y x) h h' p
theorem out_lex {κ : KeyKind} {arr : Array PyProof.Rows.Keyed} {vs : List Value} (hp : arr.Perm (pairsOf vs)) (hs : SortedToK κ arr (pairsOf vs).size) :
    (arr.map (·.2)).toList.Perm vs ∧ (arr.map (·.2)).toList.Pairwise (fun u v => κ.kle ((κ.keyOf u).getD κ.dflt) ((κ.keyOf v).getD κ.dflt)) := by
  have h2 : arr.toList.Perm (vs.zip vs) := by
    have := hp.toList
    rw [pairsOf_toList] at this
    exact this
  have m : ∀ p ∈ arr.toList, p.1 = p.2 := fun p hp => (mem_zip_self (h2.mem_iff.mp hp)).1
  rw [Array.toList_map]
  refine ⟨?_, ?_⟩
  · have z := h2.map Prod.snd
    rw [List.map_snd_zip (Nat.le_refl _)] at z
    exact z
  · rw [List.pairwise_map]
    rw [List.pairwise_iff_getElem]
    intro i j hi hj hij
    have hj' : j < (pairsOf vs).size := by rw [← hp.size_eq]; simpa using hj
    have h := hs i j (Nat.le_of_lt hij) hj'
    have e : ∀ k (hk : k < arr.toList.length), KK κ arr k = (κ.keyOf arr.toList[k].2).getD κ.dflt := fun k hk => by
      unfold KK
      have hk' : k < arr.size := by simpa using hk
      rw [Array.getElem?_eq_getElem hk']
      have := m arr.toList[k] (List.getElem_mem _)
      rw [← this]
      rfl
    rw [e i hi, e j hj] at h
    exact h
theorem tupItems_ints : ∀ {vs : List Value} {k : List Int} (i : Nat), IntsAre vs k → tupItems (fun _ => false) i vs = some (tkey k)
  | _, _, _, .nil => rfl
  | _, _, i, .cons n t r => by
    show (if false = true then none else (tupItems (fun _ => false) (i + 1) _).map (Sum.inl n :: ·)) = _
    rw [if_neg Bool.false_ne_true, tupItems_ints (i + 1) r]
    rfl
theorem tupKeyC_of {h : Heap} {v : Value} {k : List Int} (t : TS.TupInts h v k) : PyProof.Rows.G.tupKeyC h (fun _ => false) v = some (tkey k) := by
  obtain ⟨b, items, rfl, ⟨o, ho, hc, n, hd⟩, hi⟩ := t
  unfold PyProof.Rows.G.tupKeyC PyProof.Rows.G.isTupObj tupKey
  simp only [ho, hc, hd]
  rw [if_pos (by decide)]
  exact tupItems_ints 0 hi
theorem tupOf_of {h : Heap} {v : Value} {k : List Int} (t : TS.TupInts h v k) (hk : k ≠ []) : ∃ f, TupOf h (fun _ => false) v f := by
  obtain ⟨b, items, rfl, ⟨o, ho, hc, n, hd⟩, hi⟩ := t
  generalize hl : items.toList = l at hi
  cases hi with
  | nil => exact absurd rfl hk
  | @cons n0 t0 vs ns r =>
    refine ⟨.int n0 t0, b, o, items, n, rfl, ho, hc, hd, ?_, fun _ => ⟨n0, t0, rfl⟩, fun z => by cases z⟩
    rw [← Array.getElem?_toList, hl]
    rfl
theorem tupsOf_of {h : Heap} : ∀ {vs : List Value}, (∀ v ∈ vs, ∃ k, TS.TupInts h v k ∧ k ≠ []) → ∃ fs, TupsOf h (fun _ => false) vs fs
  | [], _ => ⟨[], .nil⟩
  | v :: vs, x => by
    obtain ⟨k, t, hk⟩ := x v List.mem_cons_self
    obtain ⟨f, tf⟩ := tupOf_of t hk
    obtain ⟨fs, r⟩ := tupsOf_of (vs := vs) fun u hu => x u (List.mem_cons_of_mem _ hu)
    exact ⟨f :: fs, .cons tf r⟩
section
variable {P : Program} {w : World} {A : Around} {E : Value → Shared → Prop} {s : Shared}
theorem call_sort_tupsL {a : Addr} {vs : List Value} {n : Nat} {Q : Value → Shared → Prop} (ho : s.heap.get? a = some (seqObj "list" vs.toArray n)) (h64 : vs.length < 64) (x : ∀ v ∈ vs, ∃ k, TS.TupInts s.heap v k ∧ k ≠ [])
    (h : ∀ out : Array Value, out.toList.Perm vs → out.toList.Pairwise (fun u v => ∀ k l, TS.TupInts s.heap u k → TS.TupInts s.heap v l → tLt l k = false) → Q .none { s with heap := sortedHeap s.heap a vs out }) :
    wpAny (model P w) A (call (.builtin "list.sort") [.ref a]) Q E s := by
  obtain ⟨fs, hf⟩ := tupsOf_of x
  refine wpAny_call_entry slot_list_sort ⟨_, ho, rfl⟩ entry_list_sort (PyProof.Rows.G.list_sort_tups ho hf (fun v hv => ?_) (by rw [sizeLine_eq]; omega) fun st' h1 h2 _ => ⟨_, rfl, ?_⟩) (args_list_sort _)
  · obtain ⟨k, t, _⟩ := x v hv
    exact ⟨_, tupKeyC_of t⟩
  · obtain ⟨p1, p2⟩ := out_lex h1 h2
    refine h _ p1 (p2.imp fun {u v} q k l tu tv => ?_)
    have q' : lexLt itemOrd ((PyProof.Rows.G.tupKeyC s.heap (fun _ => false) v).getD []) ((PyProof.Rows.G.tupKeyC s.heap (fun _ => false) u).getD []) = false := q
    rw [tupKeyC_of tu, tupKeyC_of tv] at q'
    exact q'
theorem sorted_setL {a : Addr} {L : List (Addr × List Int)} {es : Array (Int × Value)} {ep : Nat} {t : SetTable} {Q : Value → Shared → Prop} (R : SetTR P w s.heap a L es ep t) (hh : A.handled = none) (hB : ∀ p ∈ L, p.2 ≠ [])
    (hQ : ∀ s' p (out : Array Value) (c : Nat) (L' : List (Addr × List Int)), (∀ b o, s.heap.get? b = some o → s'.heap.get? b = some o) → s'.gens = s.gens → s'.os = s.os → s.heap.objs.size ≤ p →
      s'.heap.get? p = some (seqObj "list" out c) → out.toList = L'.map (fun q => Value.ref q.1) → L'.Perm L → L'.Pairwise (fun q r => tLt r.2 q.2 = false) → Q (.ref p) s') :
    wpAny (model P w) A (call (.builtin "sorted") [.ref a]) Q E s := by
  obtain ⟨o, ho, hex, hd⟩ := R.ob
  have hsz := R.size
  have hfew := R.few
  refine Calls.call_function_entry kind_sorted plain_sorted entry_sorted (args_sorted1 _) ?_
  unfold Builtin.«sorted»
  refine wpAny_bind (m := checkCount "sorted" 1 1 _) (wpAny_pure ?_)
  refine wpAny_bind (collect_set (A := A.in1) hh ⟨o, ho, hex.1, hd⟩ R.fits (by unfold scanBound; omega) R.tab.ris R.led fun s1 vs k1 hz g1 o1 pm => ?_)
  have hes : es.toList.map (·.2) = L.map fun q => Value.ref q.1 := by
    rw [R.rows]
    unfold rowsOf
    rw [List.map_map] <;> rfl
  rw [hes] at pm
  have ord : ∀ vs : List Value, (∀ v ∈ vs, ∃ q ∈ L, v = Value.ref q.1) → ∃ L1 : List (Addr × List Int), vs = L1.map (fun q => Value.ref q.1) ∧ ∀ q ∈ L1, q ∈ L := by
    intro vs
    induction vs with
    | nil => intro _; exact ⟨[], rfl, fun q hq => (by cases hq)⟩
    | cons v vs ih =>
      intro hv
      obtain ⟨q, hq, e⟩ := hv v List.mem_cons_self
      obtain ⟨L1, e1, hs⟩ := ih fun u hu => hv u (List.mem_cons_of_mem _ hu)
      refine ⟨q :: L1, by rw [List.map_cons, e, e1], fun r hr => ?_⟩
      rcases List.mem_cons.mp hr with z | z
      · rw [z]; exact hq
      · exact hs r z
  have one : ∀ q ∈ L, ∀ r ∈ L, q.1 = r.1 → q = r := fun q hq r hr e => by
    have a1 := R.tup q hq
    have a2 := R.tup r hr
    rw [e] at a1
    have e2 : q.2 = r.2 := a1.inj a2
    exact Prod.ext e e2
  have perm_of : ∀ L1 : List (Addr × List Int), (∀ q ∈ L1, q ∈ L) → (L1.map (fun q => Value.ref q.1)).Perm (L.map fun q => Value.ref q.1) → L1.Perm L := by
    intro L1 hs pm1
    have nL : L.Nodup := nodup_of_map R.nd
    have nref : (L.map fun q => Value.ref q.1).Nodup := by
      refine List.pairwise_map.mpr (List.Pairwise.imp_of_mem (fun {q r} hq hr hne e => ?_) nL)
      injection e with e
      exact hne (one q hq r hr e)
    have n1 : L1.Nodup := nodup_of_map (pm1.nodup_iff.mpr nref)
    refine (List.perm_ext_iff_of_nodup n1 nL).mpr fun q => ⟨hs q, fun hq => ?_⟩
    have hm : Value.ref q.1 ∈ L1.map (fun q => Value.ref q.1) := pm1.mem_iff.mpr (List.mem_map.mpr ⟨q, hq, rfl⟩)
    obtain ⟨r, hr, e⟩ := List.mem_map.mp hm
    injection e with e
    rw [← one r (hs r hr) q hq e]
    exact hr
  have hvl : vs.length < 64 := by rw [pm.length_eq, List.length_map]; exact hfew
  refine wpAny_bind (wpAny_newList ?_ (by rw [sizeLine_eq]; omega))
  have hoL : (s1.heap.push (seqObj "list" vs.toArray 0)).get? s1.heap.objs.size = some (seqObj "list" vs.toArray 0) := Heap.get?_push_size _ rfl
  have tk : ∀ q ∈ L, TS.TupInts (s1.heap.push (seqObj "list" vs.toArray 0)) (.ref q.1) q.2 := fun q hq => tupInts_of (P := P) (w := w) (isT_keep (R.tup q hq) fun b u e => Heap.get?_push_of_some _ (k1 b u e))
  have x : ∀ v ∈ vs, ∃ k, TS.TupInts (s1.heap.push (seqObj "list" vs.toArray 0)) v k ∧ k ≠ [] := fun v hv => by
    obtain ⟨q, hq, e⟩ := List.mem_map.mp (pm.mem_iff.mp hv)
    rw [← e]
    exact ⟨q.2, tk q hq, hB q hq⟩
  refine wpAny_bind (wpAny_holding (call_sort_tupsL (s := { s1 with heap := s1.heap.push (seqObj "list" vs.toArray 0) }) hoL hvl x fun out a1 a2 => ?_))
  obtain ⟨c, hc⟩ := sortedHeap_at (vs := vs) (out := out) hoL
  obtain ⟨L', e', hs'⟩ := ord out.toList fun v hv => by
    obtain ⟨q, hq, e⟩ := List.mem_map.mp (pm.mem_iff.mp (a1.mem_iff.mp hv))
    exact ⟨q, hq, e.symm⟩
  have pL : L'.Perm L := perm_of L' hs' (by rw [← e']; exact a1.trans pm)
  have pw : L'.Pairwise (fun q r => tLt r.2 q.2 = false) := by
    rw [e'] at a2
    exact List.Pairwise.imp_of_mem (fun {q r} hq hr hle => hle _ _ (tk q (hs' q hq)) (tk r (hs' r hr))) (List.pairwise_map.mp a2)
  refine wpAny_pure ⟨_, rfl, hQ _ s1.heap.objs.size out c L' (fun b u e => ?_) g1 o1 hz hc e' pL pw⟩
  have q := k1 b u e
  have hlt := Heap.lt_size q
  show (sortedHeap (s1.heap.push (seqObj "list" vs.toArray 0)) s1.heap.objs.size vs out).get? b = some u
  rw [sortedHeap_old (Nat.ne_of_lt hlt) (by rw [size_push']; exact Nat.lt_succ_of_lt hlt)]
  exact Heap.get?_push_of_some _ q
theorem call_set_tupsT {l : Addr} {items : Array Value} (ks : List (Addr × List Int)) {Q : Value → Shared → Prop} (hh : A.handled = none) (hl : s.heap.IsTuple l items) (hit : items.toList = ks.map fun p => Value.ref p.1)
    (hk : ∀ p ∈ ks, IsT P w s.heap p.2 p.1) (hfew : ks.length < 64) (hu : A.units + 3 < cLine)
    (h : ∀ (h' : Heap) (tk : Nat) L es ep t, SetTR P w h' s.heap.objs.size L es ep t → Got ks ks.length L → (∀ b o, s.heap.get? b = some o → h'.get? b = some o) → Q (.ref s.heap.objs.size) { s with heap := h', toks := tk }) :
    wpAny (model P w) A (call (.type "set") [.ref l]) Q E s := by
  have hisz : items.size = ks.length := by
    have q := congrArg List.length hit
    rw [Array.length_toList, List.length_map] at q
    exact q
  obtain ⟨c, tl, hmro⟩ := F.called_set.mro
  have hmade := F.called_set.made
  have hsub := F.called_set.sub
  refine wpAny_call (codeAny_of_tree ?_)
  show wpAny _ _ (callAny (.type "set") _) _ _ _
  refine wpAny_pure ⟨Code.quiet_builtin _ (by decide +kernel), codeAny_builtin F.entry_type_call ?_⟩
  rw [Around.under_plain (weight_type_call_type "set" [.ref l] []) rfl]
  have h1 := F.called_set.notType
  have h2 := F.called_set.canCreate
  have hct := F.typeCall_set_1 (.ref l)
  repeat (any_goals (first | assumption | wp_step))

  refine codeAny_mono (code_set_led1 (.ref l) (E := E) (Q₁ := fun obj s₁ => obj = .ref s.heap.objs.size ∧ s₁ = { s with heap := s.heap.push { cls := .type "set", dict := none, data := .set #[] 0 (.fresh 0 0 (!w.params.followText "set-order")) } }) ⟨rfl, rfl⟩) fun r s₁ hr => ?_
  cases r with
  | error e => exact hr
  | ok fl =>
    cases fl with
    | ret obj =>
      obtain ⟨rfl, rfl⟩ := hr
      have hS : (s.heap.push { cls := .type "set", dict := none, data := .set #[] 0 (.fresh 0 0 (!w.params.followText "set-order")) }).get? s.heap.objs.size = some { cls := .type "set", dict := none, data := .set #[] 0 (.fresh 0 0 (!w.params.followText "set-order")) } := Heap.get?_push_size _ rfl
      have hT : Shared.TypeIs { s with heap := s.heap.push { cls := .type "set", dict := none, data := .set #[] 0 (.fresh 0 0 (!w.params.followText "set-order")) } } (.ref s.heap.objs.size) "set" := ⟨_, hS, rfl⟩
      have hli := F.called_set.init.lookup
      have hbi := F.called_set.init.bind (.ref s.heap.objs.size)
      repeat (any_goals (first | assumption | wp_step))

      refine codeAny_mono (codeAny_call_builtin (R := wants (fun r s₂ => r = .none ∧ ∃ h' tk L es ep t, s₂ = { s with heap := h', toks := tk } ∧ SetTR P w h' s.heap.objs.size L es ep t ∧ Got ks ks.length L ∧
          (∀ b o, s.heap.get? b = some o → h'.get? b = some o)) E) F.called_set.init.plain F.entry_set_init (check_set_init_1 hT ?_)) fun r₂ s₂ hr₂ => ?_
      · obtain ⟨ol, hol, hcl, nl, hdl⟩ := hl
        obtain ⟨ocls, odict, odata, oslots⟩ := ol
        simp only at hcl hdl
        subst hcl; subst hdl
        have hol' : (s.heap.push { cls := .type "set", dict := none, data := .set #[] 0 (.fresh 0 0 (!w.params.followText "set-order")) }).get? l = some { cls := .type "tuple", dict := odict, data := .seq items nl, slots := oslots } := Heap.get?_push_of_some _ hol
        have hsls := F.sub_tuple_set
        have hslf := F.sub_tuple_frozenset
        have hne : (Value.type "tuple" == Value.type "dict") = false := by decide
        have hl1 : (s.heap.push { cls := .type "set", dict := none, data := .set #[] 0 (.fresh 0 0 (!w.params.followText "set-order")) }).IsTuple l items := ⟨_, hol', rfl, nl, rfl⟩
        unfold Builtin.«set.__init__» noKeywords Builtin.Frozenset.updateFrom
        generalize hPI : pyIter = PI
        wp_walk
        subst hPI

        refine wpAny_pyIter_tuple hl1 ?_
        refine wpAny_bind (wpAny_runValue ?_)
        have hlS : l < s.heap.objs.size := Heap.lt_size hol
        have hh3 : A.in1.in1.in1.handled = none := by simp [hh]
        have hz1 : (s.heap.push { cls := .type "set", dict := none, data := .set #[] 0 (.fresh 0 0 (!w.params.followText "set-order")) }).objs.size = s.heap.objs.size + 1 := Heap.size_push ..
        have hneI : l ≠ (s.heap.push { cls := .type "set", dict := none, data := .set #[] 0 (.fresh 0 0 (!w.params.followText "set-order")) }).objs.size := by
          rw [Heap.size_push]; exact Nat.ne_of_lt (Nat.lt_succ_of_lt hlS)
        have hSf : s.heap.objs.size ∉ [(s.heap.push { cls := .type "set", dict := none, data := .set #[] 0 (.fresh 0 0 (!w.params.followText "set-order")) }).objs.size, l] := by
          rw [Heap.size_push]; simp only [List.mem_cons, List.mem_singleton, List.not_mem_nil, or_false, not_or]
          exact ⟨Nat.ne_of_lt (Nat.lt_succ_self _), Nat.ne_of_gt hlS⟩
        have hval : ∀ (i : Nat) (v : Value), items[i]? = some v → ∃ p, ks[i]? = some p ∧ v = .ref p.1 := fun i v hv => by
          have q : items.toList[i]? = some v := by rw [Array.getElem?_toList]; exact hv
          rw [hit, List.getElem?_map] at q
          cases hq : ks[i]? with
          | none => rw [hq] at q; cases q
          | some p =>
            rw [hq] at q
            exact ⟨p, rfl, (Option.some.inj q).symm⟩
        have none_of : ∀ b, s.heap.objs.size ≤ b → s.heap.get? b = none := fun b hb => by
          cases q : s.heap.get? b with
          | none => rfl
          | some o => exact absurd (Nat.lt_of_lt_of_le (Heap.lt_size q) hb) (Nat.lt_irrefl _)
        refine set_update_tups ((Walks.tuple hh3 _ l hneI items).toS) s.heap.objs.size
          hSf ks hisz hfew hval s.heap hk (none_of _ (Nat.le_refl _)) (fun b hb => none_of b (by
            rw [List.mem_singleton.mp hb, Heap.size_push]
            exact Nat.le_succ _)) hu (items.size - 0) 0 _ (by omega) (Nat.zero_le _)
          ⟨⟨_, Heap.get?_push_size _ rfl, rfl, rfl⟩, (hl1.push _)⟩ (fun b o e => Heap.get?_push_of_some _ (Heap.get?_push_of_some _ e)) ?hS0 ?hR
        case hS0 =>
          have hget : ((s.heap.push { cls := .type "set", dict := none, data := .set #[] 0 (.fresh 0 0 (!w.params.followText "set-order")) }).push { cls := .type "tuple_iterator", data := .fields #[.ref l, .int 0 0] }).get? s.heap.objs.size
              = some { cls := .type "set", dict := none, data := .set #[] 0 (.fresh 0 0 (!w.params.followText "set-order")) } := Heap.get?_push_of_some _ hS
          exact ⟨[], #[], 0, _, setTR_fresh hget, Got.zero ks⟩
        case hR =>
          intro s' L es ep t hm hS' g' hkp
          obtain ⟨h', g2, d', tk', os'⟩ := s'
          have eg : g2 = s.gens := hm.gens
          have ed : d' = s.drawn := hm.drawn
          have eo : os' = s.os := hm.os
          subst eg; subst ed; subst eo
          show wpAny _ _ _ _ _ _
          refine wpAny_pure ?_
          show wpAny _ _ (ret Value.none) _ _ _
          rw [hisz] at g'
          exact wpAny_pure ⟨rfl, h', tk', L, es, ep, t, rfl, hS', g', hkp⟩

      · cases r₂ with
        | error e => exact hr₂
        | ok fl₂ =>
          cases fl₂ with
          | ret r =>
            obtain ⟨rfl, h', tk, L, es, ep, t, rfl, hS', g', hk'⟩ := hr₂
            repeat (any_goals (first | assumption | wp_step))
            exact h _ _ _ _ _ _ hS' g' hk'
          | _ => exact hr₂.elim
    | _ => exact hr.elim
end
end HF

/-! ## A20 -/
namespace HF
open PySem PySem.Spec PyProof.Rows L2
def encI (k : List Int) : D := .tup (k.map D.int)
section
variable {K : PySem.W.Frag} {α : List Addr} {G : Hp}
theorem Reps.tupsI : ∀ {vs : List V} {ks : List (List Int)}, Reps K α G vs (ks.map encI) → ∃ zs : List (Addr × List Int), vs = zs.map (fun p => V.ref p.1) ∧ zs.map (·.2) = ks ∧ ∀ p ∈ zs, SqT K G p.1 (p.2.map V.int)
  | _, [], .nil => ⟨[], rfl, rfl, fun _ h => by cases h⟩
  | _, k :: ks, .cons r t => by
    obtain ⟨zs, e1, e2, e3⟩ := Reps.tupsI t
    cases r with
    | tup q r =>
      rename_i a vs
      have := r.ints
      subst this
      exact ⟨(a, k) :: zs, by rw [e1]; rfl, by rw [List.map_cons, e2], fun p hp => by
        rcases List.mem_cons.mp hp with z | z
        · rw [z]; exact q
        · exact e3 p z⟩
theorem Reps.of_tupsI : ∀ (zs : List (Addr × List Int)), (∀ p ∈ zs, SqT K G p.1 (p.2.map V.int)) → Reps K α G (zs.map fun p => V.ref p.1) ((zs.map (·.2)).map encI)
  | [], _ => .nil
  | p :: zs, h => .cons (.tup (h p List.mem_cons_self) (Reps.of_ints p.2)) (Reps.of_tupsI zs fun q hq => h q (List.mem_cons_of_mem _ hq))
end
section
variable {X : Cx}
def rSortedL (K : PySem.W.Frag) (P : Program) (w : World) : List V → Hp → VK → Prop := fun vs H Q => ∃ (a : Addr) (L : List (Addr × List Int)), vs = [V.ref a] ∧ H a = some (SetTO P w a L) ∧ (∀ p ∈ L, SqT K H p.1 (p.2.map V.int)) ∧ (∀ p ∈ L, p.2 ≠ []) ∧
  ∀ (L' : List (Addr × List Int)) (p : Addr), L'.Perm L → (L'.map (·.2)).Nodup → L'.length < 64 → L'.Pairwise (fun q r => tLt r.2 q.2 = false) → H p = none → Q (.ref p) (upd H p (.lst (L'.map fun q => V.ref q.1)))
theorem cr_sortedL (hc : X.calm = true) : CallR X (.builtin "sorted") (rSortedL X.K X.prog X.w) := by
  intro pins s σ H vs us Q I r h
  obtain ⟨a, L, rfl, ha, hk, hB, q⟩ := h
  have R0 : SetT0 X.prog X.w s.heap a L := (I.hok a _ ha).1
  obtain ⟨es, ep, t, R⟩ := R0.full fun p hp => I.isT (hk p hp)
  rw [Vals.ref1 r]
  refine sorted_setL R (I.ok.hd hc) hB fun s' p out c L' k g o hp hg hout pm pw => ?_
  have hfew : L'.length < 64 := by rw [pm.length_eq]; exact R.few
  have hlen : (L'.map fun q => V.ref q.1).length ≤ sizeLine := by rw [List.length_map, sizeLine_eq]; omega
  have hn : H p = none := I.hok.fresh hp
  have hv : Vals (L'.map fun q => V.ref q.1) out.toList := by rw [hout]; exact vals_of_refs L'
  have J : Inv X pins σ (upd H p (.lst (L'.map fun q => V.ref q.1))) { s with heap := s'.heap, gens := s'.gens, drawn := s'.drawn, toks := s'.toks } :=
    I.call (ch := []) (Un.laid k hp hn) (I.hok.laid k hp ⟨hlen, out.toList, c, hv, hg⟩) (by rw [g]; exact I.bare) (fun _ z => nomatch z)
  have e : s' = { s with heap := s'.heap, gens := s'.gens, drawn := s'.drawn, toks := s'.toks } := by
    cases s'
    cases s
    cases o
    rfl
  rw [e]
  exact ⟨.ref p, _, J, rfl, q L' p pm ((pm.map (·.2)).nodup_iff.mpr R.nd) hfew pw hn⟩
/-- set(xs) of a list or a tuple of tuples of ints -/
def rSetOfS (K : PySem.W.Frag) (P : Program) (w : World) : List V → Hp → VK → Prop := fun xs H Q => ∃ (l : Addr) (ks : List (Addr × List Int)), xs = [V.ref l] ∧ (SqL K H l (ks.map fun p => V.ref p.1) ∨ SqT K H l (ks.map fun p => V.ref p.1)) ∧ (∀ p ∈ ks, SqT K H p.1 (p.2.map V.int)) ∧ ks.length < 64 ∧
  ∀ a L, H a = none → (∀ p ∈ L, p ∈ ks) → (∀ p ∈ ks, p.2 ∈ L.map (·.2)) → (L.map (·.2)).Nodup → Q (.ref a) (upd H a (SetTO P w a L))
theorem cr_setOfS (hc : X.calm = true) (hu : X.A.units + 64 < cLine) : CallR X (.type "set") (rSetOfS X.K X.prog X.w) := by
  intro pins s σ H xs us Q I r h
  obtain ⟨l, ks, rfl, hl, hk, hf, q⟩ := h
  rw [Vals.ref1 r]
  have hn : H s.heap.objs.size = none := I.hok.fresh (Nat.le_refl _)
  rcases hl with hl | hl
  · obtain ⟨its, rv, pl, hz⟩ := I.list hl
    refine call_set_tups (P := X.prog) (w := X.w) ks (I.ok.hd hc) pl.isList (by simpa using refs_of_vals rv) (fun p hp => I.isT (hk p hp)) hf (by omega) fun h' tk L es ep t R g k => ?_
    exact ⟨.ref s.heap.objs.size, upd H s.heap.objs.size (SetTO X.prog X.w s.heap.objs.size L), I.laid (t' := tk) k (Nat.le_refl _) (setTO_new R.t0), rfl, q _ L hn (fun p hp => List.mem_of_mem_take (g.sub p hp)) (fun p hp => g.all p (by rw [List.take_length]; exact hp)) R.nd⟩
  · obtain ⟨its, rv, ⟨o, ho, ho2, n, hd⟩, hz⟩ := I.tuple hl
    refine call_set_tupsT (P := X.prog) (w := X.w) (items := its.toArray) ks (I.ok.hd hc) ⟨o, ho, ho2, n, hd⟩ (by simpa using refs_of_vals rv) (fun p hp => I.isT (hk p hp)) hf (by omega) fun h' tk L es ep t R g k => ?_
    exact ⟨.ref s.heap.objs.size, upd H s.heap.objs.size (SetTO X.prog X.w s.heap.objs.size L), I.laid (t' := tk) k (Nat.le_refl _) (setTO_new R.t0), rfl, q _ L hn (fun p hp => List.mem_of_mem_take (g.sub p hp)) (fun p hp => g.all p (by rw [List.take_length]; exact hp)) R.nd⟩
theorem aE_sortedSetT {e : Expr} {ρ : AEnv} {μ : Sto} {Q : DK} {p p2 q q2 : Pos} {d : D} {ks : List (List Int)} (h : EV X e ρ μ d) (hd : IsS μ d (ks.map encI)) (hf : ks.length < 64) (hne : ∀ k ∈ ks, k ≠ []) (hu : X.A.units + 64 < cLine)
    (hq : ∀ ks' : List (List Int), ks'.Nodup → ks'.Pairwise (fun a b => tLt b a = false) → (∀ k, k ∈ ks' ↔ k ∈ ks) → Q (.lst (ks'.map encI)) μ)
    (hm : X.mg "sorted" = none) (hm2 : X.mg "set" = none) (hg : Gl X "sorted" := by rfl) (hg2 : Gl X "set" := by rfl) (hc : X.calm = true := by rfl) (he : starEach [e] X.env = (false, eval e X.env) :: starEach [] X.env := by rfl) :
    aE X (.Call (.Name "sorted" p) [.Call (.Name "set" p2) [e] [] q2] [] q) ρ μ Q := fun η α H σ W Ev =>
  tE_of (pe_callB (cr_sortedL hc) hg hm rfl (pa_cons (pe_callTy (cr_setOfS hc hu) hg2 hm2 rfl paA (by decide) (by decide) he rfl) pa_nil rfl) (by decide) (by decide) rfl rfl) (by
    refine aA_then W Ev (aA_cons (Q := fun ds μ' => ds = [d] ∧ μ' = μ) (aE_ev h (aA_nil ⟨rfl, rfl⟩)) he) fun vs H1 α1 μ1 ds W1 l1 E1 r1 ⟨e1, e2⟩ => ?_
    subst e1 e2
    cases r1 with
    | cons r1 r2 =>
      cases r2
      obtain ⟨a, vs, rfl, hs, r⟩ := hd.at W1 r1
      obtain ⟨zs, rfl, e2, e3⟩ := r.tupsI
      refine ⟨a, zs, rfl, hs, fun p hp => SqT.unmsk (e3 p hp), by rw [← List.length_map (f := (·.2)), e2]; exact hf, fun b L hb sub all nd => ?_⟩
      obtain ⟨W2, l2, _, _⟩ := W1.new hb (SetTO X.prog X.w b L)
      have hL2 : ∀ p ∈ L, SqT X.K (msk α1 η (upd H1 b (SetTO X.prog X.w b L))) p.1 (p.2.map V.int) := fun p hp => Same.seqT l2.same (e3 p (sub p hp))
      refine ⟨b, L, rfl, upd_same, fun p hp => SqT.unmsk (hL2 p hp), fun p hp => hne _ (by rw [← e2]; exact List.mem_map.mpr ⟨p, sub p hp, rfl⟩), fun L' p pm nd' hlt pw hp => ?_⟩
      have := new_lst (Q := Q) W2 (Reps.of_tupsI L' fun q hq => hL2 q (pm.mem_iff.mp hq)) (hq (L'.map (·.2)) nd' (List.pairwise_map.mpr pw) fun k => ?_) hp
      · exact this.le (l1.trans l2)
      · constructor
        · intro z
          obtain ⟨x, hx, e⟩ := List.mem_map.mp z
          rw [← e2, ← e]
          exact List.mem_map.mpr ⟨x, sub x (pm.mem_iff.mp hx), rfl⟩
        · intro z
          rw [← e2] at z
          obtain ⟨x, hx, e⟩ := List.mem_map.mp z
          obtain ⟨y, hy, e'⟩ := List.mem_map.mp (all x hx)
          exact List.mem_map.mpr ⟨y, pm.mem_iff.mpr hy, e'.trans e⟩)
/-- sorted(xs), a list of tuples of ints -/
def rSortedI (K : PySem.W.Frag) : List V → Hp → VK → Prop := fun vs H Q => ∃ (a : Addr) (L : List (Addr × List Int)), vs = [V.ref a] ∧ SqL K H a (L.map fun p => V.ref p.1) ∧ (∀ p ∈ L, SqT K H p.1 (p.2.map V.int)) ∧ (∀ p ∈ L, p.2 ≠ []) ∧ L.length < 64 ∧
  ∀ (L' : List (Addr × List Int)) (p : Addr), L'.Perm L → L'.Pairwise (fun q r => tLt r.2 q.2 = false) → H p = none → Q (.ref p) (upd H p (.lst (L'.map fun q => V.ref q.1)))
end
end HF

/-! ## A21 -/
namespace HF
open PySem PySem.Spec PyProof.Rows L2
section
variable {X : Cx} {ρ : AEnv}
/-- the pairs of a display -/
def aPs (X : Cx) (ρ : AEnv) : List (Expr × Expr) → Sto → (List (Key × D) → Sto → Prop) → Prop
  | [], μ, R => R [] μ
  | (k, v) :: r, μ, R => aE X k ρ μ fun dk μ1 => ∃ key, dk.key = some key ∧ aE X v ρ μ1 fun dv μ2 => aPs X ρ r μ2 fun kvs μ3 => R ((key, dv) :: kvs) μ3
theorem aPs_nil {μ : Sto} {R : List (Key × D) → Sto → Prop} (h : R [] μ) : aPs X ρ [] μ R := h
theorem aPs_cons {k v : Expr} {r : List (Expr × Expr)} {μ : Sto} {R : List (Key × D) → Sto → Prop} {dk : D} {key : Key} (hk : EV X k ρ μ dk) (e : dk.key = some key) (h : aE X v ρ μ fun dv μ2 => aPs X ρ r μ2 fun kvs μ3 => R ((key, dv) :: kvs) μ3) : aPs X ρ ((k, v) :: r) μ R := aE_ev hk ⟨key, e, h⟩
theorem RepKV.merge {K : PySem.W.Frag} {α : List Addr} {G : Hp} : ∀ {ws : List (Key × V)} {kvs : List (Key × D)} {ws0 : List (Key × V)} {kvs0 : List (Key × D)}, RepKV K α G ws kvs → RepKV K α G ws0 kvs0 → RepKV K α G (mergeK ws0 ws) (kvs.foldl (fun acc kv => putD acc kv.1 kv.2) kvs0) := by
  intro ws kvs ws0 kvs0 r
  induction r generalizing ws0 kvs0 with
  | nil => intro q; exact q
  | @cons p q ps qs h _ ih =>
    intro r0
    have e := RepKV.put (k := p.1) h.2 r0
    have := ih e
    rw [List.foldl_cons, ← h.1]
    exact this
theorem aPs_then : ∀ {prs : List (Expr × Expr)} {μ : Sto} {R : List (Key × D) → Sto → Prop} {η α : List Addr} {H : Hp} {σ : L2.St} (W : WOk X.K α η μ H) (Ev : EnvR X.K α η H ρ σ) {Q1 : List (V × V) → Hp → Prop} (h : aPs X ρ prs μ R)
    (k : ∀ H1 α1 μ1 ws kvs, WOk X.K α1 η μ1 H1 → Le η α H α1 H1 → EnvR X.K α1 η H1 ρ σ → RepKV X.K α1 (msk α1 η H1) ws kvs → ws.length = prs.length → R kvs μ1 → Q1 (ws.map fun kv => (kV kv.1, kv.2)) H1), tPairs (prs.map fun p => (tE X p.1, tE X p.2)) σ H Q1
  | [], μ, R, η, α, H, σ, W, Ev, Q1, h, k => k H α μ [] [] W Le.refl Ev .nil rfl h
  | (a, b) :: r, μ, R, η, α, H, σ, W, Ev, Q1, h, k => by
    refine aE_then W Ev h fun x H1 α1 μ1 dk W1 l1 E1 r1 ⟨key, hk, h2⟩ => ?_
    refine aE_then W1 E1 h2 fun y H2 α2 μ2 dv W2 l2 E2 r2 h3 => ?_
    refine aPs_then W2 E2 h3 fun H3 α3 μ3 ws kvs W3 l3 E3 rr hl q => ?_
    rw [r1.key hk]
    exact k H3 α3 μ3 ((key, y) :: ws) ((key, dv) :: kvs) W3 (l1.trans (l2.trans l3)) E3 (.cons ⟨rfl, r2.le l3⟩ rr) (by rw [List.length_cons, List.length_cons, hl]) q
theorem pps_of {pos : Pos} : ∀ (prs : List (Expr × Expr)), PPs X pos (prs.map fun p => some p.1) (prs.map (·.2)) (prs.map fun p => (tE X p.1, tE X p.2))
  | [] => pps_nil
  | (a, b) :: r => pps_cons peE peE (pps_of r)
/-- {k: v, ..}, a new cell -/
theorem aE_disp {keys : List (Option Expr)} {values : List Expr} {pos : Pos} {μ : Sto} {Q : DK} (prs : List (Expr × Expr)) (h : aPs X ρ prs (μ ++ [.dK []]) fun kvs μ2 => μ2[μ.length]? = some (.dK []) ∧ Q (.pr μ.length) (μ2.set μ.length (.dK (kvs.foldl (fun acc kv => putD acc kv.1 kv.2) []))))
    (h0 : prs ≠ []) (h15 : prs.length ≤ 15) (hk : keys = prs.map fun p => some p.1 := by rfl) (hv : values = prs.map (·.2) := by rfl) : aE X (.Dict keys values pos) ρ μ Q := fun η α H σ W Ev => by
  subst hk hv
  refine tE_of (pe_disp (pps_of prs) (by rw [List.all_map]; exact List.all_eq_true.mpr fun _ _ => rfl) (by rw [List.length_map, List.length_map]) (by simpa using h0) (by rw [List.length_map]; exact h15)) fun p n => ?_
  obtain ⟨W1, l1, g⟩ := W.newCell n (o := .dK []) (c := .dK []) fun l => ⟨[], upd_same, .nil⟩
  refine aPs_then W1 (Ev.le l1) h fun H1 α1 μ1 ws kvs W2 l2 E2 rr hl ⟨hc, q⟩ => ?_
  have ea : α1[μ.length]? = some p := pre_get l2.pre g
  obtain ⟨ws0, hq, r0⟩ := W2.cell _ p _ ea hc
  cases r0
  obtain ⟨W3, l3⟩ := write_dK W2 ea (rr.merge (ws0 := []) (kvs0 := []) .nil)
  exact ⟨hq, ws, rfl, by rw [hl]; exact h15, _, _, _, W3, l1.trans (l2.trans l3), .pr (pre_get l3.pre ea), q⟩
theorem aE_disp4 {k1 k2 k3 k4 v1 v2 v3 v4 : Expr} {pos : Pos} {μ : Sto} {Q : DK} (h : aPs X ρ [(k1, v1), (k2, v2), (k3, v3), (k4, v4)] (μ ++ [.dK []]) fun kvs μ2 => μ2[μ.length]? = some (.dK []) ∧ Q (.pr μ.length) (μ2.set μ.length (.dK (kvs.foldl (fun acc kv => putD acc kv.1 kv.2) [])))) :
    aE X (.Dict [some k1, some k2, some k3, some k4] [v1, v2, v3, v4] pos) ρ μ Q := aE_disp [(k1, v1), (k2, v2), (k3, v3), (k4, v4)] h (by simp) (by simp)
theorem aE_disp5 {k1 k2 k3 k4 k5 v1 v2 v3 v4 v5 : Expr} {pos : Pos} {μ : Sto} {Q : DK} (h : aPs X ρ [(k1, v1), (k2, v2), (k3, v3), (k4, v4), (k5, v5)] (μ ++ [.dK []]) fun kvs μ2 => μ2[μ.length]? = some (.dK []) ∧ Q (.pr μ.length) (μ2.set μ.length (.dK (kvs.foldl (fun acc kv => putD acc kv.1 kv.2) [])))) :
    aE X (.Dict [some k1, some k2, some k3, some k4, some k5] [v1, v2, v3, v4, v5] pos) ρ μ Q := aE_disp [(k1, v1), (k2, v2), (k3, v3), (k4, v4), (k5, v5)] h (by simp) (by simp)
end
end HF

/-! ## A22 -/
namespace HF
open PySem PySem.Spec PyProof.Rows L2
section
variable {X : Cx} {μ : Sto} {Q : DK}
theorem Reps.pairsK {K : PySem.W.Frag} {α : List Addr} {G : Hp} : ∀ {vs : List V} {kvs : List (Key × D)}, Reps K α G vs (kvs.map fun kv => .tup [kD kv.1, kv.2]) → ∃ (ps : List Addr) (ws : List (Key × V)), vs = ps.map V.ref ∧ Paired (fun p kv => SqT K G p [kV kv.1, kv.2]) ps ws ∧ RepKV K α G ws kvs
  | _, [], .nil => ⟨[], [], rfl, .nil, .nil⟩
  | _, (k, d) :: kvs, .cons r t => by
    obtain ⟨ps, ws, e, h1, h2⟩ := Reps.pairsK t
    cases r with
    | tup q r =>
      rename_i a vs
      cases r with
      | cons r1 r2 =>
        cases r2 with
        | cons r2 r3 =>
          cases r3
          have hk := Rep.key (k := k) r1 (by cases k <;> rfl)
          subst hk
          rename_i v
          exact ⟨a :: ps, (k, v) :: ws, by rw [e]; rfl, .cons q h1, .cons ⟨rfl, r2⟩ h2⟩
/-- dict(xs), a list of pairs with number or text keys -/
theorem acall_dictP {kvs : List (Key × D)} {d : D} (hd : d = .lst (kvs.map fun kv => .tup [kD kv.1, kv.2])) (hc : X.calm = true) (q : Q (.pr μ.length) (μ ++ [.dK (kvs.foldl (fun acc kv => putD acc kv.1 kv.2) [])])) : ACall X (.type "dict") [d] μ Q := fun η α H vs W r => by
  subst hd
  cases r with
  | cons r1 r2 =>
    cases r2
    cases r1 with
    | lst hl r =>
      rename_i a us
      obtain ⟨ps, ws, rfl, h1, h2⟩ := r.pairsK
      refine ⟨_, PD X.K η α H Q, call_dictP hc, ⟨a, ps, ws, rfl, SqL.of (msk_some.mp hl).2.2, L2.Paired.mapP h1 fun _ _ z => SqT.unmsk z, fun p n => ?_⟩, fun _ _ z => z⟩
      obtain ⟨W1, l1, g⟩ := W.newCell n (o := .dK (mergeK [] ws)) (c := .dK (kvs.foldl (fun acc kv => putD acc kv.1 kv.2) [])) fun l => ⟨_, upd_same, RepKV.le (RepKV.merge h2 .nil) l⟩
      exact fin_le W1 l1 (.pr g) q
end
end HF

/-! ## A23 -/
namespace HF
open PySem PySem.Spec PyProof.Rows L2
/-! ### dicts with tuple keys: len, list, dict(pairs), update -/
def mergeT (kvs more : List (List Key × V)) : List (List Key × V) := more.foldl (fun acc kv => putK acc kv.1 kv.2) kvs
theorem KT_merge {H : Hp} : ∀ {more kvs : List (List Key × V)} {ps xs : List (List Key × Addr × Value)}, KT H kvs xs → KT H more ps → KT H (mergeT kvs more) (storedAllH xs ps) := by
  intro more kvs ps xs r q
  induction q generalizing kvs xs with
  | nil => exact r
  | @cons p q ps qs h t ih =>
    have := KT.put r p.1 (b := q.2.1) (y := p.2) (u := q.2.2) h.2.1 h.2.2
    have e := ih this
    show KT H (List.foldl _ (putK kvs p.1 p.2) ps) (List.foldl _ (storedH xs q.1 q.2.1 q.2.2) qs)
    rw [← h.1]
    exact e
theorem length_mergeT : ∀ (more kvs : List (List Key × V)), (mergeT kvs more).length ≤ kvs.length + more.length
  | [], kvs => Nat.le_refl _
  | p :: r, kvs => by
    have h1 := length_mergeT r (putK kvs p.1 p.2)
    have h2 := length_putK kvs p.1 p.2
    show (mergeT (putK kvs p.1 p.2) r).length ≤ kvs.length + (r.length + 1)
    omega
section
variable {X : Cx}
def PrT (K : PySem.W.Frag) (H : Hp) (p : Addr) (x : List Key × Addr × V) : Prop := SqT K H p [.ref x.2.1, x.2.2] ∧ H x.2.1 = some (.tup (x.1.map kV))
theorem pairsT_of {pins : List (Addr × Obj)} {σ : L2.St} {H : Hp} {s : Shared} (I : Inv X pins σ H s) : ∀ {ps : List Addr} {kvs : List (List Key × Addr × V)}, Paired (PrT X.K H) ps kvs →
    ∃ prs : List (List Key × Addr × Value), KT H (kvs.map fun x => (x.1, x.2.2)) prs ∧ prs.length = ps.length ∧ (∀ x ∈ prs, H x.2.1 = some (.tup (x.1.map kV))) ∧ ∀ (j : Nat) q, prs[j]? = some q → ∃ b : Addr, ps[j]? = some b ∧ IsTup s.heap b #[.ref q.2.1, q.2.2]
  | _, _, .nil => ⟨[], .nil, rfl, fun x hx => (by cases hx), fun j q e => by simp at e⟩
  | _, _, .cons (a := p) (b := kv) h t => by
    obtain ⟨prs, r, hl, hm, hp⟩ := pairsT_of I t
    obtain ⟨its, rv, ht, _⟩ := I.tuple h.1
    obtain ⟨u, y, ei, ru, ry⟩ := vals2 rv
    subst ei
    cases ru
    refine ⟨(kv.1, kv.2.1, y) :: prs, .cons ⟨rfl, h.2, ry⟩ r, by rw [List.length_cons, List.length_cons, hl], fun x hx => ?_, fun j q e => ?_⟩
    · rcases List.mem_cons.mp hx with z | z
      · subst z; exact h.2
      · exact hm x z
    · cases j with
      | zero =>
        have e' : (kv.1, kv.2.1, y) = q := Option.some.inj e
        subst e'
        exact ⟨p, rfl, ht⟩
      | succ j =>
        obtain ⟨b, e1, e2⟩ := hp j q (by simpa using e)
        exact ⟨b, by simpa using e1, e2⟩
def rDictT (K : PySem.W.Frag) : List V → Hp → VK → Prop := fun xs H Q => ∃ (a : Addr) (ps : List Addr) (kvs : List (List Key × Addr × V)), xs = [V.ref a] ∧ SqL K H a (ps.map V.ref) ∧ Paired (PrT K H) ps kvs ∧
    ∀ p, H p = none → Q (.ref p) (upd H p (.dT (mergeT [] (kvs.map fun x => (x.1, x.2.2)))))
theorem call_dictT (hcalm : X.calm = true) (hu : X.A.units + 8 < cLine) : CallR X (.type "dict") (rDictT X.K) := by
  intro pins s σ H xs us Q I r q
  obtain ⟨a, ps, kvs, ex, hq, hp, q⟩ := q
  subst ex
  obtain ⟨u, eu, rx⟩ := vals1 r
  subst eu
  cases rx
  obtain ⟨its, rv, pl, hz⟩ := I.list hq
  have ei := refs_at rv
  subst ei
  rw [List.length_map] at hz
  obtain ⟨prs, rel, hl, hm, hpr⟩ := pairsT_of I hp
  obtain ⟨o, n, ho, hc, hd, hdat⟩ := pl
  have hps : ∀ j, j < prs.length → ∃ b, ps[j]? = some b := fun j hj => ⟨ps[j]'(by omega), List.getElem?_eq_getElem (by omega)⟩
  have PA := PairArg.list (prog := X.prog) (w := X.w) a (ps.map Value.ref).toArray (fun j => ps.getD j 0) (prs.map fun x => (Value.ref x.2.1, x.2.2))
  refine call_dict_pairsH (knd := tupleKind (mixKind X.prog X.w)) (ps := prs) PA (I.ok.hd hcalm) ?_ ⟨⟨o, n, ho, hc, hd, hdat⟩, ?_, ?_⟩ ⟨?_, ?_⟩ ?_ ?_ fun h' tk hd' k => ?_
  · exact tupleKind_room_in1 (by show X.A.in1.units + 1 < cLine; exact Nat.lt_of_le_of_lt (by show X.A.in1.units + 1 ≤ X.A.units + 8; exact (by show X.A.units + 1 + 1 ≤ X.A.units + 8; omega)) hu)
  · simp [hl]
  · intro j k v e
    rw [List.getElem?_map] at e
    cases ej : prs[j]? with
    | none => rw [ej] at e; cases e
    | some q =>
      rw [ej] at e
      cases e
      obtain ⟨b, e1, e2⟩ := hpr j q ej
      have eb : ps.getD j 0 = b := by rw [List.getD_eq_getElem?_getD, e1]; rfl
      exact ⟨by show (List.map Value.ref ps).toArray[j]? = some (Value.ref (ps.getD j 0)); rw [eb]; simp [e1], by show PairAt s.heap (ps.getD j 0) _ _; rw [eb]; exact .inl e2⟩
  · rw [List.length_map]
  · intro i key v e
    rw [PairRel, List.getElem?_map] at e
    cases ej : prs[i]? with
    | none => rw [ej] at e; cases e
    | some q =>
      rw [ej] at e
      cases e
      exact ⟨q.1, q.2.1, rfl, rfl⟩
  · intro h' hk x hx
    obtain ⟨o, its, n, h1, h2⟩ := key_of (P := X.prog) (w := X.w) I.hok (hm x hx)
    exact ⟨o, its, n, hk _ _ (Nat.ne_of_lt (Heap.lt_size h1)) (fun z => nomatch z) h1, h2⟩
  · rw [List.length_map, hl]; exact hz
  · have hmm : (s.heap.objs.size == sysModules) = false := beq_eq_false_iff_ne.mpr (Nat.ne_of_gt I.big)
    have hlen : (mergeT [] (kvs.map fun x => (x.1, x.2.2))).length ≤ sizeLine := by
      refine Nat.le_trans (length_mergeT _ []) ?_
      rw [List.length_nil, Nat.zero_add, Paired.length rel, hl]
      exact hz
    have hf : H s.heap.objs.size = none := I.hok.fresh (Nat.le_refl _)
    obtain ⟨o', es, ep, h1, h2, h3, h4, h5, h6⟩ := hd'
    have kt : KT (upd H s.heap.objs.size (.dT (mergeT [] (kvs.map fun x => (x.1, x.2.2))))) (mergeT [] (kvs.map fun x => (x.1, x.2.2))) (storedAllH [] prs) := KT_merge .nil (rel.keeps fun b ys e => by
      rw [upd_ne (ne_of_none e hf)]; exact e)
    exact ⟨.ref s.heap.objs.size, _, I.laid (t' := tk) (fun b o e => k b o (fun z => nomatch z) e) (Nat.le_refl _) (show ObjOk X.prog X.w _ _ _ (.dT _) from ⟨hlen, hmm, _, kt, o', es, ep, h1, h2, h3, h4, h6⟩), rfl, q _ hf⟩
def rUpdT (P : Program) (w : World) : V → List V → Hp → VK → Prop := fun x xs H Q => ∃ (a b : Addr) (kvs more : List (List Key × V)), x = .ref a ∧ xs = [.ref b] ∧ a ≠ b ∧ H a = some (.dT kvs) ∧ H b = some (.dT more) ∧ kvs.length + more.length ≤ sizeLine ∧
    (∀ p ∈ more, ∀ q ∈ more, tupleKeyHash (mixKind P w) p.1 = tupleKeyHash (mixKind P w) q.1 → p.1 = q.1) ∧ Q .non (upd H a (.dT (mergeT kvs more)))
theorem KT_fsts {H : Hp} {kvs : List (List Key × V)} {xs : List (List Key × Addr × Value)} (r : KT H kvs xs) : kvs.map (·.1) = xs.map (·.1) := by
  induction r with
  | nil => rfl
  | cons h t ih => rw [List.map_cons, List.map_cons, h.1, ih]
theorem KT_keys_at {H : Hp} {kvs : List (List Key × V)} {xs : List (List Key × Addr × Value)} (r : KT H kvs xs) : ∀ x ∈ xs, H x.2.1 = some (.tup (x.1.map kV)) := by
  induction r with
  | nil => intro x hx; cases hx
  | cons h t ih =>
    intro x hx
    rcases List.mem_cons.mp hx with z | z
    · subst z; rw [← h.1]; exact h.2.1
    · exact ih x z
theorem nodup_map_on {α β : Type} {f : α → β} : ∀ {l : List α}, l.Nodup → (∀ x ∈ l, ∀ y ∈ l, f x = f y → x = y) → (l.map f).Nodup
  | [], _, _ => List.nodup_nil
  | x :: l, h, k => by
    rw [List.nodup_cons] at h
    rw [List.map_cons, List.nodup_cons]
    refine ⟨fun z => ?_, nodup_map_on h.2 fun a ha b hb => k a (List.mem_cons_of_mem _ ha) b (List.mem_cons_of_mem _ hb)⟩
    obtain ⟨y, hy, e⟩ := List.mem_map.mp z
    have := k y (List.mem_cons_of_mem _ hy) x List.mem_cons_self e
    exact h.1 (this ▸ hy)
theorem mt_updT (hu : X.A.units + 8 < cLine) : MtR X "dict.update" (rUpdT X.prog X.w) := by
  intro pins s σ H x xs v us Q I rx rxs h
  obtain ⟨a, b, kvs, more, rfl, rfl, hab, ha, hb, hz, hinj, q⟩ := h
  cases rx
  obtain ⟨u1, rfl, r1⟩ := vals1 rxs
  cases r1
  obtain ⟨z1, hd1, xs1, rel1, dd1⟩ := dt_of I.hok ha
  obtain ⟨z2, hd2, xs2, rel2, dd2⟩ := dt_of I.hok hb
  have hl1 : kvs.length = xs1.length := Paired.length rel1
  have hl2 : more.length = xs2.length := Paired.length rel2
  refine call_update_dictH (knd := tupleKind (mixKind X.prog X.w)) (tupleKind_room_in1 (by omega)) hab hd2 dd1 dd2 (.inr ⟨fun x hx => ?_, ?_⟩) (by rw [← hl1, ← hl2]; exact hz) fun h' h1 h2 hs => ?_
  · obtain ⟨o, its, n, h1, h2, _⟩ := key_of (P := X.prog) (w := X.w) I.hok (KT_keys_at rel2 x hx)
    exact ⟨o, h1, h2⟩
  · have e : (xs2.map fun x => (tupleKind (mixKind X.prog X.w)).hash x.1) = (more.map (·.1)).map (tupleKind (mixKind X.prog X.w)).hash := by rw [KT_fsts rel2, List.map_map]; rfl
    rw [e]
    refine nodup_map_on (by rw [KT_fsts rel2]; exact dd2.nodup) fun k1 hk1 k2 hk2 e => ?_
    obtain ⟨p, hp, rfl⟩ := List.mem_map.mp hk1
    obtain ⟨p', hp', rfl⟩ := List.mem_map.mp hk2
    exact hinj p hp p' hp' e
  · obtain ⟨o', es, ep, g1, g2, g3, g4, g5, g6⟩ := id h1
    have kt : KT (upd H a (.dT (mergeT kvs more))) (mergeT kvs more) (storedAllH xs1 xs2) := (KT_merge rel1 rel2).keeps fun b ys e => by
      rw [upd_ne (fun z => by rw [z, ha] at e; cases e)]; exact e
    have hlen : (mergeT kvs more).length ≤ sizeLine := Nat.le_trans (length_mergeT _ _) hz
    have J := d_write (t' := s.toks) I (by rw [ha]; exact trivial) hs ⟨o', g1⟩ (show ObjOk X.prog X.w _ _ _ (.dT (mergeT kvs more)) from ⟨hlen, hd1, _, kt, o', es, ep, g1, g2, g3, g4, g6⟩)
    exact ⟨.non, _, J, rfl, q⟩
end
end HF

/-! ## A24 -/
namespace HF
open PySem PySem.Spec PyProof.Rows L2
section
variable {X : Cx} {a b e o : Expr} {es : List Expr} {ρ : AEnv} {μ : Sto} {Q : DK} {pos p : Pos}
/-! ### weaker tellings -/
def Wk (d d' : D) : Prop := ∀ K α G v, Rep K α G v d → Rep K α G v d'
def Wks (ds ds' : List D) : Prop := ∀ K α G v, Reps K α G v ds → Reps K α G v ds'
theorem Wk.refl (d : D) : Wk d d := fun _ _ _ _ r => r
theorem Wks.map {τ : Type} {f g : τ → D} (h : ∀ t, Wk (f t) (g t)) : ∀ L : List τ, Wks (L.map f) (L.map g)
  | [], _, _, _, _, r => r
  | t :: L, K, α, G, _, .cons r rs => .cons (h t _ _ _ _ r) (Wks.map h L _ _ _ _ rs)
theorem Wk.lst {xs ys : List D} (h : Wks xs ys) : Wk (.lst xs) (.lst ys) := fun _ _ _ _ r => by
  cases r with
  | lst q r => exact .lst q (h _ _ _ _ r)
theorem Rep.ofKey {K : PySem.W.Frag} {α : List Addr} {G : Hp} : ∀ (k : Key), Rep K α G (kV k) (kD k)
  | .inl _ => .int
  | .inr _ => .str
theorem Reps.ofKeys {K : PySem.W.Frag} {α : List Addr} {G : Hp} : ∀ (ks : List Key), Reps K α G (ks.map kV) (ks.map kD)
  | [] => .nil
  | k :: ks => .cons (Rep.ofKey k) (Reps.ofKeys ks)
theorem Wk.kt (ks : List Key) : Wk (.kt ks) (.tup (ks.map kD)) := fun _ _ _ _ r => by
  cases r with
  | kt q => exact .tup (.inl (.inl q)) (Reps.ofKeys ks)
theorem Wk.pK (q : Nat × Nat) : Wk (.kt (pK q)) (pD q) := Wk.kt _
theorem aE_wk (h : aE X e ρ μ fun d μ1 => ∃ d', Wk d d' ∧ Q d' μ1) : aE X e ρ μ Q := fun η α H σ W R =>
  tE_mono (h η α H σ W R) fun _ _ ⟨α', μ', d, W', l, r, d', wk, q⟩ => ⟨α', μ', d', W', l, wk _ _ _ _ r, q⟩
theorem ev_wk {d d' : D} (h : EV X e ρ μ d) (wk : Wk d d') : EV X e ρ μ d' := aE_wk (aE_ev h ⟨d', wk, rfl, rfl⟩)
/-- a new tuple that can be a key -/
theorem ev_kt {ks : List Key} {x1} (h : EVA X es ρ μ (ks.map kD)) (hz : ks.length ≤ 100 := by decide) : EV X (.Tuple es x1 pos) ρ μ (.kt ks) := fun η α H σ W Ev =>
  tE_of (pe_tup paA) (aA_then W Ev h fun vs H1 α1 μ1 ds W1 l1 E1 r1 ⟨e1, e2⟩ => by
    subst e1 e2
    have hv := r1.keys
    subst hv
    refine ⟨by rw [List.length_map, sizeLine_eq]; omega, fun p n => ?_⟩
    obtain ⟨W2, l2, n1, n2⟩ := W1.new n (.tup (ks.map kV))
    exact PD.le l1 (fin_le W2 l2 (.kt (msk_some.mpr ⟨n1, n2, upd_same⟩)) ⟨rfl, rfl⟩))
/-! ### dicts with tuple keys -/
theorem acall_lenT {k : Nat} {kvs : List (List Key × D)} (hk : μ[k]? = some (.dT kvs)) (q : Q (nD kvs.length) μ) : ACall X (.builtin "len") [.pr k] μ Q := fun η α H vs W r => by
  cases r with
  | cons r1 r2 =>
    cases r2
    cases r1 with
    | pr ea =>
      obtain ⟨ws, hq, rr⟩ := W.cell k _ _ ea hk
      exact xCall_of call_len_dT ⟨_, ws, rfl, hq, by rw [rr.len]; exact fin0 W .int q⟩
theorem CellOk.noTup {K : PySem.W.Frag} {α η : List Addr} {H : Hp} {b : Addr} {c : Cell} (x : CellOk K α η H b c) : ∀ xs, H b ≠ some (.tup xs) := fun xs z => by
  cases c with
  | lst _ => obtain ⟨_, h, _⟩ := x; rw [h] at z; cases z
  | dK _ => obtain ⟨_, h, _⟩ := x; rw [h] at z; cases z
  | dT _ => obtain ⟨_, h, _⟩ := x; rw [h] at z; cases z
  | ins _ _ => obtain ⟨_, _, h, _⟩ := x; rw [h] at z; cases z
  | fK _ _ _ => obtain ⟨h, _⟩ := x; rw [h] at z; cases z
theorem WOk.mskTup {K : PySem.W.Frag} {α η : List Addr} {H : Hp} {b : Addr} {xs : List V} (W : WOk K α η μ H) (h : H b = some (.tup xs)) : msk α η H b = some (.tup xs) := by
  refine msk_some.mpr ⟨fun z => ?_, fun z => (W.hid b z).2 xs h, h⟩
  obtain ⟨k, hk, e⟩ := List.getElem_of_mem z
  have hm : k < μ.length := by rw [← W.len]; exact hk
  have e' : α[k]? = Option.some b := by rw [List.getElem?_eq_getElem hk, e]
  exact (W.cell k b _ e' (List.getElem?_eq_getElem hm)).noTup xs h
theorem keysReps {K : PySem.W.Frag} {α η : List Addr} {H : Hp} (W : WOk K α η μ H) : ∀ {ws : List (List Key × V)} {kvs : List (List Key × D)} {bs : List Addr}, RepKV K α (msk α η H) ws kvs → IsKeys H ws bs → Reps K α (msk α η H) (bs.map V.ref) (kvs.map fun p => .tup (p.1.map kD))
  | _, _, _, .nil, .nil => .nil
  | _, _, _, .cons h t, .cons g s => by
    refine .cons ?_ (keysReps W t s)
    rw [h.1] at g
    exact .tup (.inl (.inl (W.mskTup g))) (Reps.ofKeys _)
theorem acall_listT {k : Nat} {kvs : List (List Key × D)} (hk : μ[k]? = some (.dT kvs)) (q : Q (.lst (kvs.map fun p => .tup (p.1.map kD))) μ) (hc : X.calm = true := by rfl) : ACall X (.type "list") [.pr k] μ Q := fun η α H vs W r => by
  cases r with
  | cons r1 r2 =>
    cases r2
    cases r1 with
    | pr ea =>
      obtain ⟨ws, hq, rr⟩ := W.cell k _ _ ea hk
      exact xCall_of (call_list_dT hc) ⟨_, ws, rfl, .inl hq, fun p bs n ik => new_lst W (keysReps W rr ik) q n⟩
theorem RepKV.mergeT {K : PySem.W.Frag} {α : List Addr} {G : Hp} : ∀ {ws : List (List Key × V)} {kvs : List (List Key × D)} {ws0 : List (List Key × V)} {kvs0 : List (List Key × D)}, RepKV K α G ws kvs → RepKV K α G ws0 kvs0 → RepKV K α G (HF.mergeT ws0 ws) (kvs.foldl (fun acc kv => putD acc kv.1 kv.2) kvs0) := by
  intro ws kvs ws0 kvs0 r
  induction r generalizing ws0 kvs0 with
  | nil => intro q; exact q
  | @cons p q ps qs h _ ih =>
    intro r0
    have e := RepKV.put (k := p.1) h.2 r0
    have := ih e
    rw [List.foldl_cons, ← h.1]
    exact this
theorem Reps.pairsT {K : PySem.W.Frag} {α η : List Addr} {H : Hp} : ∀ {vs : List V} {kvs : List (List Key × D)}, Reps K α (msk α η H) vs (kvs.map fun kv => .tup [.kt kv.1, kv.2]) → ∃ (ps : List Addr) (ws : List (List Key × Addr × V)), vs = ps.map V.ref ∧ Paired (PrT K H) ps ws ∧ RepKV K α (msk α η H) (ws.map fun x => (x.1, x.2.2)) kvs
  | _, [], .nil => ⟨[], [], rfl, .nil, .nil⟩
  | _, (k, d) :: kvs, .cons r t => by
    obtain ⟨ps, ws, e, h1, h2⟩ := Reps.pairsT t
    cases r with
    | tup q r =>
      rename_i a vs
      cases r with
      | cons r1 r2 =>
        cases r2 with
        | cons r2 r3 =>
          cases r3
          cases r1 with
          | kt g =>
            rename_i v b
            exact ⟨a :: ps, (k, b, v) :: ws, by rw [e]; rfl, .cons ⟨SqT.unmsk q, (msk_some.mp g).2.2⟩ h1, .cons ⟨rfl, r2⟩ h2⟩
theorem acall_dictT {kvs : List (List Key × D)} {d : D} (hd : d = .lst (kvs.map fun kv => .tup [.kt kv.1, kv.2])) (hu : X.A.units + 8 < cLine) (q : Q (.pr μ.length) (μ ++ [.dT (kvs.foldl (fun acc kv => putD acc kv.1 kv.2) [])])) (hc : X.calm = true := by rfl) : ACall X (.type "dict") [d] μ Q := fun η α H vs W r => by
  subst hd
  cases r with
  | cons r1 r2 =>
    cases r2
    cases r1 with
    | lst hl r =>
      rename_i a us
      obtain ⟨ps, ws, rfl, h1, h2⟩ := r.pairsT
      refine ⟨_, PD X.K η α H Q, call_dictT hc hu, ⟨a, ps, ws, rfl, SqL.of (msk_some.mp hl).2.2, h1, fun p n => ?_⟩, fun _ _ z => z⟩
      obtain ⟨W1, l1, g⟩ := W.newCell n (o := .dT (HF.mergeT [] (ws.map fun x => (x.1, x.2.2)))) (c := .dT (kvs.foldl (fun acc kv => putD acc kv.1 kv.2) [])) fun l => ⟨_, upd_same, RepKV.le (RepKV.mergeT h2 .nil) l⟩
      exact fin_le W1 l1 (.pr g) q
def HashOk (P : Program) (w : World) (ks : List (List Key)) : Prop := ∀ p ∈ ks, ∀ q ∈ ks, tupleKeyHash (mixKind P w) p = tupleKeyHash (mixKind P w) q → p = q
theorem RepKV.fsts {κ : Type} {K : PySem.W.Frag} {α : List Addr} {G : Hp} {ws : List (κ × V)} {fs : List (κ × D)} (r : RepKV K α G ws fs) : ws.map (·.1) = fs.map (·.1) := by
  induction r with
  | nil => rfl
  | cons h t ih => rw [List.map_cons, List.map_cons, h.1, ih]
theorem amt_updateT {j k : Nat} {kvs more : List (List Key × D)} (hj : μ[j]? = some (.dT kvs)) (hk : μ[k]? = some (.dT more)) (hjk : j ≠ k) (hz : kvs.length + more.length ≤ sizeLine) (hu : X.A.units + 8 < cLine) (hh : HashOk X.prog X.w (more.map (·.1)))
    (q : Q .non (μ.set j (.dT (more.foldl (fun acc kv => putD acc kv.1 kv.2) kvs)))) : AMt X "dict" "dict.update" (.pr j) [.pr k] μ Q := fun η α H v vs W rv r => by
  cases rv with
  | pr ea =>
    cases r with
    | cons r1 r2 =>
      cases r2
      cases r1 with
      | pr eb =>
        rename_i a b
        obtain ⟨ws, hq, rr⟩ := W.cell j _ _ ea hj
        obtain ⟨us, hq2, rr2⟩ := W.cell k _ _ eb hk
        have hab : a ≠ b := fun z => hjk (by
          obtain ⟨h1, q1⟩ := List.getElem?_eq_some_iff.mp ea
          obtain ⟨h2, q2⟩ := List.getElem?_eq_some_iff.mp eb
          exact (List.getElem_inj W.nd).mp (q1.trans (z.trans q2.symm)))
        refine xMt_of (mt_updT hu) ⟨a, b, ws, us, rfl, rfl, hab, hq, hq2, by rw [rr.len, rr2.len]; exact hz, fun p hp p' hp' e => ?_, ?_⟩
        · have m1 : p.1 ∈ more.map (·.1) := by rw [← rr2.fsts]; exact List.mem_map_of_mem hp
          have m2 : p'.1 ∈ more.map (·.1) := by rw [← rr2.fsts]; exact List.mem_map_of_mem hp'
          exact hh _ m1 _ m2 e
        · obtain ⟨W1, l1⟩ := W.write ea (o := .dT (HF.mergeT ws us)) (c := .dT (more.foldl (fun acc kv => putD acc kv.1 kv.2) kvs)) ⟨_, upd_same, by rw [msk_upd (List.mem_of_getElem? ea)]; exact RepKV.mergeT rr2 rr⟩
          exact fin_le W1 l1 .non q
/-- d.m(..), a dict with tuple keys -/
theorem aE_dm {apos cpos : Pos} {name : Str} {id : String} (pa : PlainAttrs "dict") (slot : Slot "dict" name id) (hty : typeOf (.builtin id) = pure (.type "method_descriptor"))
    (h : aE X o ρ μ fun d μ1 => (∃ k kvs, d = .pr k ∧ μ1[k]? = some (.dT kvs)) ∧ aA X (e :: es) ρ μ1 fun ds μ2 => AMt X "dict" id d ds μ2 Q)
    (hbase : attributeBase o name X.env (eval o X.env) = eval o X.env := by rfl)
    (hfew : ((backTo cpos (starEach (e :: es) X.env)).all (fun x => !x.1) && (backToKw cpos (keywordEach [] X.env)).all (fun x => x.1.isSome)
      && decide ((e :: es).length + ([] : List Keyword).length + (if ([] : List Keyword).isEmpty then 0 else 1) < 30)) = true := by rfl)
    (hline : (apos.endLine == cpos.line) = true := by rfl) (hs : starEach (e :: es) X.env = (false, eval e X.env) :: starEach es X.env := by rfl) (hplain : (backTo cpos (starEach es X.env)).any (·.1) = false := by rfl) :
    aE X (.Call (.Attribute o name apos) (e :: es) [] cpos) ρ μ Q := fun η α H σ W Ev =>
  tE_of (pe_bm pa slot hty xMt_ok peE paA hbase hfew hline hs hplain) (aE_then W Ev h fun v H1 α1 μ1 d W1 l1 E1 r1 ⟨⟨k, kvs, e1, hk⟩, q⟩ => ⟨by
    subst e1
    cases r1 with
    | pr ea =>
      obtain ⟨ws, hq, rr⟩ := W1.cell k _ _ ea hk
      exact .inr (.inr (.inl ⟨rfl, .inr ⟨ws, hq⟩⟩)), aA_then W1 E1 q fun vs H2 α2 μ2 ds W2 l2 E2 r2 q2 => by
    obtain ⟨r, Q', h1, h2, h3⟩ := q2 η α2 H2 v vs W2 (r1.le l2) r2
    exact ⟨r, Q', h1, h2, fun v H z => (h3 v H z).le (l1.trans l2)⟩⟩)
theorem aE_update {apos cpos : Pos} {j : Nat} {kvs : List (List Key × D)} (h : EV X o ρ μ (.pr j)) (hj : μ[j]? = some (.dT kvs)) (ha : aE X e ρ μ fun d μ1 => ∃ k more kvs1, d = .pr k ∧ μ1[j]? = some (.dT kvs1) ∧ μ1[k]? = some (.dT more) ∧ j ≠ k ∧ kvs1.length + more.length ≤ sizeLine ∧ HashOk X.prog X.w (more.map (·.1)) ∧ Q .non (μ1.set j (.dT (more.foldl (fun acc kv => putD acc kv.1 kv.2) kvs1))))
    (hu : X.A.units + 8 < cLine)
    (hbase : attributeBase o "update" X.env (eval o X.env) = eval o X.env := by rfl)
    (hfew : ((backTo cpos (starEach [e] X.env)).all (fun x => !x.1) && (backToKw cpos (keywordEach [] X.env)).all (fun x => x.1.isSome)
      && decide ([e].length + ([] : List Keyword).length + (if ([] : List Keyword).isEmpty then 0 else 1) < 30)) = true := by rfl)
    (hline : (apos.endLine == cpos.line) = true := by rfl) (hs : starEach [e] X.env = (false, eval e X.env) :: starEach [] X.env := by rfl) (hplain : (backTo cpos (starEach [] X.env)).any (·.1) = false := by rfl) :
    aE X (.Call (.Attribute o "update" apos) [e] [] cpos) ρ μ Q :=
  aE_dm PySem.F.plainAttrs_dict PySem.F.slot_dict_update PySem.F.type_dict_update (aE_ev h ⟨⟨j, kvs, rfl, hj⟩, aA_cons (aE_mono ha fun d μ1 ⟨k, more, kvs1, e1, h1, h2, h3, h4, h5, q⟩ => aA_nil (by subst e1; exact amt_updateT h1 h2 h3 h4 hu h5 q)) hs⟩) hbase hfew hline hs hplain
/-! ### three names at once -/
theorem aS_par3 {c : Expr} {E : AEnds} (i j l : Nat) {x y z : Str} {px py pz pt : Pos} {kt k2 pt2} (h : aE X a ρ μ fun d1 μ1 => aE X b ρ μ1 fun d2 μ2 => aE X c ρ μ2 fun d3 μ3 => E.nx (((ρ.set i (some d1)).set j (some d2)).set l (some d3)) μ3) (hN : X.N.Nodup) (hi : X.N[i]? = some x := by rfl) (hj : X.N[j]? = some y := by rfl) (hl : X.N[l]? = some z := by rfl)
    (hij : i ≠ j := by decide) (hil : i ≠ l := by decide) (hjl : j ≠ l := by decide)
    (hx : X.env.scope.names.lookup x = some .local := by rfl) (hy : X.env.scope.names.lookup y = some .local := by rfl) (hz : X.env.scope.names.lookup z = some .local := by rfl)
    (hw : swappedStores [.Tuple [.Name x px, .Name y py, .Name z pz] kt pt] (.Tuple [a, b, c] k2 pt2) X.env = pure (some [x, y, z]) := by rfl) (hc : X.calm = true := by rfl)
    (hs : swapsWithSole [.Tuple [.Name x px, .Name y py, .Name z pz] kt pt] (.Tuple [a, b, c] k2 pt2) pos.line X.env = pure false := by rfl)
    (s1 : starEach [a, b, c] X.env = (false, eval a X.env) :: starEach [b, c] X.env := by rfl) (s2 : starEach [b, c] X.env = (false, eval b X.env) :: starEach [c] X.env := by rfl) (s3 : starEach [c] X.env = (false, eval c X.env) :: starEach [] X.env := by rfl) :
    aS X (.Assign [.Tuple [.Name x px, .Name y py, .Name z pz] kt pt] (.Tuple [a, b, c] k2 pt2) pos) ρ μ E := fun η α H σ W Ev pins s I =>
  (ps_par3 hc hN hi hj hl hij hil hjl hx hy hz paA hw hs).run pins s σ H _ I (by
    have q : aA X [a, b, c] ρ μ fun ds μ2 => ∃ d1 d2 d3, ds = [d1, d2, d3] ∧ E.nx (((ρ.set i (some d1)).set j (some d2)).set l (some d3)) μ2 :=
      aA_cons (aE_mono h fun d1 μ1 h1 => aA_cons (aE_mono h1 fun d2 μ2 h2 => aA_cons (aE_mono h2 fun d3 μ3 h3 => aA_nil ⟨d1, d2, d3, rfl, h3⟩) s3) s2) s1
    refine aA_then W Ev q fun vs H1 α1 μ1 ds W1 l1 E1 r1 ⟨d1, d2, d3, e, z⟩ => ?_
    subst e
    cases r1 with
    | cons r1 r2 =>
      cases r2 with
      | cons r2 r3 =>
        cases r3 with
        | cons r3 r4 =>
          cases r4
          exact ⟨_, _, _, rfl, α1, μ1, _, W1, l1, ((E1.set r1 i).set r2 j).set r3 l, z⟩)
end
end HF

/-! ## A26 -/
namespace HF
open PySem PySem.Spec PyProof.Rows L2
section
variable {P : Program} {w : World} {A : Around} {E : Value → Shared → Prop} {s : Shared}
/-- sorted(xs), a list of tuples of ints -/
theorem sorted_listT {l : Addr} {vs : List Value} {L : List (Addr × List Int)} {Q : Value → Shared → Prop} (hl : s.heap.IsList l vs.toArray) (hv : vs = L.map fun q => Value.ref q.1) (h64 : L.length < 64) (ht : ∀ q ∈ L, IsT P w s.heap q.2 q.1) (hB : ∀ p ∈ L, p.2 ≠ [])
    (hQ : ∀ h' p (out : Array Value) (c : Nat) (L' : List (Addr × List Int)), (∀ b o, s.heap.get? b = some o → h'.get? b = some o) → s.heap.objs.size ≤ p →
      h'.get? p = some (seqObj "list" out c) → out.toList = L'.map (fun q => Value.ref q.1) → L'.Perm L → L'.Pairwise (fun q r => tLt r.2 q.2 = false) → Q (.ref p) { s with heap := h' }) :
    wpAny (model P w) A (call (.builtin "sorted") [.ref l]) Q E s := by
  have hvl : vs.length < 64 := by rw [hv, List.length_map]; exact h64
  refine Calls.call_function_entry kind_sorted plain_sorted entry_sorted (args_sorted1 _) ?_
  unfold Builtin.«sorted»
  refine wpAny_bind (m := checkCount "sorted" 1 1 _) (wpAny_pure ?_)
  refine wpAny_bind (collect_list hl ?_ (hsz := by rw [sizeLine_eq]; omega))
  refine wpAny_bind (wpAny_newList ?_ (by rw [sizeLine_eq]; omega))
  have k1 : ∀ b o, s.heap.get? b = some o → ((s.heap.push (seqObj "list" #[] 0)).update s.heap.objs.size (Obj.mapSeq (· ++ vs.toArray))).get? b = some o := fun b o e => by
    rw [Heap.get?_update_ne _ _ _ _ (Nat.ne_of_lt (Heap.lt_size e))]
    exact Heap.get?_push_of_some _ e
  have hge : s.heap.objs.size ≤ ((s.heap.push (seqObj "list" #[] 0)).update s.heap.objs.size (Obj.mapSeq (· ++ vs.toArray))).objs.size := by
    rw [Heap.size_update, size_push']
    exact Nat.le_succ _
  generalize ((s.heap.push (seqObj "list" #[] 0)).update s.heap.objs.size (Obj.mapSeq (· ++ vs.toArray))) = h1 at k1 hge
  have hoL : (h1.push (seqObj "list" vs.toArray 0)).get? h1.objs.size = some (seqObj "list" vs.toArray 0) := Heap.get?_push_size _ rfl
  have tk : ∀ q ∈ L, TS.TupInts (h1.push (seqObj "list" vs.toArray 0)) (.ref q.1) q.2 := fun q hq => tupInts_of (P := P) (w := w) (isT_keep (ht q hq) fun b u e => Heap.get?_push_of_some _ (k1 b u e))
  have one : ∀ q ∈ L, ∀ r ∈ L, q.1 = r.1 → q = r := fun q hq r hr e => by
    have a1 := ht q hq
    have a2 := ht r hr
    rw [e] at a1
    have e2 : q.2 = r.2 := a1.inj a2
    exact Prod.ext e e2
  have x : ∀ v ∈ vs, ∃ k, TS.TupInts (h1.push (seqObj "list" vs.toArray 0)) v k ∧ k ≠ [] := fun v hm => by
    rw [hv] at hm
    obtain ⟨q, hq, e⟩ := List.mem_map.mp hm
    rw [← e]
    exact ⟨q.2, tk q hq, hB q hq⟩
  refine wpAny_bind (wpAny_holding (call_sort_tupsL (s := { s with heap := h1.push (seqObj "list" vs.toArray 0) }) hoL hvl x fun out a1 a2 => ?_))
  obtain ⟨c, hc⟩ := sortedHeap_at (vs := vs) (out := out) hoL
  obtain ⟨g, hg⟩ : ∃ g : Value → Addr × List Int, ∀ q ∈ L, g (.ref q.1) = q := by
    refine ⟨fun v => match v with | .ref a => (L.find? fun q => decide (q.1 = a)).getD (0, []) | _ => (0, []), fun q hq => ?_⟩
    show (L.find? fun r => decide (r.1 = q.1)).getD (0, []) = q
    cases e : L.find? fun r => decide (r.1 = q.1) with
    | none => exact absurd (decide_eq_true (rfl : q.1 = q.1)) (List.find?_eq_none.mp e q hq)
    | some r =>
      have h1 := List.find?_some e
      have h2 := List.mem_of_find?_eq_some e
      exact one r h2 q hq (of_decide_eq_true h1)
  have gm : ∀ M : List (Addr × List Int), (∀ q ∈ M, q ∈ L) → (M.map fun q => Value.ref q.1).map g = M := fun M => by
    induction M with
    | nil => intro _; rfl
    | cons q M ih => intro h; rw [List.map_cons, List.map_cons, hg q (h q List.mem_cons_self), ih fun r hr => h r (List.mem_cons_of_mem _ hr)]
  have ord : ∀ us : List Value, (∀ v ∈ us, v ∈ vs) → us = (us.map g).map (fun q => Value.ref q.1) ∧ ∀ q ∈ us.map g, q ∈ L := by
    intro us
    induction us with
    | nil => intro _; exact ⟨rfl, fun q hq => (by cases hq)⟩
    | cons v us ih =>
      intro h
      obtain ⟨e1, e2⟩ := ih fun u hu => h u (List.mem_cons_of_mem _ hu)
      have hv1 := h v List.mem_cons_self
      rw [hv] at hv1
      obtain ⟨q, hq, rfl⟩ := List.mem_map.mp hv1
      refine ⟨by rw [List.map_cons, List.map_cons, hg q hq, ← e1], fun r hr => ?_⟩
      rw [List.map_cons, hg q hq] at hr
      rcases List.mem_cons.mp hr with z | z
      · rw [z]; exact hq
      · exact e2 r z
  obtain ⟨e', hs'⟩ := ord out.toList fun v hm => a1.mem_iff.mp hm
  have pL : (out.toList.map g).Perm L := by
    have := a1.map g
    rw [hv] at this
    rwa [gm L fun q hq => hq] at this
  have pw : (out.toList.map g).Pairwise (fun q r => tLt r.2 q.2 = false) := by
    rw [e'] at a2
    exact List.Pairwise.imp_of_mem (fun {q r} hq hr hle => hle _ _ (tk q (hs' q hq)) (tk r (hs' r hr))) (List.pairwise_map.mp a2)
  refine wpAny_pure ⟨_, rfl, hQ _ h1.objs.size out c _ (fun b u e => ?_) hge hc e' pL pw⟩
  have q := k1 b u e
  have hlt := Heap.lt_size q
  show (sortedHeap (h1.push (seqObj "list" vs.toArray 0)) h1.objs.size vs out).get? b = some u
  rw [sortedHeap_old (Nat.ne_of_lt hlt) (by rw [size_push']; exact Nat.lt_succ_of_lt hlt)]
  exact Heap.get?_push_of_some _ q
end
section
variable {X : Cx}
theorem cr_sortedI (hc : X.calm = true) : CallR X (.builtin "sorted") (rSortedI X.K) := by
  intro pins s σ H vs us Q I r h
  obtain ⟨a, L, rfl, ha, hk, hB, hf, q⟩ := h
  rw [Vals.ref1 r]
  obtain ⟨its, rv, pl, hz⟩ := I.list ha
  refine sorted_listT (P := X.prog) (w := X.w) (L := L) pl.isList (refs_of_vals rv) hf (fun p hp => I.isT (hk p hp)) hB fun h' p out c L' k hp hg hout pm pw => ?_
  have hlen : (L'.map fun q => V.ref q.1).length ≤ sizeLine := by rw [List.length_map, sizeLine_eq, pm.length_eq]; omega
  have hn : H p = none := I.hok.fresh hp
  have hv : Vals (L'.map fun q => V.ref q.1) out.toList := by rw [hout]; exact vals_of_refs L'
  exact ⟨.ref p, _, I.laid (t' := s.toks) k hp (show ObjOk X.prog X.w _ _ _ (.lst (L'.map fun q => V.ref q.1)) from ⟨hlen, out.toList, c, hv, hg⟩), rfl, q L' p pm pw hn⟩
theorem acall_sortedI {μ : Sto} {Q : DK} {d : D} {ks : List (List Int)} (hd : IsL μ d (ks.map encI)) (hf : ks.length < 64) (hne : ∀ k ∈ ks, k ≠ []) (q : ∀ ks' : List (List Int), ks'.Perm ks → ks'.Pairwise (fun a b => tLt b a = false) → Q (.lst (ks'.map encI)) μ) (hc : X.calm = true := by rfl) : ACall X (.builtin "sorted") [d] μ Q := fun η α H vs W r => by
  cases r with
  | cons r1 r2 =>
    cases r2
    obtain ⟨a, us, rfl, hl, r⟩ := hd.at W r1
    obtain ⟨zs, rfl, e2, e3⟩ := r.tupsI
    refine xCall_of (cr_sortedI hc) ⟨a, zs, rfl, SqL.of hl, fun p hp => SqT.unmsk (e3 p hp), fun p hp => hne _ (by rw [← e2]; exact List.mem_map_of_mem hp), by rw [← List.length_map (f := (·.2)), e2]; exact hf, fun L' p pm pw hp => ?_⟩
    exact new_lst W (Reps.of_tupsI L' fun z hz => e3 z (pm.mem_iff.mp hz)) (q (L'.map (·.2)) (by rw [← e2]; exact pm.map _) (List.pairwise_map.mpr pw)) hp
end
end HF

/-! ## M1 -/
namespace HF
open PySem PySem.Spec PyProof.Rows L2
/-! ### the data, and what the defs compute -/
inductive Ev where
  | look (p : Nat) | add (p : Nat) | meet (p q : Nat) | tell (p q : Nat)
  deriving DecidableEq
def Ev.word : Ev → Str
  | .look _ => "look"
  | .add _ => "add"
  | .meet _ _ => "meet"
  | .tell _ _ => "tell"
def Ev.who : Ev → Nat
  | .look p => p
  | .add p => p
  | .meet p _ => p
  | .tell p _ => p
def Ev.enc : Ev → D
  | .look p => .tup [.str "look", nD p]
  | .add p => .tup [.str "add", nD p]
  | .meet p q => .tup [.str "meet", nD p, nD q]
  | .tell p q => .tup [.str "tell", nD p, nD q]
def Ev.Ok (f : Nat) : Ev → Prop
  | .look p => p < f
  | .add p => p < f
  | .meet p q => p < f ∧ q < f
  | .tell p q => p < f ∧ q < f
structure Tab where
  folk : Nat
  evs : List Ev
def Tab.enc (t : Tab) : D := .tup [nD t.folk, .tup (t.evs.map Ev.enc)]
structure Tab.Ok (t : Tab) : Prop where
  len : t.evs.length ≤ 30
  folk : t.folk ≤ 40
  evs : ∀ e ∈ t.evs, e.Ok t.folk
/-- places of the events with a word -/
def evsOf (t : Tab) (w : Str) : List (Nat × Nat) := (t.evs.zipIdx.filter fun e => decide (e.1.word = w)).map fun e => (e.2, e.1.who)
abbrev pairsD (l : List (Nat × Nat)) : D := .lst (l.map pD)
def Tab.looks (t : Tab) : List (Nat × Nat) := evsOf t "look"
def Tab.adds (t : Tab) : List (Nat × Nat) := evsOf t "add"
def Tab.n (t : Tab) : Nat := t.looks.length
def Tab.lk (t : Tab) (i : Nat) : Nat × Nat := t.looks.getD i (0, 0)
theorem Tab.lk_get {t : Tab} {i : Nat} (h : i < t.n) : t.looks[i]? = some (t.lk i) := by
  unfold Tab.lk
  rw [List.getD_eq_getElem?_getD, List.getElem?_eq_getElem h]
  rfl
theorem evsOf_len (t : Tab) (w : Str) : (evsOf t w).length ≤ t.evs.length := by
  unfold evsOf
  rw [List.length_map]
  exact Nat.le_trans (List.length_filter_le _ _) (by rw [List.length_zipIdx]; exact Nat.le_refl _)
theorem Tab.Ok.n30 {t : Tab} (h : t.Ok) : t.n ≤ 30 := Nat.le_trans (evsOf_len t _) h.len
theorem Tab.Ok.n {t : Tab} (h : t.Ok) : t.n ≤ 40 := Nat.le_trans h.n30 (by decide)
theorem Tab.Ok.adds {t : Tab} (h : t.Ok) : t.adds.length ≤ 40 := Nat.le_trans (Nat.le_trans (evsOf_len t _) h.len) (by decide)
/-- begin < place < end and adder == person -/
def Tab.late (t : Tab) (i j : Nat) : Bool := t.adds.any fun a => (decide ((t.lk i).1 < a.1) && decide (a.1 < (t.lk j).1)) && decide (a.2 = (t.lk j).2)
abbrev Ps := List (Nat × Nat)
def bindL (A : Ps) (i j : Nat) : Ps := if i = j ∨ (i, j) ∈ A then A else addP (addP A (i, j)) (j, i)
def lowerL (B : Ps) (i j : Nat) : Ps := if i = j ∨ (i, j) ∈ B then B else addP B (i, j)
/-- sorted(set(..)) of numbers below 64 -/
def uni (l : List Nat) : List Nat := (List.range 64).filter fun i => decide (i ∈ l)
structure GS where
  num : Nat
  hs : List (List Nat)
  A : Ps
  B : Ps
def GS.has (s : GS) (p : Nat) : List Nat := s.hs.getD p []
def crossA : List Nat → Ps → Ps
  | [], A => A
  | x :: r, A => crossA r (r.foldl (fun A y => bindL A x y) A)
def lastA (l m : List Nat) (A : Ps) : Ps := match l.getLast?, m.getLast? with
  | some x, some y => bindL A x y
  | _, _ => A
def GS.cmp (long meet : Bool) (s : GS) (p q : Nat) : GS :=
  if long = true then
    let both := uni (s.has p ++ s.has q)
    { s with A := crossA both s.A, hs := if meet = true then (s.hs.set q both).set p both else s.hs.set q both }
  else { s with A := lastA (s.has p) (s.has q) s.A }
def GS.step (long : Bool) (s : GS) : Ev → GS
  | .look p => { num := s.num + 1, hs := s.hs.set p (s.has p ++ [s.num]), A := s.A, B := (s.has p).foldl (fun B o => lowerL B o s.num) s.B }
  | .add _ => s
  | .meet p q => s.cmp long true p q
  | .tell p q => s.cmp long false p q
def GS.init (f : Nat) : GS := ⟨0, List.replicate f [], [], []⟩
def Tab.run (t : Tab) (long : Bool) : GS := t.evs.foldl (GS.step long) (.init t.folk)
/-- a pair of relations that the rules leave as it is -/
structure Closed (n : Nat) (late : Nat → Nat → Bool) (α β : Nat → Nat → Prop) : Prop where
  sym : ∀ i j, α i j → α j i
  up : ∀ i j, i < n → j < n → i ≠ j → β i j → α i j
  lo : ∀ i j k, i < n → j < n → k < n → i ≠ k → β i j → β j k → β i k
  al : ∀ i j k, i < n → j < n → k < n → i ≠ k → k ≠ j → β i j → α j k → α i k
  la : ∀ i j, i < n → j < n → i ≠ j → α i j → late i j = true → β i j
def Holds (A : Ps) (α : Nat → Nat → Prop) : Prop := ∀ p ∈ A, α p.1 p.2
/-- the least ones over what the events say, and M -/
def Tab.alP (t : Tab) (long : Bool) (M : Ps) (i j : Nat) : Prop := ∀ α β, Closed t.n t.late α β → Holds (t.run long).A α → Holds M α → Holds (t.run long).B β → α i j
def Tab.beP (t : Tab) (long : Bool) (M : Ps) (i j : Nat) : Prop := ∀ α β, Closed t.n t.late α β → Holds (t.run long).A α → Holds M α → Holds (t.run long).B β → β i j
open Classical in
noncomputable def Tab.al (t : Tab) (long : Bool) (M : Ps) (i j : Nat) : Bool := decide (i = j) || decide (t.alP long M i j)
open Classical in
noncomputable def Tab.be (t : Tab) (long : Bool) (M : Ps) (i j : Nat) : Bool := decide (t.beP long M i j)
def Tab.has (t : Tab) (long : Bool) (p : Nat) : List Nat := (t.run long).has p
/-- what a Bonds knows -/
structure Knows (t : Tab) (long : Bool) (M A B : Ps) : Prop where
  a : ∀ i j, (i, j) ∈ A ↔ t.alP long M i j
  b : ∀ i j, (i, j) ∈ B ↔ t.beP long M i j
theorem Knows.al {t : Tab} {long : Bool} {M A B : Ps} (h : Knows t long M A B) (i j : Nat) : (decide (i = j) || decide ((i, j) ∈ A)) = t.al long M i j := by
  unfold Tab.al
  congr 1
  by_cases z : (i, j) ∈ A
  · rw [decide_eq_true z]
    exact (@decide_eq_true _ (_) ((h.a i j).mp z)).symm
  · rw [decide_eq_false z]
    exact (@decide_eq_false _ (_) fun q => z ((h.a i j).mpr q)).symm
theorem Knows.be {t : Tab} {long : Bool} {M A B : Ps} (h : Knows t long M A B) (i j : Nat) : decide ((i, j) ∈ B) = t.be long M i j := by
  unfold Tab.be
  by_cases z : (i, j) ∈ B
  · rw [decide_eq_true z]
    exact (@decide_eq_true _ (_) ((h.b i j).mp z)).symm
  · rw [decide_eq_false z]
    exact (@decide_eq_false _ (_) fun q => z ((h.b i j).mpr q)).symm
end HF

/-! ## A25 -/
namespace HF
open PySem PySem.Spec PyProof.Rows L2
def hash2 (i j : Nat) : Int := reduceHash (Builtin.Tuple.tupleHashOf [hashInt (i : Int), hashInt (j : Int)])
def hashL : List (Int × (Nat × Nat)) := (List.range 8).flatMap fun i => (List.range 8).map fun j => (hash2 i j, (i, j))
theorem hashL_ok : (hashL.all fun x => hashL.all fun y => !decide (x.1 = y.1) || decide (x.2 = y.2)) = true := by decide +kernel
theorem hash_small {P : Program} {w : World} {p q : Nat × Nat} (h1 : p.1 < 8) (h2 : p.2 < 8) (h3 : q.1 < 8) (h4 : q.2 < 8) (e : tupleKeyHash (mixKind P w) (pK p) = tupleKeyHash (mixKind P w) (pK q)) : p = q := by
  have e2 : hash2 p.1 p.2 = hash2 q.1 q.2 := e
  have m : ∀ r : Nat × Nat, r.1 < 8 → r.2 < 8 → (hash2 r.1 r.2, r) ∈ hashL := fun r a b => List.mem_flatMap.mpr ⟨r.1, List.mem_range.mpr a, List.mem_map.mpr ⟨r.2, List.mem_range.mpr b, rfl⟩⟩
  have := List.all_eq_true.mp (List.all_eq_true.mp hashL_ok _ (m p h1 h2)) _ (m q h3 h4)
  simp only [Bool.or_eq_true, Bool.not_eq_true', decide_eq_false_iff_not, decide_eq_true_eq] at this
  exact this.elim (fun z => absurd e2 z) id
theorem hashOk_small {P : Program} {w : World} {l : Ps} (h : ∀ p ∈ l, p.1 < 8 ∧ p.2 < 8) : HashOk P w ((encP l).map (·.1)) := fun a ha b hb e => by
  obtain ⟨x, hx, rfl⟩ := List.mem_map.mp ha
  obtain ⟨y, hy, rfl⟩ := List.mem_map.mp hb
  obtain ⟨p, hp, rfl⟩ := List.mem_map.mp hx
  obtain ⟨q, hq, rfl⟩ := List.mem_map.mp hy
  have := hash_small (P := P) (w := w) (h p hp).1 (h p hp).2 (h q hq).1 (h q hq).2 e
  rw [this]
section
variable {X : Cx} {μ : Sto} {Q : DK}
theorem acall_lenK {k : Nat} {kvs : List (Key × D)} (hk : μ[k]? = some (.dK kvs)) (q : Q (nD kvs.length) μ) : ACall X (.builtin "len") [.pr k] μ Q := fun η α H vs W r => by
  cases r with
  | cons r1 r2 =>
    cases r2
    cases r1 with
    | pr ea =>
      obtain ⟨ws, hq, rr⟩ := W.cell k _ _ ea hk
      exact xCall_of call_lenD ⟨_, ws, rfl, hq, by rw [rr.len]; exact fin0 W .int q⟩
end
/-! ### sets of pairs of small numbers -/
def addAll (A l : Ps) : Ps := l.foldl addP A
theorem addAll_D (l : Ps) : ∀ A : Ps, (encP l).foldl (fun acc kv => putD acc kv.1 kv.2) (encP A) = encP (addAll A l) := by
  induction l with
  | nil => intro A; rfl
  | cons p l ih =>
    intro A
    show List.foldl _ (putD (encP A) (pK p) (.bl true)) (encP l) = _
    rw [putD_encP, ih]
    rfl
structure Sm (n : Nat) (A : Ps) : Prop where
  nd : A.Nodup
  bd : ∀ p ∈ A, p.1 < n ∧ p.2 < n
theorem Sm.nil {n : Nat} : Sm n [] := ⟨List.nodup_nil, fun p hp => (by cases hp)⟩
theorem addP_ge {A : Ps} {p : Nat × Nat} : A.length ≤ (addP A p).length := by
  unfold addP
  split
  · exact Nat.le_refl _
  · rw [List.length_append]; omega
theorem Sm.add {n : Nat} {A : Ps} (h : Sm n A) {p : Nat × Nat} (h1 : p.1 < n) (h2 : p.2 < n) : Sm n (addP A p) := by
  refine ⟨?_, fun q hq => ?_⟩
  · unfold addP
    split
    · exact h.nd
    · rename_i hn
      rw [List.nodup_append]
      exact ⟨h.nd, by simp, fun x hx y hy z => hn (by rw [List.mem_singleton.mp hy] at z; rw [← z]; exact hx)⟩
  · rcases mem_addP.mp hq with z | z
    · exact h.bd q z
    · rw [z]; exact ⟨h1, h2⟩
theorem Sm.addAll {n : Nat} : ∀ {l A : Ps}, Sm n A → (∀ p ∈ l, p.1 < n ∧ p.2 < n) → Sm n (HF.addAll A l)
  | [], _, h, _ => h
  | p :: l, A, h, k => Sm.addAll (l := l) (A := addP A p) (h.add (k p List.mem_cons_self).1 (k p List.mem_cons_self).2) fun q hq => k q (List.mem_cons_of_mem _ hq)
theorem addAll_len : ∀ {l A : Ps}, A.length ≤ (HF.addAll A l).length
  | [], _ => Nat.le_refl _
  | p :: l, A => Nat.le_trans (addP_ge (p := p)) (addAll_len (l := l) (A := addP A p))
theorem nodup_bd' {l : List Nat} {n : Nat} (h : l.Nodup) (b : ∀ x ∈ l, x < n) : l.length ≤ n := by
  induction n generalizing l with
  | zero =>
    cases l with
    | nil => exact Nat.le_refl _
    | cons x l => exact absurd (b x List.mem_cons_self) (Nat.not_lt_zero _)
  | succ n ih =>
    have h1 := ih (l := l.filter fun x => decide (x < n)) (h.filter _) fun x hx => of_decide_eq_true (List.mem_filter.mp hx).2
    have h2 : l.length ≤ (l.filter fun x => decide (x < n)).length + 1 := by
      have : ∀ m : List Nat, m.Nodup → (∀ x ∈ m, x < n + 1) → m.length ≤ (m.filter fun x => decide (x < n)).length + 1 := fun m => by
        induction m with
        | nil => intro _ _; exact Nat.zero_le _
        | cons x m ihm =>
          intro hn hb
          rw [List.nodup_cons] at hn
          by_cases hx : x < n
          · rw [List.filter_cons_of_pos (by rw [decide_eq_true hx]), List.length_cons, List.length_cons]
            exact Nat.succ_le_succ (ihm hn.2 fun y hy => hb y (List.mem_cons_of_mem _ hy))
          · have hxn : x = n := by have := hb x List.mem_cons_self; omega
            rw [List.filter_cons_of_neg (by rw [decide_eq_false hx]; exact Bool.false_ne_true)]
            have : m.filter (fun y => decide (y < n)) = m := List.filter_eq_self.mpr fun y hy => decide_eq_true (by
              have h3 := hb y (List.mem_cons_of_mem _ hy)
              have h4 : y ≠ x := fun z => hn.1 (z ▸ hy)
              omega)
            rw [this, List.length_cons]
            exact Nat.le_refl _
      exact this l h b
    omega
theorem Sm.len {n : Nat} {A : Ps} (h : Sm n A) : A.length ≤ n * n := by
  have h1 : (A.map fun p => p.1 * n + p.2).Nodup := nodup_map_on h.nd fun p hp q hq e => by
    have ⟨a1, a2⟩ := h.bd p hp
    have ⟨b1, b2⟩ := h.bd q hq
    have e1 : p.1 = q.1 := by
      have z1 : (p.1 * n + p.2) / n = p.1 := by rw [Nat.mul_comm, Nat.mul_add_div (by omega), Nat.div_eq_of_lt a2, Nat.add_zero]
      have z2 : (q.1 * n + q.2) / n = q.1 := by rw [Nat.mul_comm, Nat.mul_add_div (by omega), Nat.div_eq_of_lt b2, Nat.add_zero]
      rw [← z1, ← z2, e]
    rw [e1] at e
    exact Prod.ext e1 (by omega)
  have := nodup_bd' h1 (n := n * n) fun x hx => by
    obtain ⟨p, hp, rfl⟩ := List.mem_map.mp hx
    have ⟨a1, a2⟩ := h.bd p hp
    have : p.1 * n + n ≤ n * n := by
      have := Nat.mul_le_mul_right n (Nat.succ_le_of_lt a1)
      rwa [Nat.succ_mul] at this
    omega
  rwa [List.length_map] at this
end HF

/-! ## P2 -/
namespace HF
open PySem PySem.Spec PyProof.Rows L2
variable {P : Program} {w : World} {K : PySem.W.Frag} {mg : Str → Option Value} {base : Heap}
def spEventsOf : ASp := fun ds μ R => ∃ (t : Tab) (w : Str), ds = [t.enc, .str w] ∧ t.evs.length ≤ 100 ∧ R (pairsD (evsOf t w)) μ
theorem Ev.at0 (e : Ev) : ∃ r, e.enc = .tup (.str e.word :: nD e.who :: r) := by cases e <;> exact ⟨_, rfl⟩
theorem ok_eventsOf (G : Facts K mg) : AOk P w K mg base 1 G.eventsOf.f G.eventsOf.fd ["timetable", "word"] spEventsOf := by
  refine fnA G.eventsOf.F sc_eventsOf (fun ds μ R h => ?_) fun cdv A outer s H E ds μ R hr h => ?_
  · obtain ⟨t, w, rfl, _⟩ := h
    rfl
  · obtain ⟨t, w, rfl, hl, q⟩ := h
    refine aSs_one (aS_ret (aE_lc (c := false) (own := [("place", 2), ("event", 3)]) (lcp (L := t.evs.zipIdx) (enc := fun p => .tup [.int (p.2 : Nat), p.1.enc]) (pr := fun e => decide (e.1.word = w)) (g := fun e => pD (e.2, e.1.who))
      (env := fun e => [some t.enc, some (.str w), some (.int (e.2 : Nat)), some e.1.enc]) ?_ ?_ ?_ ?_ ?_ ?_) (blkOk_by (by kernel_rfl)) sc_eventsOf.nd))
    · rw [← enumD_map]
      exact vi_enumT G.n_enumerate (ev_t (i := 1) (ev_v 0))
    · rw [List.length_zipIdx]; exact small1000 (by omega)
    · intro e _ s H C cl fp
      exact aGc_tup (aGcs_cons (aGc_name (i := 2) (aGcs_cons (aGc_name (i := 3) (aGcs_nil ⟨rfl, rfl⟩) sc_eventsOf.nd)) sc_eventsOf.nd))
    · intro e _ s H C cl fp
      obtain ⟨r, hr⟩ := e.1.at0
      exact tvs_one (tv_eqS (ev_t (i := 0) (ev_cast (ev_v 3) hr)) (ev_v 1))
    · intro e _ _ s H C cl fp
      obtain ⟨r, hr⟩ := e.1.at0
      exact ev_tup (va_cons (ev_v 2) (va_cons (ev_t (i := 1) (ev_cast (ev_v 3) hr)) va_nil))
    · show ∃ d2 μ2, Exit μ _ μ d2 μ2 ∧ R d2 μ2
      refine ⟨_, _, Exit.same, ?_⟩
      have : pairsD (evsOf t w) = .lst ((t.evs.zipIdx.filter fun e => decide (e.1.word = w)).map fun e => pD (e.2, e.1.who)) := by
        unfold pairsD evsOf
        rw [List.map_map]
        rfl
      rw [← this]
      exact q
/-- the same answer, the cells as they were -/
theorem endR {μ0 μ : Sto} {R : DK} {d : D} (q : R d μ) : (ends μ0 R).rt d μ := ⟨_, _, Exit.same, q⟩
theorem endN {μ0 μ : Sto} {R : DK} {ρ : AEnv} (q : R .non μ) : (ends μ0 R).nx ρ μ := ⟨_, _, Exit.same, q⟩
def spLooks : ASp := fun ds μ R => ∃ t : Tab, ds = [t.enc] ∧ t.evs.length ≤ 100 ∧ R (pairsD t.looks) μ
theorem ok_looks (G : Facts K mg) : AOk P w K mg base 2 G.looks.f G.looks.fd ["timetable"] spLooks := by
  refine fnA G.looks.F sc_looks (fun ds μ R h => ?_) fun cdv A outer s H E ds μ R hr h => ?_
  · obtain ⟨t, rfl, _⟩ := h
    rfl
  · obtain ⟨t, rfl, hl, q⟩ := h
    obtain ⟨tk, hg⟩ := G.g_LOOK
    exact aSs_one (aS_ret (aE_def G.eventsOf (ok_eventsOf G) hr (aA_ev (va_cons (ev_v 0) (va_cons (ev_g hg) va_nil)) ⟨t, _, rfl, hl, endR q⟩)))
def spAdds : ASp := fun ds μ R => ∃ t : Tab, ds = [t.enc] ∧ t.evs.length ≤ 100 ∧ R (pairsD t.adds) μ
theorem ok_adds (G : Facts K mg) : AOk P w K mg base 2 G.adds.f G.adds.fd ["timetable"] spAdds := by
  refine fnA G.adds.F sc_adds (fun ds μ R h => ?_) fun cdv A outer s H E ds μ R hr h => ?_
  · obtain ⟨t, rfl, _⟩ := h
    rfl
  · obtain ⟨t, rfl, hl, q⟩ := h
    obtain ⟨tk, hg⟩ := G.g_ADD
    exact aSs_one (aS_ret (aE_def G.eventsOf (ok_eventsOf G) hr (aA_ev (va_cons (ev_v 0) (va_cons (ev_g hg) va_nil)) ⟨t, _, rfl, hl, endR q⟩)))
theorem pairsD_len {l : Ps} : (l.map pD).length = l.length := List.length_map ..
def spCheckLook : ASp := fun ds μ R => ∃ (t : Tab) (i : Nat), ds = [t.enc, nD i] ∧ t.evs.length ≤ 100 ∧ i < t.n ∧ R .non μ
theorem ok_checkLook (G : Facts K mg) : AOk P w K mg base 3 G.checkLook.f G.checkLook.fd ["timetable", "number"] spCheckLook := by
  refine fnA G.checkLook.F sc_checkLook (fun ds μ R h => ?_) fun cdv A outer s H E ds μ R hr h => ?_
  · obtain ⟨t, i, rfl, _⟩ := h
    rfl
  · obtain ⟨t, i, rfl, hl, hi, q⟩ := h
    refine aSs_one (aS_if (aT_ev (tv_not (tv_chain (k := true) (k' := true) ev_int (ev_v 1) ?_ (ev_len G.n_len (aE_def G.looks (ok_looks G) hr (aA_ev (va_cons (ev_v 0) va_nil) ⟨t, rfl, hl, rfl, rfl⟩)) isl) ?_)) ?_))
    · exact aop_le ⟨by rw [decide_eq_true (Int.natCast_nonneg i)], rfl⟩
    · refine aop_lt ⟨?_, rfl⟩
      rw [pairsD_len, decide_eq_true]
      exact Int.ofNat_lt.mpr hi
    · exact aSs_nil (endN q)

/-! ### Bonds -/
def bFs (t : Tab) (kind : Str) (k : Nat) : List (Str × D) := [("own_people", nD t.folk), ("own_events", .tup (t.evs.map Ev.enc)), ("own_kind", .str kind), ("own_gone", .lst []), ("own_looks", pairsD t.looks), ("own_adds", pairsD t.adds),
  ("own_alike", .pr (k + 1)), ("own_below", .pr (k + 2)), ("own_has", .pr (k + 3)), ("own_facts", .pr (k + 4))]
def bc (C : Addr) (t : Tab) (kind : Str) (k : Nat) (A B : Ps) (hs : List (List Nat)) (fl : List D) : Sto := [.ins C (bFs t kind k), .dT (encP A), .dT (encP B), .dK (encH hs), .lst fl]
/-- the cells of a Bonds at k -/
structure BAt (C : Addr) (t : Tab) (kind : Str) (k : Nat) (A B : Ps) (hs : List (List Nat)) (μ : Sto) : Prop where
  at_ : ∃ pre fl post, pre.length = k ∧ μ = pre ++ (bc C t kind k A B hs fl ++ post)
section
variable {C : Addr} {t : Tab} {kind : Str} {k : Nat} {A B : Ps} {hs : List (List Nat)} {μ : Sto}
theorem BAt.ins (h : BAt C t kind k A B hs μ) : IsI μ (.pr k) C (bFs t kind k) := by
  obtain ⟨pre, fl, post, e, rfl⟩ := h
  exact ⟨k, rfl, get_at (i := 0) e⟩
theorem BAt.gA (h : BAt C t kind k A B hs μ) : μ[k + 1]? = some (.dT (encP A)) := by
  obtain ⟨pre, fl, post, e, rfl⟩ := h
  exact get_at (i := 1) e
theorem BAt.gB (h : BAt C t kind k A B hs μ) : μ[k + 2]? = some (.dT (encP B)) := by
  obtain ⟨pre, fl, post, e, rfl⟩ := h
  exact get_at (i := 2) e
theorem BAt.gH (h : BAt C t kind k A B hs μ) : μ[k + 3]? = some (.dK (encH hs)) := by
  obtain ⟨pre, fl, post, e, rfl⟩ := h
  exact get_at (i := 3) e
theorem BAt.post (h : BAt C t kind k A B hs μ) (ext : Sto) : BAt C t kind k A B hs (μ ++ ext) := by
  obtain ⟨pre, fl, post, e, rfl⟩ := h
  exact ⟨pre, fl, post ++ ext, e, by simp only [List.append_assoc]⟩
end
def spMany (C : Addr) : ASp := fun ds μ R => ∃ t kind k A B hs, ds = [.pr k] ∧ BAt C t kind k A B hs μ ∧ R (nD t.n) μ
theorem ok_bMany (G : Facts K mg) : AOk P w K mg base 1 G.bMany.f G.bMany.fd ["self"] (spMany G.CBonds) := by
  refine fnA G.bMany.F sc_bMany (fun ds μ R h => ?_) fun cdv A outer s H E ds μ R hr h => ?_
  · obtain ⟨t, kind, k, A, B, hs, rfl, _⟩ := h
    rfl
  · obtain ⟨t, kind, k, A, B, hs, rfl, b, q⟩ := h
    refine aSs_one (aS_ret (aE_mono (ev_len G.n_len (ev_fld (d := pairsD t.looks) G.clsBonds G.naB_own_looks (ev_v 0) b.ins rfl) isl) fun d μ1 ⟨e1, e2⟩ => ?_))
    subst e1 e2
    rw [pairsD_len]
    exact endR q
def spAlike (C : Addr) : ASp := fun ds μ R => ∃ t kind k A B hs, ∃ i j : Nat, ds = [.pr k, nD i, nD j] ∧ BAt C t kind k A B hs μ ∧ R (.bl (decide (i = j) || decide ((i, j) ∈ A))) μ
theorem ev_inT {X : Cx} {o : Expr} {ρ : AEnv} {μ : Sto} {pos p1 : Pos} {x1} {j : Nat} {A : Ps} {es : List Expr} {a b : Nat} (hu : X.A.units + 1 < cLine) (hi : EVA X es ρ μ [nD a, nD b]) (ho : EV X o ρ μ (.pr j)) (hj : μ[j]? = some (.dT (encP A))) (h1 : behindInMarks .In o = false := by rfl) :
    EV X (.Compare (.Tuple es x1 p1) [.In] [o] pos) ρ μ (.bl (decide ((a, b) ∈ A))) := aE_dinT (ks := pK (a, b)) hu (aA_mono hi fun _ _ ⟨e1, e2⟩ => ⟨e1, by show 2 ≤ 100; decide, e2⟩) ho hj ⟨by rw [valD_encP], rfl⟩ h1
theorem ok_bIsAlike (G : Facts K mg) : AOk P w K mg base 1 G.bIsAlike.f G.bIsAlike.fd ["self", "one", "other"] (spAlike G.CBonds) := by
  refine fnA G.bIsAlike.F sc_bIsAlike (fun ds μ R h => ?_) fun cdv A outer s H E ds μ R hr h => ?_
  · obtain ⟨t, kind, k, A, B, hs, i, j, rfl, _⟩ := h
    rfl
  · obtain ⟨t, kind, k, A, B, hs, i, j, rfl, b, q⟩ := h
    exact aSs_one (aS_ret (aE_ev (ev_or (ev_eqN (ev_v 1) (ev_v 2)) fun _ => ev_inT (hu_of hr) (va_cons (ev_v 1) (va_cons (ev_v 2) va_nil)) (ev_fld (d := .pr (k + 1)) G.clsBonds G.naB_own_alike (ev_v 0) b.ins rfl) b.gA) (endR q)))
def spBelow (C : Addr) : ASp := fun ds μ R => ∃ t kind k A B hs, ∃ i j : Nat, ds = [.pr k, nD i, nD j] ∧ BAt C t kind k A B hs μ ∧ R (.bl (decide ((i, j) ∈ B))) μ
theorem ok_bIsBelow (G : Facts K mg) : AOk P w K mg base 1 G.bIsBelow.f G.bIsBelow.fd ["self", "one", "other"] (spBelow G.CBonds) := by
  refine fnA G.bIsBelow.F sc_bIsBelow (fun ds μ R h => ?_) fun cdv A outer s H E ds μ R hr h => ?_
  · obtain ⟨t, kind, k, A, B, hs, i, j, rfl, _⟩ := h
    rfl
  · obtain ⟨t, kind, k, A, B, hs, i, j, rfl, b, q⟩ := h
    exact aSs_one (aS_ret (aE_ev (ev_inT (hu_of hr) (va_cons (ev_v 1) (va_cons (ev_v 2) va_nil)) (ev_fld (d := .pr (k + 2)) G.clsBonds G.naB_own_below (ev_v 0) b.ins rfl) b.gB) (endR q)))
/-- d[p], d a dict of lists by number -/
theorem ev_ixH {X : Cx} {o i : Expr} {ρ : AEnv} {μ : Sto} {pos : Pos} {j p : Nat} {hs : List (List Nat)} (hu : X.A.units + 1 < cLine) (ho : EV X o ρ μ (.pr j)) (hi : EV X i ρ μ (nD p)) (hj : μ[j]? = some (.dK (encH hs))) (hp : p < hs.length) (hs' : NoSl i := by exact fun _ _ => rfl) :
    EV X (.Subscript o i pos) ρ μ (.lst ((hs.getD p []).map nD)) := aE_dget hu ho hi hj rfl (valD_encH (by rw [List.getD_eq_getElem?_getD, List.getElem?_eq_getElem hp]; rfl)) ⟨rfl, rfl⟩ hs'
def spHas (C : Addr) : ASp := fun ds μ R => ∃ t kind k A B hs, ∃ p : Nat, ds = [.pr k, nD p] ∧ BAt C t kind k A B hs μ ∧ p < hs.length ∧ R (.lst ((hs.getD p []).map nD)) μ
theorem ok_bHas (G : Facts K mg) : AOk P w K mg base 1 G.bHas.f G.bHas.fd ["self", "person"] (spHas G.CBonds) := by
  refine fnA G.bHas.F sc_bHas (fun ds μ R h => ?_) fun cdv A outer s H E ds μ R hr h => ?_
  · obtain ⟨t, kind, k, A, B, hs, p, rfl, _⟩ := h
    rfl
  · obtain ⟨t, kind, k, A, B, hs, p, rfl, b, hp, q⟩ := h
    exact aSs_one (aS_ret (aE_ev (ev_list G.n_list (ev_ixH (hu_of hr) (ev_fld (d := .pr (k + 3)) G.clsBonds G.naB_own_has (ev_v 0) b.ins rfl) (ev_v 1) b.gH hp) isl) (endR q)))
end HF

/-! ## P3 -/
namespace HF
open PySem PySem.Spec PyProof.Rows L2
section
variable {X : Cx} {e a b c o i : Expr} {es : List Expr} {ρ : AEnv} {μ : Sto} {Q : DK} {pos pos' apos cpos p p1 : Pos} {E : AEnds} {k : Nat} {xs : List D} {x1 : ExprCtx}
/-- o.append(e) -/
theorem aE_append (ho : EV X o ρ μ (.pr k)) (hk : μ[k]? = some (.lst xs)) (he : aE X e ρ μ fun d μ1 => ∃ xs, μ1[k]? = some (.lst xs) ∧ xs.length < sizeLine ∧ Q .non (μ1.set k (.lst (xs ++ [d]))))
    (hbase : attributeBase o "append" X.env (eval o X.env) = eval o X.env := by rfl)
    (hfew : ((backTo cpos (starEach [e] X.env)).all (fun x => !x.1) && (backToKw cpos (keywordEach [] X.env)).all (fun x => x.1.isSome)
      && decide ([e].length + ([] : List Keyword).length + (if ([] : List Keyword).isEmpty then 0 else 1) < 30)) = true := by rfl)
    (hline : (apos.endLine == cpos.line) = true := by rfl) (hs : starEach [e] X.env = (false, eval e X.env) :: starEach [] X.env := by rfl) (hplain : (backTo cpos (starEach [] X.env)).any (·.1) = false := by rfl) :
    aE X (.Call (.Attribute o "append" apos) [e] [] cpos) ρ μ Q :=
  aE_lm PySem.F.plainAttrs_list PySem.F.slot_list_append PySem.F.type_list_append (aE_ev ho ⟨⟨xs, .p hk⟩, aA_cons (aE_mono he fun d μ1 ⟨ys, h1, h2, h3⟩ => aA_nil (amt_append h1 h2 h3)) hs⟩) hbase hfew hline hs hplain
end
theorem EVA.p2 {X : Cx} {es : List Expr} {ρ : AEnv} {μ : Sto} {a b : Nat} (h : EVA X es ρ μ [nD a, nD b]) : aA X es ρ μ fun ds μ1 => ds = (pK (a, b)).map kD ∧ (pK (a, b)).length ≤ 100 ∧ μ1 = μ :=
  aA_mono h fun _ _ ⟨e1, e2⟩ => ⟨e1, by show 2 ≤ 100; decide, e2⟩
/-- what may stand as a source -/
def SrcD (d : D) : Prop := (∃ xs, d = .lst xs ∧ cloL 0 xs = true) ∨ ∃ xs, d = .tup xs ∧ cloL 0 xs = true
variable {P : Program} {w : World} {K : PySem.W.Frag} {mg : Str → Option Value} {base : Heap}
theorem encP_len (A : Ps) : (encP A).length = A.length := List.length_map ..
theorem addP_len {A : Ps} {p : Nat × Nat} : (addP A p).length ≤ A.length + 1 := by
  unfold addP
  split
  · exact Nat.le_succ _
  · rw [List.length_append]; exact Nat.le_refl _
theorem clo_nil {n : Nat} : cloL n [] = true := by unfold cloL; rfl
theorem clo_one {n : Nat} {d : D} (h : d.clo n = true) : cloL n [d] = true := by unfold cloL; rw [h, clo_nil]; rfl
theorem clo_tup {n : Nat} {xs : List D} (h : cloL n xs = true) : (D.tup xs).clo n = true := by unfold D.clo; exact h
theorem clo_lst {n : Nat} {xs : List D} (h : cloL n xs = true) : (D.lst xs).clo n = true := by unfold D.clo; exact h
theorem clo_int {n : Nat} {i : Int} : (D.int i).clo n = true := by unfold D.clo; rfl
theorem clo_str {n : Nat} {i : Str} : (D.str i).clo n = true := by unfold D.clo; rfl
theorem clo_bl {n : Nat} {i : Bool} : (D.bl i).clo n = true := by unfold D.clo; rfl
theorem clo_non {n : Nat} : D.non.clo n = true := by unfold D.clo; rfl
theorem clo_cons {n : Nat} {d : D} {xs : List D} (h : d.clo n = true) (t : cloL n xs = true) : cloL n (d :: xs) = true := by unfold cloL; rw [h, t]; rfl
theorem clo_app {n : Nat} {xs ys : List D} (h : cloL n xs = true) (t : cloL n ys = true) : cloL n (xs ++ ys) = true := by rw [cloL_append, h, t]; rfl
def spBind (C : Addr) : ASp := fun ds μ R => ∃ t kind pre k A B hs fl post, ∃ i j : Nat, ∃ src, ds = [.pr k, nD i, nD j, src] ∧ pre.length = k ∧ μ = pre ++ (bc C t kind k A B hs fl ++ post) ∧ A.length ≤ 5000 ∧ fl.length ≤ 10000 ∧ SrcD src ∧ cloL 0 fl = true ∧
  ∀ fl', fl'.length ≤ fl.length + (if i = j ∨ (i, j) ∈ A then 0 else 1) → cloL 0 fl' = true → R (.bl (!decide (i = j ∨ (i, j) ∈ A))) (pre ++ (bc C t kind k (bindL A i j) B hs fl' ++ post))
theorem ok_bBind (G : Facts K mg) : AOk P w K mg base 2 G.bBind.f G.bBind.fd ["self", "one", "other", "source"] (spBind G.CBonds) := by
  refine fnAD G.bBind.F sc_bBind (fun ds μ R h => ?_) fun cdv Ar outer s H E ds μ R hr h => ?_
  · obtain ⟨t, kind, pre, k, A, B, hs, fl, post, i, j, src, rfl, _⟩ := h
    rfl
  · obtain ⟨t, kind, pre, k, A, B, hs, fl, post, i, j, src, rfl, hk, rfl, hA, hf, hsrc, hcl, q⟩ := h
    have b0 : BAt G.CBonds t kind k A B hs (pre ++ (bc G.CBonds t kind k A B hs fl ++ post)) := ⟨pre, fl, post, hk, rfl⟩
    refine aSs_cons (aS_if (aT_val (aE_met G.bIsAlike G.clsBonds (ok_bIsAlike G) (hr.mono (by decide)) (aE_ev (ev_v 0) ⟨_, b0.ins, rfl, aA_ev (va_cons (ev_v 1) (va_cons (ev_v 2) va_nil)) ⟨t, kind, k, A, B, hs, i, j, rfl, b0, _, rfl, ?_⟩⟩))))
    by_cases hij : i = j ∨ (i, j) ∈ A
    · have e : (decide (i = j) || decide ((i, j) ∈ A)) = true := by
        rcases hij with h | h
        · rw [decide_eq_true h]; rfl
        · rw [decide_eq_true h, Bool.or_true]
      rw [e, if_pos rfl]
      refine aSs_one (aS_ret (aE_ev ev_bl (endR ?_)))
      have := q fl (by omega) hcl
      rw [decide_eq_true hij] at this
      unfold bindL at this
      rw [if_pos hij] at this
      exact this
    · have e : (decide (i = j) || decide ((i, j) ∈ A)) = false := by
        rw [decide_eq_false fun h => hij (.inl h), decide_eq_false fun h => hij (.inr h)]; rfl
      rw [e, if_neg Bool.false_ne_true]
      refine aSs_nil ?_
      have hu := hu_of hr
      refine aSs_cons (aS_dputT hu ev_bl (ev_fld (d := .pr (k + 1)) G.clsBonds G.naB_own_alike (ev_v 0) b0.ins rfl) (va_cons (ev_v 1) (va_cons (ev_v 2) va_nil)).p2 b0.gA ?_ ?_)
      · rw [encP_len, sizeLine_eq]; omega
      rw [putD_encP, set_at (i := 1) hk]
      have b1 : BAt G.CBonds t kind k (addP A (i, j)) B hs (pre ++ (bc G.CBonds t kind k (addP A (i, j)) B hs fl ++ post)) := ⟨pre, fl, post, hk, rfl⟩
      have l1 := addP_len (A := A) (p := (i, j))
      refine aSs_cons (aS_dputT (ks := pK (j, i)) (μ := pre ++ (bc G.CBonds t kind k (addP A (i, j)) B hs fl ++ post)) hu ev_bl (ev_fld (d := .pr (k + 1)) G.clsBonds G.naB_own_alike (ev_v 0) b1.ins rfl) (va_cons (ev_v 2) (va_cons (ev_v 1) va_nil)).p2 b1.gA ?_ ?_)
      · rw [encP_len, sizeLine_eq]; omega
      rw [putD_encP, set_at (i := 1) hk]
      have b2 : BAt G.CBonds t kind k (addP (addP A (i, j)) (j, i)) B hs (pre ++ (bc G.CBonds t kind k (addP (addP A (i, j)) (j, i)) B hs fl ++ post)) := ⟨pre, fl, post, hk, rfl⟩
      have gF : (pre ++ (bc G.CBonds t kind k (addP (addP A (i, j)) (j, i)) B hs fl ++ post))[k + 4]? = some (.lst fl) := get_at (i := 4) hk
      obtain ⟨tk, hg⟩ := G.g_ALIKE
      have fin : ∀ xs, cloL 0 xs = true → ∃ d2 μ2, Exit (pre ++ (bc G.CBonds t kind k A B hs fl ++ post)) (.bl true) (pre ++ (bc G.CBonds t kind k (addP (addP A (i, j)) (j, i)) B hs (fl ++ [.tup [.tup [.str "alike", nD i, nD j], .tup xs]]) ++ post)) d2 μ2 ∧ R d2 μ2 := fun xs hx => by
        refine ⟨_, _, Exit.same, ?_⟩
        have := q (fl ++ [.tup [.tup [.str "alike", nD i, nD j], .tup xs]]) (by rw [List.length_append, if_neg hij]; exact Nat.le_refl _) (clo_app hcl (clo_one (clo_tup (clo_cons (clo_tup (clo_cons clo_str (clo_cons clo_int (clo_one clo_int)))) (clo_one (clo_tup hx))))))
        rw [decide_eq_false hij] at this
        unfold bindL at this
        rw [if_neg hij] at this
        exact this
      refine aSs_cons (aS_expr (aE_append (ev_fld (d := .pr (k + 4)) G.clsBonds G.naB_own_facts (ev_v 0) b2.ins rfl) gF (aE_tup (aA_cons (aE_ev (ev_tup (va_cons (ev_g hg) (va_cons (ev_v 1) (va_cons (ev_v 2) va_nil)))) (aA_cons (aE_callTy (T := "tuple") (aA_cons (aE_ev (ev_v 3) (aA_nil ?_))) G.n_tuple rfl)))))))
      rcases hsrc with ⟨xs, rfl, hx⟩ | ⟨xs, rfl, hx⟩
      · refine acall_tuple (.l) (aA_nil ⟨by show 2 ≤ sizeLine; decide, fl, gF, by rw [sizeLine_eq]; omega, ?_⟩)
        rw [set_at (i := 4) hk]
        exact aSs_one (aS_ret (aE_ev ev_bl (fin xs hx)))
      · refine acall_tupleT (aA_nil ⟨by show 2 ≤ sizeLine; decide, fl, gF, by rw [sizeLine_eq]; omega, ?_⟩)
        rw [set_at (i := 4) hk]
        exact aSs_one (aS_ret (aE_ev ev_bl (fin xs hx)))
def spLower (C : Addr) : ASp := fun ds μ R => ∃ t kind pre k A B hs fl post, ∃ i j : Nat, ∃ src, ds = [.pr k, nD i, nD j, src] ∧ pre.length = k ∧ μ = pre ++ (bc C t kind k A B hs fl ++ post) ∧ B.length ≤ 5000 ∧ fl.length ≤ 10000 ∧ SrcD src ∧ cloL 0 fl = true ∧
  ∀ fl', fl'.length ≤ fl.length + (if i = j ∨ (i, j) ∈ B then 0 else 1) → cloL 0 fl' = true → R (.bl (!decide (i = j ∨ (i, j) ∈ B))) (pre ++ (bc C t kind k A (lowerL B i j) hs fl' ++ post))
theorem ok_bLower (G : Facts K mg) : AOk P w K mg base 2 G.bLower.f G.bLower.fd ["self", "one", "other", "source"] (spLower G.CBonds) := by
  refine fnAD G.bLower.F sc_bLower (fun ds μ R h => ?_) fun cdv Ar outer s H E ds μ R hr h => ?_
  · obtain ⟨t, kind, pre, k, A, B, hs, fl, post, i, j, src, rfl, _⟩ := h
    rfl
  · obtain ⟨t, kind, pre, k, A, B, hs, fl, post, i, j, src, rfl, hk, rfl, hA, hf, hsrc, hcl, q⟩ := h
    have b0 : BAt G.CBonds t kind k A B hs (pre ++ (bc G.CBonds t kind k A B hs fl ++ post)) := ⟨pre, fl, post, hk, rfl⟩
    refine aSs_cons (aS_if (aT_ev (tv_or (k' := decide ((i, j) ∈ B)) (tv_eqN (ev_v 1) (ev_v 2)) fun _ => tv_val (aE_met G.bIsBelow G.clsBonds (ok_bIsBelow G) (hr.mono (by decide)) (aE_ev (ev_v 0) ⟨_, b0.ins, rfl, aA_ev (va_cons (ev_v 1) (va_cons (ev_v 2) va_nil)) ⟨t, kind, k, A, B, hs, i, j, rfl, b0, rfl, rfl⟩⟩))) ?_))
    by_cases hij : i = j ∨ (i, j) ∈ B
    · have e : (decide (i = j) || decide ((i, j) ∈ B)) = true := by
        rcases hij with h | h
        · rw [decide_eq_true h]; rfl
        · rw [decide_eq_true h, Bool.or_true]
      rw [e, if_pos rfl]
      refine aSs_one (aS_ret (aE_ev ev_bl (endR ?_)))
      have := q fl (by omega) hcl
      rw [decide_eq_true hij] at this
      unfold lowerL at this
      rw [if_pos hij] at this
      exact this
    · have e : (decide (i = j) || decide ((i, j) ∈ B)) = false := by
        rw [decide_eq_false fun h => hij (.inl h), decide_eq_false fun h => hij (.inr h)]; rfl
      rw [e, if_neg Bool.false_ne_true]
      refine aSs_nil ?_
      have hu := hu_of hr
      refine aSs_cons (aS_dputT hu ev_bl (ev_fld (d := .pr (k + 2)) G.clsBonds G.naB_own_below (ev_v 0) b0.ins rfl) (va_cons (ev_v 1) (va_cons (ev_v 2) va_nil)).p2 b0.gB ?_ ?_)
      · rw [encP_len, sizeLine_eq]; omega
      rw [putD_encP, set_at (i := 2) hk]
      have b1 : BAt G.CBonds t kind k A (addP B (i, j)) hs (pre ++ (bc G.CBonds t kind k A (addP B (i, j)) hs fl ++ post)) := ⟨pre, fl, post, hk, rfl⟩
      have gF : (pre ++ (bc G.CBonds t kind k A (addP B (i, j)) hs fl ++ post))[k + 4]? = some (.lst fl) := get_at (i := 4) hk
      obtain ⟨tk, hg⟩ := G.g_BEGINS
      have fin : ∀ xs, cloL 0 xs = true → ∃ d2 μ2, Exit (pre ++ (bc G.CBonds t kind k A B hs fl ++ post)) (.bl true) (pre ++ (bc G.CBonds t kind k A (addP B (i, j)) hs (fl ++ [.tup [.tup [.str "begins", nD i, nD j], .tup xs]]) ++ post)) d2 μ2 ∧ R d2 μ2 := fun xs hx => by
        refine ⟨_, _, Exit.same, ?_⟩
        have := q (fl ++ [.tup [.tup [.str "begins", nD i, nD j], .tup xs]]) (by rw [List.length_append, if_neg hij]; exact Nat.le_refl _) (clo_app hcl (clo_one (clo_tup (clo_cons (clo_tup (clo_cons clo_str (clo_cons clo_int (clo_one clo_int)))) (clo_one (clo_tup hx))))))
        rw [decide_eq_false hij] at this
        unfold lowerL at this
        rw [if_neg hij] at this
        exact this
      refine aSs_cons (aS_expr (aE_append (μ := pre ++ (bc G.CBonds t kind k A (addP B (i, j)) hs fl ++ post)) (ev_fld (d := .pr (k + 4)) G.clsBonds G.naB_own_facts (ev_v 0) b1.ins rfl) gF (aE_tup (aA_cons (aE_ev (ev_tup (va_cons (ev_g hg) (va_cons (ev_v 1) (va_cons (ev_v 2) va_nil)))) (aA_cons (aE_callTy (T := "tuple") (aA_cons (aE_ev (ev_v 3) (aA_nil ?_))) G.n_tuple rfl)))))))
      rcases hsrc with ⟨xs, rfl, hx⟩ | ⟨xs, rfl, hx⟩
      · refine acall_tuple (.l) (aA_nil ⟨by show 2 ≤ sizeLine; decide, fl, gF, by rw [sizeLine_eq]; omega, ?_⟩)
        rw [set_at (i := 4) hk]
        exact aSs_one (aS_ret (aE_ev ev_bl (fin xs hx)))
      · refine acall_tupleT (aA_nil ⟨by show 2 ≤ sizeLine; decide, fl, gF, by rw [sizeLine_eq]; omega, ?_⟩)
        rw [set_at (i := 4) hk]
        exact aSs_one (aS_ret (aE_ev ev_bl (fin xs hx)))
/-! ### readings that look over the adds -/
theorem looks_ix {t : Tab} {i : Nat} (h : i < t.n) : (t.looks.map pD)[i]? = some (pD (t.lk i)) := by
  rw [List.getElem?_map, Tab.lk_get h]
  rfl
def spLate (C : Addr) : ASp := fun ds μ R => ∃ t kind k A B hs, ∃ i j : Nat, ds = [.pr k, nD i, nD j] ∧ BAt C t kind k A B hs μ ∧ t.Ok ∧ i < t.n ∧ j < t.n ∧ R (.bl (t.late i j)) μ
theorem ok_bIsLate (G : Facts K mg) : AOk P w K mg base 1 G.bIsLate.f G.bIsLate.fd ["self", "one", "other"] (spLate G.CBonds) := by
  refine fnA G.bIsLate.F sc_bIsLate (fun ds μ R h => ?_) fun cdv Ar outer s H E ds μ R hr h => ?_
  · obtain ⟨t, kind, k, A, B, hs, i, j, rfl, _⟩ := h
    rfl
  · obtain ⟨t, kind, k, A, B, hs, i, j, rfl, b, ok, hi, hj, q⟩ := h
    have nd := sc_bIsLate.nd
    refine aSs_cons (aS_asg (aE_ev (ev_tup (va_cons (ev_t (i := 0) (ev_ixN (ev_fld (d := pairsD t.looks) G.clsBonds G.naB_own_looks (ev_v 0) b.ins rfl) (ev_v 1) isl (looks_ix hi))) (va_cons (ev_ixN (ev_fld (d := pairsD t.looks) G.clsBonds G.naB_own_looks (ev_v 0) b.ins rfl) (ev_v 2) isl (looks_ix hj)) va_nil)))
      (aG_tup (aGs_cons (aG_name (i := 3) (aGs_cons (aG_tup (aGs_cons (aG_name (i := 4) (aGs_cons (aG_name (i := 5) (aGs_nil (aGs_nil ?_)) nd)) nd))) ) nd)))))
    refine aSs_one (aS_ret (aE_ev (ev_any (L := t.adds) (q := fun a => (decide ((t.lk i).1 < a.1) && decide (a.1 < (t.lk j).1)) && decide (a.2 = (t.lk j).2)) G.n_any (aE_lc (c := false) (own := [("place", 6), ("adder", 7)]) (lcm (L := t.adds) (enc := pD)
      (env := fun a => [some (.pr k), some (nD i), some (nD j), some (nD (t.lk i).1), some (nD (t.lk j).1), some (nD (t.lk j).2), some (nD a.1), some (nD a.2)]) ?_ ?_ ?_ ?_ ⟨rfl, rfl⟩) (blkOk_by (by kernel_rfl)) nd)) (endR q)))
    · exact vi_list (ev_fld (d := pairsD t.adds) G.clsBonds G.naB_own_adds (ev_v 0) b.ins rfl)
    · exact small1000 (by have := ok.adds; omega)
    · intro a _ s H C cl fp
      exact aGc_tup (aGcs_cons (aGc_name (i := 6) (aGcs_cons (aGc_name (i := 7) (aGcs_nil ⟨rfl, rfl⟩) nd)) nd))
    · intro a _ s H C cl fp
      exact ev_and (ev_chain (ev_v 3) (ev_v 6) (aop_lt ⟨by rw [decNlt], rfl⟩) (ev_v 4) (aop_lt ⟨by rw [decNlt], rfl⟩)) fun _ => ev_eqN (ev_v 7) (ev_v 5)
end HF

/-! ## P4 -/
namespace HF
open PySem PySem.Spec PyProof.Rows L2
/-! ### before, newest -/
def Tab.before (t : Tab) (i : Nat) : Nat := (t.adds.filter fun a => decide (a.1 < (t.lk i).1)).length
variable {P : Program} {w : World} {K : PySem.W.Frag} {mg : Str → Option Value} {base : Heap}
def spBefore (C : Addr) : ASp := fun ds μ R => ∃ t kind k A B hs, ∃ i : Nat, ds = [.pr k, nD i] ∧ BAt C t kind k A B hs μ ∧ t.Ok ∧ i < t.n ∧ R (nD (t.before i)) μ
theorem ok_bBefore (G : Facts K mg) : AOk P w K mg base 1 G.bBefore.f G.bBefore.fd ["self", "number"] (spBefore G.CBonds) := by
  refine fnA G.bBefore.F sc_bBefore (fun ds μ R h => ?_) fun cdv Ar outer s H E ds μ R hr h => ?_
  · obtain ⟨t, kind, k, A, B, hs, i, rfl, _⟩ := h
    rfl
  · obtain ⟨t, kind, k, A, B, hs, i, rfl, b, ok, hi, q⟩ := h
    have nd := sc_bBefore.nd
    refine aSs_one (aS_ret (aE_mono (ev_len (x := .lst ((t.adds.filter fun a => decide (a.1 < (t.lk i).1)).map fun a => nD a.1)) G.n_len (aE_lc (c := false) (own := [("place", 2), ("adder", 3)]) (lcp (L := t.adds) (enc := pD) (pr := fun a => decide (a.1 < (t.lk i).1)) (g := fun a => nD a.1)
      (env := fun a => [some (.pr k), some (nD i), some (nD a.1), some (nD a.2)]) ?_ ?_ ?_ ?_ ?_ ⟨rfl, rfl⟩) (blkOk_by (by kernel_rfl)) nd) isl) fun d μ1 ⟨e1, e2⟩ => ?_))
    · exact vi_list (ev_fld (d := pairsD t.adds) G.clsBonds G.naB_own_adds (ev_v 0) b.ins rfl)
    · exact small1000 (by have := ok.adds; omega)
    · intro a _ s H C cl fp
      exact aGc_tup (aGcs_cons (aGc_name (i := 2) (aGcs_cons (aGc_name (i := 3) (aGcs_nil ⟨rfl, rfl⟩) nd)) nd))
    · intro a _ s H C cl fp
      exact tvs_one (tv_ltN (ev_v 2) (ev_t (i := 0) (ev_ixN (ev_fld (d := pairsD t.looks) G.clsBonds G.naB_own_looks (ev_v 0) b.ins rfl) (ev_v 1) isl (looks_ix hi))))
    · intro a _ _ s H C cl fp
      exact ev_v 2
    · subst e1 e2
      rw [List.length_map]
      exact endR q
def maxI (l : List Int) : Int := l.foldl max (-1)
theorem maxI_ge : ∀ (l : List Int) (a : Int), a ≤ l.foldl max a ∧ ∀ x ∈ l, x ≤ l.foldl max a
  | [], a => ⟨Int.le_refl _, fun x h => by cases h⟩
  | y :: l, a => by
    obtain ⟨h1, h2⟩ := maxI_ge l (max a y)
    refine ⟨Int.le_trans (Int.le_max_left a y) h1, fun x h => ?_⟩
    rcases List.mem_cons.mp h with rfl | h
    · exact Int.le_trans (Int.le_max_right a x) h1
    · exact h2 x h
theorem maxI_mem : ∀ (l : List Int) (a : Int), l.foldl max a = a ∨ l.foldl max a ∈ l
  | [], a => .inl rfl
  | y :: l, a => by
    rcases maxI_mem l (max a y) with h | h
    · rw [List.foldl_cons, h]
      rcases Int.le_total a y with g | g
      · rw [Int.max_eq_right g]; exact .inr List.mem_cons_self
      · rw [Int.max_eq_left g]; exact .inl rfl
    · exact .inr (List.mem_cons_of_mem _ h)
theorem maxI_eq {l : List Int} {m : Int} (h : m ∈ (-1) :: l) (g : ∀ y ∈ (-1) :: l, y ≤ m) : m = maxI l := by
  obtain ⟨h1, h2⟩ := maxI_ge l (-1)
  refine Int.le_antisymm ?_ ?_
  · rcases List.mem_cons.mp h with rfl | h
    · exact h1
    · exact h2 m h
  · rcases maxI_mem l (-1) with e | e
    · unfold maxI; rw [e]; exact g _ List.mem_cons_self
    · exact g _ (List.mem_cons_of_mem _ e)
/-- the entries of one person's adds before a place -/
def Tab.ents (t : Tab) (l : Nat × Nat) : List Int := (t.adds.zipIdx.filter fun a => decide (a.1.1 < l.1) && decide (a.1.2 = l.2)).map fun a => ((a.2 : Nat) : Int)
def Tab.newest (t : Tab) (be : Nat → Nat → Bool) (i : Nat) : Int := maxI (((t.looks.zipIdx).filter fun e => decide (e.2 = i) || be e.2 i).flatMap fun e => t.ents e.1)
theorem ents_len (t : Tab) (l : Nat × Nat) : (t.ents l).length ≤ t.adds.length := by
  unfold Tab.ents
  rw [List.length_map]
  exact Nat.le_trans (List.length_filter_le _ _) (by rw [List.length_zipIdx]; exact Nat.le_refl _)
theorem flat_len {τ σ : Type} {f : τ → List σ} {m : Nat} (h : ∀ x, (f x).length ≤ m) : ∀ l : List τ, (l.flatMap f).length ≤ l.length * m
  | [] => by simp
  | x :: l => by
    rw [List.flatMap_cons, List.length_append, List.length_cons, Nat.succ_mul]
    have := flat_len h l
    have := h x
    omega
def spNewest (C : Addr) : ASp := fun ds μ R => ∃ t kind k A B hs, ∃ i : Nat, ds = [.pr k, nD i] ∧ BAt C t kind k A B hs μ ∧ t.Ok ∧ R (.int (t.newest (fun a b => decide ((a, b) ∈ B)) i)) μ
theorem ok_bNewest (G : Facts K mg) : AOk P w K mg base 2 G.bNewest.f G.bNewest.fd ["self", "number"] (spNewest G.CBonds) := by
  refine fnA G.bNewest.F sc_bNewest (fun ds μ R h => ?_) fun cdv Ar outer s H E ds μ R hr h => ?_
  · obtain ⟨t, kind, k, A, B, hs, i, rfl, _⟩ := h
    rfl
  · obtain ⟨t, kind, k, A, B, hs, i, rfl, b, ok, q⟩ := h
    have nd := sc_bNewest.nd
    refine aSs_cons (aS_set (aE_lstC (aA_cons (aE_ev (ev_neg ev_int) (aA_nil ⟨by show 1 ≤ sizeLine; decide, ?_⟩)))) nd (i := 2))
    refine aSs_cons (aS_forL (L := t.looks.zipIdx) (enc := fun p => .tup [.int (p.2 : Nat), pD p.1]) (by
        rw [← enumD_map]
        exact wi_enum G.n_enumerate (ev_fld (d := pairsD t.looks) G.clsBonds G.naB_own_looks (ev_v 0) (b.post _).ins rfl))
      (fun pre ρ μ' => ∃ o3 o4 o5 o6, ρ = [some (.pr k), some (nD i), some (.pr μ.length), o3, o4, o5, o6, none, none, none] ∧ μ' = μ ++ [.lst (((-1 : Int) :: ((pre.filter fun e => decide (e.2 = i) || decide ((e.2, i) ∈ B)).flatMap fun e => t.ents e.1)).map D.int)])
      ⟨none, none, none, none, rfl, rfl⟩ (fun pre l post ρ' μ' hL ⟨o3, o4, o5, o6, h1, h2⟩ => ?_) (fun ρ' μ' ⟨o3, o4, o5, o6, h1, h2⟩ => ?_))
    · subst h1 h2
      refine aG_tup (aGs_cons (aG_name (i := 3) (aGs_cons (aG_tup (aGs_cons (aG_name (i := 4) (aGs_cons (aG_name (i := 5) (aGs_nil (aGs_nil ?_)) nd)) nd))) ) nd))
      refine aSs_one (aS_if (aT_ev (tv_or (k' := decide ((l.2, i) ∈ B)) (tv_eqN (i := l.2) (ev_v 3) (ev_v 1)) fun _ => tv_val (aE_met G.bIsBelow G.clsBonds (ok_bIsBelow G) (hr.mono (by decide)) (aE_ev (ev_v 0) ⟨_, (b.post _).ins, rfl, aA_ev (va_cons (ev_v 3) (va_cons (ev_v 1) va_nil)) ⟨t, kind, k, A, B, hs, l.2, i, rfl, b.post _, rfl, rfl⟩⟩))) ?_))
      by_cases hb : (decide (l.2 = i) || decide ((l.2, i) ∈ B)) = true
      · rw [if_pos hb]
        refine aSs_cons (aS_setLc (c := false) (own := [("entry", 7), ("place", 8), ("adder", 9)]) (i := 6) (lcp (L := t.adds.zipIdx) (enc := fun p => .tup [.int (p.2 : Nat), pD p.1]) (pr := fun a => decide (a.1.1 < l.1.1) && decide (a.1.2 = l.1.2)) (g := fun a => .int (a.2 : Nat))
          (env := fun a => [some (.pr k), some (nD i), some (.pr μ.length), some (nD l.2), some (nD l.1.1), some (nD l.1.2), o6, some (nD a.2), some (nD a.1.1), some (nD a.1.2)]) ?_ ?_ ?_ ?_ ?_ ?_) (blkOk_by (by kernel_rfl)) nd ?hsw)
        case hsw => exact sw_true rfl rfl rfl (by kernel_rfl)
        · rw [← enumD_map]
          exact vi_enum G.n_enumerate (ev_fld (d := pairsD t.adds) G.clsBonds G.naB_own_adds (ev_v 0) (b.post _).ins rfl)
        · rw [List.length_zipIdx]; exact small1000 (by have := ok.adds; omega)
        · intro a _ s H C cl fp
          exact aGc_tup (aGcs_cons (aGc_name (i := 7) (aGcs_cons (aGc_tup (aGcs_cons (aGc_name (i := 8) (aGcs_cons (aGc_name (i := 9) (aGcs_nil (aGcs_nil ⟨rfl, rfl⟩)) nd)) nd))) ) nd))
        · intro a _ s H C cl fp
          exact tvs_one (tv_and (tv_ltN (ev_v 8) (ev_v 4)) fun _ => tv_eqN (ev_v 9) (ev_v 5))
        · intro a _ _ s H C cl fp
          exact ev_v 7
        · have e6 : ((t.adds.zipIdx.filter fun a => decide (a.1.1 < l.1.1) && decide (a.1.2 = l.1.2)).map fun a => D.int (a.2 : Nat)) = (t.ents l.1).map D.int := by
            unfold Tab.ents
            rw [List.map_map]
            rfl
          rw [e6]
          refine aSs_one (aS_expr (aE_lm PySem.F.plainAttrs_list PySem.F.slot_list_extend PySem.F.type_list_extend (aE_ev (ev_v 2) ⟨⟨_, .p last_get⟩, aA_ev (va_cons (ev_v 6) va_nil) (amt_extend last_get .l ?_ ?_)⟩)))
          · have l1 : pre.length ≤ t.looks.length := by
              have := congrArg List.length hL
              rw [List.length_zipIdx, List.length_append] at this
              omega
            have l2 := ok.n
            have l3 := ok.adds
            have l4 := ents_len t l.1
            have l5 := flat_len (f := fun e : (Nat × Nat) × Nat => t.ents e.1) (m := 40) (fun e => Nat.le_trans (ents_len t e.1) l3) (pre.filter fun e => decide (e.2 = i) || decide ((e.2, i) ∈ B))
            have l6 := List.length_filter_le (fun e : (Nat × Nat) × Nat => decide (e.2 = i) || decide ((e.2, i) ∈ B)) pre
            have l7 : pre.length ≤ 40 := Nat.le_trans l1 l2
            rw [List.length_map, List.length_map, List.length_cons, sizeLine_eq]
            omega
          · refine ⟨_, _, _, _, rfl, ?_⟩
            rw [← List.map_append]
            rw [last_set]
            rw [List.filter_append, List.flatMap_append]
            simp [hb]
      · rw [if_neg hb]
        refine aSs_nil ⟨_, _, _, _, rfl, ?_⟩
        rw [List.filter_append, List.flatMap_append]
        simp [hb]
    · subst h1 h2
      refine aSs_one (aS_ret (aE_callB (id := "max") (aA_cons (aE_ev (ev_v 2) (aA_nil (acall_max (.p last_get) (by simp) fun m hm hg => ?_)))) G.n_max rfl))
      rw [maxI_eq hm hg]
      exact ⟨_, _, Exit.drop clo_int, q⟩
end HF

/-! ## P5 -/
namespace HF
open PySem PySem.Spec PyProof.Rows L2
/-! ### bounds -/
theorem nodup_len {α : Type} [DecidableEq α] : ∀ {l m : List α}, l.Nodup → (∀ x ∈ l, x ∈ m) → l.length ≤ m.length
  | [], _, _, _ => Nat.zero_le _
  | x :: l, m, h, s => by
    have hx := s x List.mem_cons_self
    have h1 := nodup_len (l := l) (m := m.erase x) (List.nodup_cons.mp h).2 fun y hy => (List.mem_erase_of_ne fun e : y = x => (List.nodup_cons.mp h).1 (e ▸ hy)).mpr (s y (List.mem_cons_of_mem _ hy))
    rw [List.length_erase_of_mem hx] at h1
    have : 0 < m.length := List.length_pos_of_mem hx
    rw [List.length_cons]
    omega
structure Pok (n : Nat) (A : Ps) : Prop where
  nd : A.Nodup
  bd : ∀ p ∈ A, p.1 < n ∧ p.2 < n
theorem Pok.len {n : Nat} {A : Ps} (h : Pok n A) : A.length ≤ n * n := by
  have e : (((List.range n).flatMap fun i => (List.range n).map fun j => (i, j)) : Ps).length = n * n := by
    have : ∀ l : List Nat, (l.flatMap fun i => (List.range n).map fun j => (i, j)).length = l.length * n := by
      intro l
      induction l with
      | nil => simp
      | cons a l ih => rw [List.flatMap_cons, List.length_append, ih, List.length_map, List.length_range, List.length_cons, Nat.succ_mul, Nat.add_comm]
    rw [this, List.length_range]
  rw [← e]
  refine nodup_len h.nd fun p hp => ?_
  obtain ⟨h1, h2⟩ := h.bd p hp
  exact List.mem_flatMap.mpr ⟨p.1, List.mem_range.mpr h1, List.mem_map.mpr ⟨p.2, List.mem_range.mpr h2, rfl⟩⟩
theorem Pok.len40 {n : Nat} {A : Ps} (h : Pok n A) (hn : n ≤ 40) : A.length ≤ 1600 := Nat.le_trans h.len (Nat.le_trans (Nat.mul_le_mul hn hn) (by decide))
theorem Pok.add {n : Nat} {A : Ps} (h : Pok n A) {p : Nat × Nat} (h1 : p.1 < n) (h2 : p.2 < n) : Pok n (addP A p) := by
  unfold addP
  split
  · exact h
  · rename_i hp
    refine ⟨List.nodup_append.mpr ⟨h.nd, List.nodup_cons.mpr ⟨List.not_mem_nil, List.nodup_nil⟩, fun a ha b hb e => ?_⟩, fun q hq => ?_⟩
    · rw [List.mem_singleton.mp hb] at e
      exact hp (e ▸ ha)
    · rcases List.mem_append.mp hq with hq | hq
      · exact h.bd q hq
      · rw [List.mem_singleton.mp hq]; exact ⟨h1, h2⟩
theorem Pok.bind {n : Nat} {A : Ps} (h : Pok n A) {i j : Nat} (h1 : i < n) (h2 : j < n) : Pok n (bindL A i j) := by
  unfold bindL
  split
  · exact h
  · exact (h.add h1 h2).add h2 h1
theorem Pok.lower {n : Nat} {A : Ps} (h : Pok n A) {i j : Nat} (h1 : i < n) (h2 : j < n) : Pok n (lowerL A i j) := by
  unfold lowerL
  split
  · exact h
  · exact h.add h1 h2
theorem addP_new {A : Ps} {p : Nat × Nat} (h : p ∉ A) : (addP A p).length = A.length + 1 := by
  unfold addP
  rw [if_neg h, List.length_append] <;> rfl
theorem addP_geB {A : Ps} {p : Nat × Nat} : A.length ≤ (addP A p).length := by
  unfold addP
  split
  · exact Nat.le_refl _
  · rw [List.length_append]; exact Nat.le_add_right _ _
theorem bindL_len {A : Ps} {i j : Nat} : A.length + (if i = j ∨ (i, j) ∈ A then 0 else 1) ≤ (bindL A i j).length := by
  unfold bindL
  split
  · exact Nat.le_refl _
  · rename_i h
    have := addP_new (A := A) (p := (i, j)) fun z => h (.inr z)
    have := addP_geB (A := addP A (i, j)) (p := (j, i))
    omega
theorem lowerL_len {A : Ps} {i j : Nat} : A.length + (if i = j ∨ (i, j) ∈ A then 0 else 1) ≤ (lowerL A i j).length := by
  unfold lowerL
  split
  · exact Nat.le_refl _
  · rename_i h
    have := addP_new (A := A) (p := (i, j)) fun z => h (.inr z)
    omega
structure BI (n : Nat) (A B : Ps) (fl : List D) : Prop where
  a : Pok n A
  b : Pok n B
  f : fl.length ≤ A.length + B.length
  c : cloL 0 fl = true
theorem spBind_of {C : Addr} {t : Tab} {kind : Str} {pre : Sto} {k n : Nat} {A B : Ps} {hs : List (List Nat)} {fl : List D} {post : Sto} {i j : Nat} {src : D} {Q : DK} (hk : pre.length = k) (hn : n ≤ 40) (bi : BI n A B fl) (hi : i < n) (hj : j < n) (hs' : SrcD src)
    (h : ∀ fl', BI n (bindL A i j) B fl' → Q (.bl (!decide (i = j ∨ (i, j) ∈ A))) (pre ++ (bc C t kind k (bindL A i j) B hs fl' ++ post))) : spBind C [.pr k, nD i, nD j, src] (pre ++ (bc C t kind k A B hs fl ++ post)) Q := by
  have l1 := bi.a.len40 hn
  have l2 := bi.b.len40 hn
  have l3 := bi.f
  refine ⟨t, kind, pre, k, A, B, hs, fl, post, i, j, src, rfl, hk, rfl, by omega, by omega, hs', bi.c, fun fl' h1 h2 => h fl' ⟨bi.a.bind hi hj, bi.b, ?_, h2⟩⟩
  have := bindL_len (A := A) (i := i) (j := j)
  omega
theorem spLower_of {C : Addr} {t : Tab} {kind : Str} {pre : Sto} {k n : Nat} {A B : Ps} {hs : List (List Nat)} {fl : List D} {post : Sto} {i j : Nat} {src : D} {Q : DK} (hk : pre.length = k) (hn : n ≤ 40) (bi : BI n A B fl) (hi : i < n) (hj : j < n) (hs' : SrcD src)
    (h : ∀ fl', BI n A (lowerL B i j) fl' → Q (.bl (!decide (i = j ∨ (i, j) ∈ B))) (pre ++ (bc C t kind k A (lowerL B i j) hs fl' ++ post))) : spLower C [.pr k, nD i, nD j, src] (pre ++ (bc C t kind k A B hs fl ++ post)) Q := by
  have l1 := bi.a.len40 hn
  have l2 := bi.b.len40 hn
  have l3 := bi.f
  refine ⟨t, kind, pre, k, A, B, hs, fl, post, i, j, src, rfl, hk, rfl, by omega, by omega, hs', bi.c, fun fl' h1 h2 => h fl' ⟨bi.a, bi.b.lower hi hj, ?_, h2⟩⟩
  have := lowerL_len (A := B) (i := i) (j := j)
  omega
variable {P : Program} {w : World} {K : PySem.W.Frag} {mg : Str → Option Value} {base : Heap}
theorem src0 : SrcD (.tup []) := .inr ⟨[], rfl, clo_nil⟩
def spLooked (C : Addr) : ASp := fun ds μ R => ∃ t kind pre k A B hs fl post, ∃ p num n : Nat, ds = [.pr k, nD p, nD num] ∧ pre.length = k ∧ μ = pre ++ (bc C t kind k A B hs fl ++ post) ∧ p < hs.length ∧ n ≤ 40 ∧ num < n ∧ BI n A B fl ∧ (∀ x ∈ hs.getD p [], x < n) ∧ (hs.getD p []).length ≤ 100 ∧ hs.length ≤ 100 ∧
  ∀ fl', BI n A ((hs.getD p []).foldl (fun B o => lowerL B o num) B) fl' → R .non (pre ++ (bc C t kind k A ((hs.getD p []).foldl (fun B o => lowerL B o num) B) (hs.set p (hs.getD p [] ++ [num])) fl' ++ post))
theorem ok_bLooked (G : Facts K mg) : AOk P w K mg base 3 G.bLooked.f G.bLooked.fd ["self", "person", "number"] (spLooked G.CBonds) := by
  refine fnA G.bLooked.F sc_bLooked (fun ds μ R h => ?_) fun cdv Ar outer s H E ds μ R hr h => ?_
  · obtain ⟨t, kind, pre, k, A, B, hs, fl, post, p, num, n, rfl, _⟩ := h
    rfl
  · obtain ⟨t, kind, pre, k, A, B, hs, fl, post, p, num, n, rfl, hk, rfl, hp, hn, hnum, bi, hb, hlen, hlen2, q⟩ := h
    have nd := sc_bLooked.nd
    have hu := hu_of hr
    have b0 : ∀ {B fl}, BAt G.CBonds t kind k A B hs (pre ++ (bc G.CBonds t kind k A B hs fl ++ post)) := ⟨pre, _, post, hk, rfl⟩
    refine aSs_cons (aS_forL (L := hs.getD p []) (enc := nD) (wi_list (ev_ixH hu (ev_fld (d := .pr (k + 3)) G.clsBonds G.naB_own_has (ev_v 0) b0.ins rfl) (ev_v 1) b0.gH hp))
      (fun L ρ μ' => ∃ o fl', ρ = [some (.pr k), some (nD p), some (nD num), o] ∧ BI n A (L.foldl (fun B o => lowerL B o num) B) fl' ∧ μ' = pre ++ (bc G.CBonds t kind k A (L.foldl (fun B o => lowerL B o num) B) hs fl' ++ post)) ⟨none, fl, rfl, bi, rfl⟩
      (fun L x rest ρ' μ' hL ⟨o, fl', h1, bi', h2⟩ => ?_) (fun ρ' μ' ⟨o, fl', h1, bi', h2⟩ => ?_))
    · subst h1 h2
      refine aG_name (i := 3) ?_ nd
      refine aSs_one (aS_expr (aE_metD 0 G.bLower (by decide) G.clsBonds (ok_bLower G) (hr.mono (by decide)) (aE_ev (ev_v 0) ⟨_, b0.ins, rfl, aA_ev (va_cons (ev_v 3) (va_cons (ev_v 2) va_nil)) (spLower_of hk hn bi' (hb x (by rw [hL]; simp)) hnum src0 fun fl2 bi2 => ?_)⟩)))
      refine ⟨_, fl2, rfl, ?_, ?_⟩
      · rw [List.foldl_append]; exact bi2
      · rw [List.foldl_append]; rfl
    · subst h1 h2
      refine aSs_one (aS_dput hu (aE_ev (ev_cat (ev_ixH hu (ev_fld (d := .pr (k + 3)) G.clsBonds G.naB_own_has (ev_v 0) b0.ins rfl) (ev_v 1) b0.gH hp) (ev_lst (va_cons (ev_v 2) va_nil)) .l .l ?_) ⟨ev_fld (d := .pr (k + 3)) G.clsBonds G.naB_own_has (ev_v 0) b0.ins rfl, ev_v 1, _, _, b0.gH, rfl, ?_, ?_⟩))
      · rw [List.length_map, sizeLine_eq]; show _ + 1 ≤ _; omega
      · rw [encH_len, sizeLine_eq]; omega
      · refine endN ?_
        have e : (hs.getD p []).map nD ++ [nD num] = (hs.getD p [] ++ [num]).map nD := by rw [List.map_append]; rfl
        rw [e, putD_encH hp, set_at (i := 3) hk]
        exact q fl' bi'
end HF

/-! ## P6 -/
namespace HF
open PySem PySem.Spec PyProof.Rows L2
/-! ### compared -/
theorem cutD_last (l : List Nat) : cutD (l.map nD) (some (-1)) none = l.getLast?.toList.map nD := by
  unfold cutD
  rw [show HT.sIx (l.map nD).length (l.map nD).length none = (l.map nD).length from rfl]
  have e : HT.sIx (l.map nD).length 0 (some (-1)) = l.length - 1 := by
    have : HT.sIx (l.map nD).length 0 (some (-1)) = ((-1 : Int) + ((l.map nD).length : Int)).toNat := rfl
    rw [this, List.length_map]
    omega
  rw [e, List.length_map, ← List.map_drop, ← List.map_take]
  congr 1
  rcases List.eq_nil_or_concat l with rfl | ⟨m, x, rfl⟩
  · rfl
  · rw [List.concat_eq_append, List.getLast?_append, List.length_append]
    simp
theorem cutD_from (l : List Nat) (i : Nat) : cutD (l.map nD) (some ((i : Nat) : Int)) none = (l.drop i).map nD := by
  unfold cutD
  rw [show HT.sIx (l.map nD).length (l.map nD).length none = (l.map nD).length from rfl, HT.sIx_nat, List.length_map, ← List.map_drop, ← List.map_take]
  congr 1
  rcases Nat.le_total i l.length with h | h
  · rw [Nat.min_eq_left h, List.take_of_length_le (by rw [List.length_drop]; exact Nat.le_refl _)]
  · rw [Nat.min_eq_right h, List.drop_eq_nil_of_le (Nat.le_refl _), List.drop_eq_nil_of_le h]
    simp
theorem aE_uni {X : Cx} {e : Expr} {ρ : AEnv} {μ : Sto} {p p2 q q2 : Pos} {l : List Nat} (h : EV X e ρ μ (.lst (l.map nD))) (hf : l.length < 64) (hb : ∀ x ∈ l, x < 64) (hm : X.mg "sorted" = none) (hm2 : X.mg "set" = none) (hg : Gl X "sorted" := by rfl) (hg2 : Gl X "set" := by rfl) (hc : X.calm = true := by rfl) (he : starEach [e] X.env = (false, eval e X.env) :: starEach [] X.env := by rfl) :
    EV X (.Call (.Name "sorted" p) [.Call (.Name "set" p2) [e] [] q2] [] q) ρ μ (.lst ((uni l).map nD)) :=
  aE_sortedSet (ns := l.map fun x : Nat => (x : Int)) (by rw [← nD_map]; exact h) (by rw [List.length_map]; exact hf) (fun ns' h1 h2 => ⟨by
    rw [uni_eq h1 h2 hb, nD_map]
    rfl, rfl⟩) hm hm2 hg hg2 hc he
theorem uni_mem {l : List Nat} {x : Nat} : x ∈ uni l ↔ x < 64 ∧ x ∈ l := by
  unfold uni
  rw [List.mem_filter, List.mem_range, decide_eq_true_iff]
theorem uni_nodup (l : List Nat) : (uni l).Nodup := List.Nodup.sublist List.filter_sublist List.nodup_range
theorem nodup_bd {l : List Nat} {n : Nat} (h : l.Nodup) (b : ∀ x ∈ l, x < n) : l.length ≤ n := by
  have := nodup_len h (m := List.range n) fun x hx => List.mem_range.mpr (b x hx)
  rwa [List.length_range] at this
structure HI (m : Nat) (hs : List (List Nat)) : Prop where
  nd : ∀ p, (hs.getD p []).Nodup
  bd : ∀ p, ∀ x ∈ hs.getD p [], x < m
theorem getD_set {hs : List (List Nat)} {p q : Nat} {l : List Nat} : (hs.set p l).getD q [] = if p = q ∧ p < hs.length then l else hs.getD q [] := by
  rw [List.getD_eq_getElem?_getD, List.getD_eq_getElem?_getD, List.getElem?_set]
  by_cases h : p = q
  · subst h
    by_cases h2 : p < hs.length
    · simp [h2]
    · simp [h2]
  · simp [h]
theorem HI.set {m : Nat} {hs : List (List Nat)} (h : HI m hs) {p : Nat} {l : List Nat} (h1 : l.Nodup) (h2 : ∀ x ∈ l, x < m) : HI m (hs.set p l) := by
  constructor
  · intro q
    rw [getD_set]
    split
    · exact h1
    · exact h.nd q
  · intro q
    rw [getD_set]
    split
    · exact h2
    · exact h.bd q
theorem HI.mono {m m' : Nat} {hs : List (List Nat)} (h : HI m hs) (le : m ≤ m') : HI m' hs := ⟨h.nd, fun p x hx => Nat.lt_of_lt_of_le (h.bd p x hx) le⟩
theorem HI.uni {m : Nat} {hs : List (List Nat)} (h : HI m hs) (p q : Nat) : ∀ x ∈ uni (hs.getD p [] ++ hs.getD q []), x < m := fun x hx => by
  rcases List.mem_append.mp (uni_mem.mp hx).2 with z | z
  · exact h.bd _ x z
  · exact h.bd _ x z
theorem crossA_fold : ∀ (l : List Nat) (A : Ps) (x : Nat), crossA (x :: l) A = crossA l (l.foldl (fun A y => bindL A x y) A) := fun _ _ _ => rfl
variable {P : Program} {w : World} {K : PySem.W.Frag} {mg : Str → Option Value} {base : Heap}
def wordS (meet : Bool) : Str := if meet = true then "meet" else "tell"
def spCompared (C : Addr) : ASp := fun ds μ R => ∃ t kind pre k fl post, ∃ s : GS, ∃ p q n m : Nat, ∃ meet : Bool, ds = [.pr k, .tup [.str (wordS meet), nD p, nD q]] ∧ pre.length = k ∧ μ = pre ++ (bc C t kind k s.A s.B s.hs fl ++ post) ∧ p < s.hs.length ∧ q < s.hs.length ∧ s.hs.length ≤ 100 ∧ n ≤ 30 ∧ m ≤ n ∧ BI n s.A s.B fl ∧ HI m s.hs ∧
  ∀ fl', BI n (s.cmp (decide (kind = "long")) meet p q).A s.B fl' → R .non (pre ++ (bc C t kind k (s.cmp (decide (kind = "long")) meet p q).A s.B (s.cmp (decide (kind = "long")) meet p q).hs fl' ++ post))
theorem ok_bCompared (G : Facts K mg) : AOk P w K mg base 3 G.bCompared.f G.bCompared.fd ["self", "event"] (spCompared G.CBonds) := by
  refine fnA G.bCompared.F sc_bCompared (fun ds μ R h => ?_) fun cdv Ar outer s H E ds μ R hr h => ?_
  · obtain ⟨t, kind, pre, k, fl, post, s, p, q, n, m, meet, rfl, _⟩ := h
    rfl
  · obtain ⟨t, kind, pre, k, fl, post, ⟨num, hs, A, B⟩, p, q, n, m, meet, rfl, hk, rfl, hp, hq, hlen, hn, hm, bi, hi, fin⟩ := h
    have nd := sc_bCompared.nd
    have hu := hu_of hr
    have hn40 : n ≤ 40 := by omega
    dsimp only at hp hq hlen bi hi fin ⊢
    have b0 : ∀ {A B hs fl}, BAt G.CBonds t kind k A B hs (pre ++ (bc G.CBonds t kind k A B hs fl ++ post)) := ⟨pre, _, post, hk, rfl⟩
    obtain ⟨tk, hg⟩ := G.g_LONG
    obtain ⟨tk2, hg2⟩ := G.g_MEET
    refine aSs_cons (aS_asg (aE_ev (ev_v 1) (aG_tup (aGs_cons (aG_name (i := 2) (aGs_cons (aG_name (i := 3) (aGs_cons (aG_name (i := 4) (aGs_nil ?_) nd)) nd)) nd)))))
    refine aSs_cons (aS_par (i := 5) (j := 6) (aE_ev (ev_ixH hu (ev_fld (d := .pr (k + 3)) G.clsBonds G.naB_own_has (ev_v 0) b0.ins rfl) (ev_v 3) b0.gH hp) (aE_ev (ev_ixH hu (ev_fld (d := .pr (k + 3)) G.clsBonds G.naB_own_has (ev_v 0) b0.ins rfl) (ev_v 4) b0.gH hq) ?_)) nd)
    refine aSs_cons (aS_if (aT_ev (tv_neS (ev_fld (d := .str kind) G.clsBonds G.naB_own_kind (ev_v 0) b0.ins rfl) (ev_g hg)) ?_))
    by_cases hl : kind = "long"
    · rw [decide_eq_true hl, if_neg (by decide)]
      refine aSs_nil ?_
      unfold GS.cmp at fin
      rw [decide_eq_true hl, if_pos rfl] at fin
      dsimp only [GS.has] at fin
      have hmine := nodup_bd (hi.nd p) (hi.bd p)
      have hits := nodup_bd (hi.nd q) (hi.bd q)
      have hb64 : ∀ x ∈ hs.getD p [] ++ hs.getD q [], x < 64 := fun x hx => by
        rcases List.mem_append.mp hx with z | z
        · have := hi.bd p x z; omega
        · have := hi.bd q x z; omega
      refine aSs_cons (aS_set (i := 9) (aE_ev (aE_uni (l := hs.getD p [] ++ hs.getD q []) (ev_cast (ev_cat (ev_v 5) (ev_v 6) .l .l ?_) (by rw [List.map_append])) ?_ hb64 G.n_sorted G.n_set) ?_) nd)
      · rw [List.length_map, List.length_map, sizeLine_eq]; omega
      · rw [List.length_append]; omega
      have hub := hi.uni p q
      generalize hU : uni (hs.getD p [] ++ hs.getD q []) = U at fin hub ⊢
      have hund : U.Nodup := hU ▸ uni_nodup _
      have hul := nodup_bd hund hub
      refine aSs_cons (aS_forL (L := U.zipIdx) (enc := fun e => .tup [.int (e.2 : Nat), nD e.1]) (by
          rw [← enumD_map]
          exact wi_enum G.n_enumerate (ev_v 9))
        (fun L ρ μ' => ∃ o7 o8 o10 A' fl', ρ = [some (.pr k), some (.tup [.str (wordS meet), nD p, nD q]), some (.str (wordS meet)), some (nD p), some (nD q), some (.lst ((hs.getD p []).map nD)), some (.lst ((hs.getD q []).map nD)), o7, o8, some (.lst (U.map nD)), o10] ∧ BI n A' B fl' ∧ crossA (U.drop L.length) A' = crossA U A ∧ μ' = pre ++ (bc G.CBonds t kind k A' B hs fl' ++ post))
        ⟨none, none, none, A, fl, rfl, bi, rfl, rfl⟩ (fun L x rest ρ' μ' hL ⟨o7, o8, o10, A', fl', h1, bi', hx, h2⟩ => ?_) (fun ρ' μ' ⟨o7, o8, o10, A', fl', h1, bi', hx, h2⟩ => ?_))
      · subst h1 h2
        have hxi : x.2 = L.length ∧ U.drop L.length = x.1 :: U.drop (L.length + 1) := by
          have e1 : U.zipIdx[L.length]? = some x := by rw [hL, List.getElem?_append_right (Nat.le_refl _)]; simp
          rw [List.getElem?_zipIdx] at e1
          cases e2 : U[L.length]? with
          | none => rw [e2] at e1; cases e1
          | some y =>
            rw [e2] at e1
            cases e1
            obtain ⟨hlt, e3⟩ := List.getElem?_eq_some_iff.mp e2
            exact ⟨Nat.zero_add _, by rw [← e3, List.getElem_cons_drop]⟩
        have hxn : x.1 < n := Nat.lt_of_lt_of_le (hub x.1 (List.mem_of_mem_drop (i := L.length) (by rw [hxi.2]; exact List.mem_cons_self))) hm
        rw [hxi.2, crossA_fold] at hx
        refine aG_pair 10 7 nd ?_
        refine aSs_one (aS_forL (L := U.drop (L.length + 1)) (enc := nD) (wi_list (ev_cast (ev_slN (lo := some (((L.length + 1 : Nat)) : Int)) (hi := none) (ev_v 9) .l (ev_cast (ev_addN (i := x.2) (j := 1) (ev_v 10) ev_1) (by rw [hxi.1])) trivial) (by rw [cutD_from])))
          (fun M ρ μ' => ∃ o8 fl', ρ = [some (.pr k), some (.tup [.str (wordS meet), nD p, nD q]), some (.str (wordS meet)), some (nD p), some (nD q), some (.lst ((hs.getD p []).map nD)), some (.lst ((hs.getD q []).map nD)), some (nD x.1), o8, some (.lst (U.map nD)), some (nD x.2)] ∧ BI n (M.foldl (fun A y => bindL A x.1 y) A') B fl' ∧ μ' = pre ++ (bc G.CBonds t kind k (M.foldl (fun A y => bindL A x.1 y) A') B hs fl' ++ post))
          ⟨o8, fl', rfl, bi', rfl⟩ (fun M y rest2 ρ' μ' hM ⟨o8, fl', h1, bi', h2⟩ => ?_) (fun ρ' μ' ⟨o8, fl', h1, bi', h2⟩ => ?_))
        · subst h1 h2
          refine aG_name (i := 8) ?_ nd
          have hy : y < n := Nat.lt_of_lt_of_le (hub y (List.mem_of_mem_drop (i := L.length + 1) (by rw [hM]; simp))) hm
          refine aSs_one (aS_expr (aE_metD 0 G.bBind (by decide) G.clsBonds (ok_bBind G) (hr.mono (by decide)) (aE_ev (ev_v 0) ⟨_, b0.ins, rfl, aA_ev (va_cons (ev_v 7) (va_cons (ev_v 8) va_nil)) (spBind_of hk hn40 bi' hxn hy src0 fun fl2 bi2 => ?_)⟩)))
          refine ⟨_, fl2, rfl, ?_, ?_⟩
          · rw [List.foldl_append]; exact bi2
          · rw [List.foldl_append]; rfl
        · subst h1 h2
          refine ⟨_, _, _, _, fl', rfl, bi', ?_, rfl⟩
          rw [List.length_append]
          exact hx
      · subst h1 h2
        rw [List.length_zipIdx, List.drop_length] at hx
        have hx : A' = crossA U A := hx
        subst hx
        refine aSs_cons (aS_dput hu (aE_ev (ev_v 9) ⟨ev_fld (d := .pr (k + 3)) G.clsBonds G.naB_own_has (ev_v 0) b0.ins rfl, ev_v 4, _, _, b0.gH, rfl, ?_, ?_⟩))
        · rw [encH_len, sizeLine_eq]; omega
        rw [putD_encH hq, set_at (i := 3) hk]
        refine aSs_one (aS_if (aT_ev (tv_eqS (μ := pre ++ (bc G.CBonds t kind k (crossA U A) B (hs.set q U) fl' ++ post)) (ev_v 2) (ev_g hg2)) ?_))
        have hq2 : p < (hs.set q U).length := by rw [List.length_set]; exact hp
        cases meet with
        | true =>
          rw [decide_eq_true (show wordS true = "meet" from rfl), if_pos rfl]
          rw [if_pos rfl] at fin
          refine aSs_one (aS_dput hu (aE_ev (ev_v 9) ⟨ev_fld (d := .pr (k + 3)) G.clsBonds G.naB_own_has (ev_v 0) b0.ins rfl, ev_v 3, _, _, b0.gH, rfl, ?_, ?_⟩))
          · rw [encH_len, List.length_set, sizeLine_eq]; omega
          rw [putD_encH hq2]
          refine endN ?_
          show R .non ((pre ++ (bc G.CBonds t kind k (crossA U A) B (hs.set q U) fl' ++ post)).set (k + 3) _)
          rw [set_at (i := 3) hk]
          exact fin fl' bi'
        | false =>
          rw [decide_eq_false (show ¬ wordS false = "meet" by decide), if_neg Bool.false_ne_true]
          rw [if_neg Bool.false_ne_true] at fin
          exact aSs_nil (endN (fin fl' bi'))
    · rw [decide_eq_false hl, if_pos (by decide)]
      unfold GS.cmp at fin
      rw [decide_eq_false hl, if_neg Bool.false_ne_true] at fin
      dsimp only [GS.has] at fin
      have hln : ∀ z, ∀ x ∈ (hs.getD z []).getLast?.toList, x < n := fun z x hx => Nat.lt_of_lt_of_le (hi.bd z x (List.mem_of_getLast? (Option.mem_toList.mp hx))) hm
      refine aSs_cons (aS_forL (L := (hs.getD p []).getLast?.toList) (enc := nD) (wi_list (ev_cast (ev_slN (lo := some (-1)) (hi := none) (ev_v 5) .l (ev_neg ev_int) trivial) (by rw [cutD_last])))
        (fun L ρ μ' => ∃ o7 o8 fl', ρ = [some (.pr k), some (.tup [.str (wordS meet), nD p, nD q]), some (.str (wordS meet)), some (nD p), some (nD q), some (.lst ((hs.getD p []).map nD)), some (.lst ((hs.getD q []).map nD)), o7, o8, none, none] ∧ BI n (L.foldl (fun A x => (hs.getD q []).getLast?.toList.foldl (fun A y => bindL A x y) A) A) B fl' ∧ μ' = pre ++ (bc G.CBonds t kind k (L.foldl (fun A x => (hs.getD q []).getLast?.toList.foldl (fun A y => bindL A x y) A) A) B hs fl' ++ post))
        ⟨none, none, fl, rfl, bi, rfl⟩ (fun L x rest ρ' μ' hL ⟨o7, o8, fl', h1, bi', h2⟩ => ?_) (fun ρ' μ' ⟨o7, o8, fl', h1, bi', h2⟩ => ?_))
      · subst h1 h2
        refine aG_name (i := 7) ?_ nd
        have hxn : x < n := hln p x (by rw [hL]; simp)
        rw [List.foldl_append]
        generalize L.foldl (fun A x => (hs.getD q []).getLast?.toList.foldl (fun A y => bindL A x y) A) A = A' at bi' ⊢
        refine aSs_one (aS_forL (L := (hs.getD q []).getLast?.toList) (enc := nD) (wi_list (ev_cast (ev_slN (lo := some (-1)) (hi := none) (ev_v 6) .l (ev_neg ev_int) trivial) (by rw [cutD_last])))
          (fun M ρ μ' => ∃ o8 fl', ρ = [some (.pr k), some (.tup [.str (wordS meet), nD p, nD q]), some (.str (wordS meet)), some (nD p), some (nD q), some (.lst ((hs.getD p []).map nD)), some (.lst ((hs.getD q []).map nD)), some (nD x), o8, none, none] ∧ BI n (M.foldl (fun A y => bindL A x y) A') B fl' ∧ μ' = pre ++ (bc G.CBonds t kind k (M.foldl (fun A y => bindL A x y) A') B hs fl' ++ post))
          ⟨o8, fl', rfl, bi', rfl⟩ (fun M y rest2 ρ' μ' hM ⟨o8, fl', h1, bi', h2⟩ => ?_) (fun ρ' μ' ⟨o8, fl', h1, bi', h2⟩ => ⟨_, _, fl', h1, bi', h2⟩))
        subst h1 h2
        refine aG_name (i := 8) ?_ nd
        have hy : y < n := hln q y (by rw [hM]; simp)
        refine aSs_one (aS_expr (aE_metD 0 G.bBind (by decide) G.clsBonds (ok_bBind G) (hr.mono (by decide)) (aE_ev (ev_v 0) ⟨_, b0.ins, rfl, aA_ev (va_cons (ev_v 7) (va_cons (ev_v 8) va_nil)) (spBind_of hk hn40 bi' hxn hy src0 fun fl2 bi2 => ?_)⟩)))
        refine ⟨_, fl2, rfl, ?_, ?_⟩
        · rw [List.foldl_append]; exact bi2
        · rw [List.foldl_append]; rfl
      · subst h1 h2
        refine aSs_one (aS_retN (endR ?_))
        have e : (hs.getD p []).getLast?.toList.foldl (fun A x => (hs.getD q []).getLast?.toList.foldl (fun A y => bindL A x y) A) A = lastA (hs.getD p []) (hs.getD q []) A := by
          unfold lastA
          cases (hs.getD p []).getLast? with
          | none => rfl
          | some x =>
            cases (hs.getD q []).getLast? with
            | none => rfl
            | some y => rfl
        rw [e] at bi' ⊢
        exact fin fl' bi'
end HF

/-! ## P7 -/
namespace HF
open PySem PySem.Spec PyProof.Rows L2
/-! ### go_through -/
def Ev.isLook (e : Ev) : Bool := decide (e.word = "look")
theorem step_num {long : Bool} (s : GS) (e : Ev) : (s.step long e).num = s.num + (if e.isLook = true then 1 else 0) := by
  cases e with
  | look p => rfl
  | add p => rfl
  | meet p q => unfold GS.step GS.cmp; dsimp only; split <;> rfl
  | tell p q => unfold GS.step GS.cmp; dsimp only; split <;> rfl
theorem run_num {long : Bool} : ∀ (l : List Ev) (s : GS), (l.foldl (GS.step long) s).num = s.num + l.countP Ev.isLook
  | [], s => rfl
  | e :: l, s => by
    rw [List.foldl_cons, run_num l, step_num, List.countP_cons]
    omega
theorem zip_filter_len {τ : Type} {f : τ → Bool} : ∀ (l : List τ) (k : Nat), ((l.zipIdx k).filter fun e => f e.1).length = l.countP f
  | [], k => rfl
  | x :: l, k => by
    rw [List.zipIdx_cons, List.filter_cons, List.countP_cons]
    have := zip_filter_len (f := f) l (k + 1)
    cases h : f x with
    | true => simp [this]
    | false => simp [this]
theorem Tab.n_eq (t : Tab) : t.n = t.evs.countP Ev.isLook := by
  unfold Tab.n Tab.looks evsOf
  rw [List.length_map, ← zip_filter_len (f := Ev.isLook) t.evs 0]
  rfl
theorem step_hs_len {long : Bool} (s : GS) (e : Ev) : (s.step long e).hs.length = s.hs.length := by
  cases e with
  | look p => exact List.length_set ..
  | add p => rfl
  | meet p q => unfold GS.step GS.cmp; dsimp only; split <;> simp
  | tell p q => unfold GS.step GS.cmp; dsimp only; split <;> simp
theorem cmp_hi {long meet : Bool} {s : GS} {p q m : Nat} (h : HI m s.hs) : HI m (s.cmp long meet p q).hs := by
  unfold GS.cmp
  split
  · dsimp only
    have h1 := h.set (p := q) (uni_nodup _) (h.uni p q)
    split
    · exact h1.set (p := p) (uni_nodup _) (h.uni p q)
    · exact h1
  · exact h
theorem look_hi {s : GS} {p : Nat} (h : HI s.num s.hs) : HI (s.num + 1) (s.hs.set p (s.has p ++ [s.num])) := by
  refine (h.mono (Nat.le_succ _)).set ?_ fun x hx => ?_
  · refine List.nodup_append.mpr ⟨h.nd p, List.nodup_cons.mpr ⟨List.not_mem_nil, List.nodup_nil⟩, fun a ha b hb e => ?_⟩
    rw [List.mem_singleton.mp hb] at e
    exact Nat.lt_irrefl _ (e ▸ h.bd p a ha)
  · rcases List.mem_append.mp hx with z | z
    · exact Nat.lt_succ_of_lt (h.bd p x z)
    · rw [List.mem_singleton.mp z]; exact Nat.lt_succ_self _
variable {P : Program} {w : World} {K : PySem.W.Frag} {mg : Str → Option Value} {base : Heap}
def spGoThrough (C : Addr) : ASp := fun ds μ R => ∃ t kind pre k fl post, ∃ s : GS, ∃ n : Nat, ds = [.pr k] ∧ pre.length = k ∧ μ = pre ++ (bc C t kind k s.A s.B s.hs fl ++ post) ∧ t.Ok ∧ s.num = 0 ∧ s.hs.length = t.folk ∧ n = t.n ∧ BI n s.A s.B fl ∧ HI 0 s.hs ∧
  ∀ fl', let s' := t.evs.foldl (GS.step (decide (kind = "long"))) s; BI n s'.A s'.B fl' → R .non (pre ++ (bc C t kind k s'.A s'.B s'.hs fl' ++ post))
theorem ok_bGoThrough (G : Facts K mg) : AOk P w K mg base 4 G.bGoThrough.f G.bGoThrough.fd ["self"] (spGoThrough G.CBonds) := by
  refine fnA G.bGoThrough.F sc_bGoThrough (fun ds μ R h => ?_) fun cdv Ar outer s H E ds μ R hr h => ?_
  · obtain ⟨t, kind, pre, k, fl, post, s, n, rfl, _⟩ := h
    rfl
  · obtain ⟨t, kind, pre, k, fl, post, s, n, rfl, hk, rfl, ok, h0, hsl, hn, bi, hi, fin⟩ := h
    have nd := sc_bGoThrough.nd
    have hu := hu_of hr
    have hn30 : n ≤ 30 := hn ▸ ok.n30
    have hn40 : n ≤ 40 := by omega
    have b0 : ∀ {A B hs fl}, BAt G.CBonds t kind k A B hs (pre ++ (bc G.CBonds t kind k A B hs fl ++ post)) := ⟨pre, _, post, hk, rfl⟩
    obtain ⟨tk, hg⟩ := G.g_LOOK
    refine aSs_cons (aS_set (i := 1) (aE_ev ev_int ?_) nd)
    refine aSs_one (aS_forL (L := t.evs.zipIdx) (enc := fun e => .tup [.int (e.2 : Nat), e.1.enc]) (by
        rw [← enumD_map]
        exact wi_enumT G.n_enumerate (ev_fld (d := .tup (t.evs.map Ev.enc)) G.clsBonds G.naB_own_events (ev_v 0) b0.ins rfl))
      (fun L ρ μ' => ∃ o2 o3 fl', let s' := (L.map (·.1)).foldl (GS.step (decide (kind = "long"))) s; ρ = [some (.pr k), some (nD s'.num), o2, o3] ∧ BI n s'.A s'.B fl' ∧ HI s'.num s'.hs ∧ s'.hs.length = t.folk ∧ μ' = pre ++ (bc G.CBonds t kind k s'.A s'.B s'.hs fl' ++ post))
      ⟨none, none, fl, by rw [List.map_nil, List.foldl_nil, h0]; rfl, bi, by rw [List.map_nil, List.foldl_nil, h0]; exact hi, hsl, rfl⟩ (fun L x rest ρ' μ' hL ⟨o2, o3, fl', h1, bi', hi', hsl', h2⟩ => ?_) (fun ρ' μ' ⟨o2, o3, fl', h1, bi', hi', hsl', h2⟩ => ?_))
    · rw [List.map_append, List.foldl_append]
      have hnum : ((L.map (·.1)).foldl (GS.step (decide (kind = "long"))) s).num + (if x.1.isLook = true then 1 else 0) ≤ n := by
        rw [run_num, h0, hn, Tab.n_eq]
        have : t.evs = L.map (·.1) ++ x.1 :: rest.map (·.1) := by
          have := congrArg (List.map (·.1)) hL
          rw [List.zipIdx_map_fst, List.map_append, List.map_cons] at this
          exact this
        rw [this, List.countP_append, List.countP_cons]
        omega
      have hxok : x.1.Ok t.folk := ok.evs _ (by
        have : x ∈ t.evs.zipIdx := by rw [hL]; simp
        exact (List.mem_zipIdx' this).2 ▸ List.getElem_mem _)
      generalize (L.map (·.1)).foldl (GS.step (decide (kind = "long"))) s = z at *
      subst h1 h2
      refine aG_pair 2 3 nd ?_
      obtain ⟨e, i⟩ := x
      have tl : t.folk ≤ 40 := ok.folk
      cases e with
      | look p =>
        refine aSs_cons (aS_if (aT_ev (tv_and (k := true) (k' := true) (tv_cast (tv_notInN (l := []) (ev_v 2) (ev_fld (d := .lst []) G.clsBonds G.naB_own_gone (ev_v 0) b0.ins rfl) isl) rfl) fun _ => tv_cast (tv_eqS (ev_t (i := 0) (xs := [.str "look", nD p]) (ev_v 3)) (ev_g hg)) (by decide)) ?_))
        rw [if_pos (by decide)]
        have hnum : z.num + 1 ≤ n := hnum
        have hm := nodup_bd (hi'.nd p) (hi'.bd p)
        refine aSs_one (aS_expr (aE_met G.bLooked G.clsBonds (ok_bLooked G) (hr.mono (by decide)) (aE_ev (ev_v 0) ⟨_, b0.ins, rfl, aA_ev (va_cons (ev_t (i := 1) (xs := [.str "look", nD p]) (ev_v 3)) (va_cons (ev_v 1) va_nil)) ⟨t, kind, pre, k, z.A, z.B, z.hs, fl', post, p, z.num, n, rfl, hk, rfl, by rw [hsl']; exact hxok, hn40, by omega, bi', fun y hy => Nat.lt_of_lt_of_le (hi'.bd p y hy) (by omega), by omega, by omega, fun fl2 bi2 => ?_⟩⟩)))
        refine aSs_one (aS_aug (i := 1) (k := z.num) rfl (aE_ev (ev_callTy (T := "int") (va_cons (ev_eqS (ev_t (i := 0) (xs := [.str "look", nD p]) (ev_v 3)) (ev_g hg)) va_nil) (acall_intB ⟨rfl, rfl⟩) G.n_int rfl) ⟨1, rfl, ?_⟩) nd)
        exact ⟨_, _, fl2, rfl, bi2, look_hi hi', by rw [List.map_cons, List.map_nil]; exact (step_hs_len (long := decide (kind = "long")) z (.look p)).trans hsl', rfl⟩
      | add p =>
        refine aSs_cons (aS_if (aT_ev (tv_and (k := true) (k' := false) (tv_cast (tv_notInN (l := []) (ev_v 2) (ev_fld (d := .lst []) G.clsBonds G.naB_own_gone (ev_v 0) b0.ins rfl) isl) rfl) fun _ => tv_cast (tv_eqS (ev_t (i := 0) (xs := [.str "add", nD p]) (ev_v 3)) (ev_g hg)) (by decide)) ?_))
        rw [if_neg (by decide)]
        refine aSs_one (aS_if (aT_ev (tv_and (k := true) (k' := false) (tv_cast (tv_notInN (l := []) (ev_v 2) (ev_fld (d := .lst []) G.clsBonds G.naB_own_gone (ev_v 0) b0.ins rfl) isl) rfl) fun _ => tv_cast (tv_gt (ev_len G.n_len (ev_v 3) (xs := [.str "add", nD p]) .t) ev_int) (by first | rfl | simp)) ?_))
        rw [if_neg (by decide)]
        refine aSs_nil ?_
        refine aSs_one (aS_aug (i := 1) (k := z.num) rfl (aE_ev (ev_callTy (T := "int") (va_cons (ev_eqS (ev_t (i := 0) (xs := [.str "add", nD p]) (ev_v 3)) (ev_g hg)) va_nil) (acall_intB ⟨rfl, rfl⟩) G.n_int rfl) ⟨0, rfl, ?_⟩) nd)
        exact ⟨_, _, fl', by rw [Int.add_zero]; rfl, bi', hi', hsl', rfl⟩
      | meet p q =>
        refine aSs_cons (aS_if (aT_ev (tv_and (k := true) (k' := false) (tv_cast (tv_notInN (l := []) (ev_v 2) (ev_fld (d := .lst []) G.clsBonds G.naB_own_gone (ev_v 0) b0.ins rfl) isl) rfl) fun _ => tv_cast (tv_eqS (ev_t (i := 0) (xs := [.str "meet", nD p, nD q]) (ev_v 3)) (ev_g hg)) (by decide)) ?_))
        rw [if_neg (by decide)]
        refine aSs_one (aS_if (aT_ev (tv_and (k := true) (k' := true) (tv_cast (tv_notInN (l := []) (ev_v 2) (ev_fld (d := .lst []) G.clsBonds G.naB_own_gone (ev_v 0) b0.ins rfl) isl) rfl) fun _ => tv_cast (tv_gt (ev_len G.n_len (ev_v 3) (xs := [.str "meet", nD p, nD q]) .t) ev_int) (by first | rfl | simp)) ?_))
        rw [if_pos (by decide)]
        have hnum : z.num + 0 ≤ n := hnum
        refine aSs_one (aS_expr (aE_met G.bCompared G.clsBonds (ok_bCompared G) (hr.mono (by decide)) (aE_ev (ev_v 0) ⟨_, b0.ins, rfl, aA_ev (va_cons (ev_v 3) va_nil) ⟨t, kind, pre, k, fl', post, z, p, q, n, z.num, true, rfl, hk, rfl, by rw [hsl']; exact hxok.1, by rw [hsl']; exact hxok.2, by omega, hn30, by omega, bi', hi', fun fl2 bi2 => ?_⟩⟩)))
        have eB : (z.step (decide (kind = "long")) (.meet p q)).B = z.B := by unfold GS.step GS.cmp; dsimp only; split <;> rfl
        have eN : (z.step (decide (kind = "long")) (.meet p q)).num = z.num := step_num z _
        refine aSs_one (aS_aug (i := 1) (k := z.num) rfl (aE_ev (ev_callTy (T := "int") (va_cons (ev_eqS (ev_t (i := 0) (xs := [.str "meet", nD p, nD q]) (ev_v 3)) (ev_g hg)) va_nil) (acall_intB ⟨rfl, rfl⟩) G.n_int rfl) ⟨0, rfl, ?_⟩) nd)
        refine ⟨some (nD i), some (Ev.enc (.meet p q)), fl2, ?_, ?_, ?_, ?_, ?_⟩
        · rw [List.map_cons, List.map_nil, List.foldl_cons, List.foldl_nil, eN, Int.add_zero]; rfl
        · rw [List.map_cons, List.map_nil, List.foldl_cons, List.foldl_nil, eB]; exact bi2
        · rw [List.map_cons, List.map_nil, List.foldl_cons, List.foldl_nil, eN]; exact cmp_hi hi'
        · rw [List.map_cons, List.map_nil]; exact (step_hs_len (long := decide (kind = "long")) z (.meet p q)).trans hsl'
        · rw [List.map_cons, List.map_nil, List.foldl_cons, List.foldl_nil, eB]; rfl
      | tell p q =>
        refine aSs_cons (aS_if (aT_ev (tv_and (k := true) (k' := false) (tv_cast (tv_notInN (l := []) (ev_v 2) (ev_fld (d := .lst []) G.clsBonds G.naB_own_gone (ev_v 0) b0.ins rfl) isl) rfl) fun _ => tv_cast (tv_eqS (ev_t (i := 0) (xs := [.str "tell", nD p, nD q]) (ev_v 3)) (ev_g hg)) (by decide)) ?_))
        rw [if_neg (by decide)]
        refine aSs_one (aS_if (aT_ev (tv_and (k := true) (k' := true) (tv_cast (tv_notInN (l := []) (ev_v 2) (ev_fld (d := .lst []) G.clsBonds G.naB_own_gone (ev_v 0) b0.ins rfl) isl) rfl) fun _ => tv_cast (tv_gt (ev_len G.n_len (ev_v 3) (xs := [.str "tell", nD p, nD q]) .t) ev_int) (by first | rfl | simp)) ?_))
        rw [if_pos (by decide)]
        have hnum : z.num + 0 ≤ n := hnum
        refine aSs_one (aS_expr (aE_met G.bCompared G.clsBonds (ok_bCompared G) (hr.mono (by decide)) (aE_ev (ev_v 0) ⟨_, b0.ins, rfl, aA_ev (va_cons (ev_v 3) va_nil) ⟨t, kind, pre, k, fl', post, z, p, q, n, z.num, false, rfl, hk, rfl, by rw [hsl']; exact hxok.1, by rw [hsl']; exact hxok.2, by omega, hn30, by omega, bi', hi', fun fl2 bi2 => ?_⟩⟩)))
        have eB : (z.step (decide (kind = "long")) (.tell p q)).B = z.B := by unfold GS.step GS.cmp; dsimp only; split <;> rfl
        have eN : (z.step (decide (kind = "long")) (.tell p q)).num = z.num := step_num z _
        refine aSs_one (aS_aug (i := 1) (k := z.num) rfl (aE_ev (ev_callTy (T := "int") (va_cons (ev_eqS (ev_t (i := 0) (xs := [.str "tell", nD p, nD q]) (ev_v 3)) (ev_g hg)) va_nil) (acall_intB ⟨rfl, rfl⟩) G.n_int rfl) ⟨0, rfl, ?_⟩) nd)
        refine ⟨some (nD i), some (Ev.enc (.tell p q)), fl2, ?_, ?_, ?_, ?_, ?_⟩
        · rw [List.map_cons, List.map_nil, List.foldl_cons, List.foldl_nil, eN, Int.add_zero]; rfl
        · rw [List.map_cons, List.map_nil, List.foldl_cons, List.foldl_nil, eB]; exact bi2
        · rw [List.map_cons, List.map_nil, List.foldl_cons, List.foldl_nil, eN]; exact cmp_hi hi'
        · rw [List.map_cons, List.map_nil]; exact (step_hs_len (long := decide (kind = "long")) z (.tell p q)).trans hsl'
        · rw [List.map_cons, List.map_nil, List.foldl_cons, List.foldl_nil, eB]; rfl
    · rw [List.zipIdx_map_fst] at h1 bi' h2
      subst h1 h2
      exact endN (fin fl' bi')
end HF

/-! ## P8 -/
namespace HF
open PySem PySem.Spec PyProof.Rows L2
/-! ### rules, close -/
abbrev AB := Ps × Ps
theorem nd_false {p : Prop} [Decidable p] (e : (!decide p) = false) : p := by
  by_cases h : p
  · exact h
  · rw [decide_eq_false h] at e; cases e
theorem nd_true {p : Prop} [Decidable p] (e : (!decide p) = true) : ¬ p := fun h => by
  rw [decide_eq_true h] at e; cases e
def AB.In (s : AB) (α β : Nat → Nat → Prop) : Prop := Holds s.1 α ∧ Holds s.2 β
def Sym (A : Ps) : Prop := ∀ i j, (i, j) ∈ A → (j, i) ∈ A
/-- one step of the rules: sound, growing, and told by b -/
structure Stp (n : Nat) (late : Nat → Nat → Bool) (s s' : AB) (b : Bool) : Prop where
  snd : ∀ α β, Closed n late α β → s.In α β → s'.In α β
  mA : ∀ p ∈ s.1, p ∈ s'.1
  mB : ∀ p ∈ s.2, p ∈ s'.2
  sym : Sym s.1 → Sym s'.1
  no : b = false → s' = s
  yes : b = true → s.1.length + s.2.length < s'.1.length + s'.2.length
  le : s.1.length + s.2.length ≤ s'.1.length + s'.2.length
theorem Stp.refl {n : Nat} {late : Nat → Nat → Bool} {s : AB} : Stp n late s s false := ⟨fun _ _ _ h => h, fun _ h => h, fun _ h => h, fun h => h, fun _ => rfl, fun h => (by cases h), Nat.le_refl _⟩
theorem Stp.trans {n : Nat} {late : Nat → Nat → Bool} {s s' s'' : AB} {b b' : Bool} (h : Stp n late s s' b) (k : Stp n late s' s'' b') : Stp n late s s'' (b || b') := by
  refine ⟨fun α β c z => k.snd α β c (h.snd α β c z), fun p hp => k.mA p (h.mA p hp), fun p hp => k.mB p (h.mB p hp), fun z => k.sym (h.sym z), fun e => ?_, fun e => ?_, Nat.le_trans h.le k.le⟩
  · rw [Bool.or_eq_false_iff] at e
    rw [k.no e.2, h.no e.1]
  · rw [Bool.or_eq_true] at e
    rcases e with e | e
    · exact Nat.lt_of_lt_of_le (h.yes e) k.le
    · exact Nat.lt_of_le_of_lt h.le (k.yes e)
theorem mem_bindL {A : Ps} {i j : Nat} {p : Nat × Nat} (h : p ∈ bindL A i j) : p ∈ A ∨ p = (i, j) ∨ p = (j, i) := by
  unfold bindL at h
  split at h
  · exact .inl h
  · rcases mem_addP.mp h with h | h
    · rcases mem_addP.mp h with h | h
      · exact .inl h
      · exact .inr (.inl h)
    · exact .inr (.inr h)
theorem sub_bindL {A : Ps} {i j : Nat} {p : Nat × Nat} (h : p ∈ A) : p ∈ bindL A i j := by
  unfold bindL
  split
  · exact h
  · exact mem_addP.mpr (.inl (mem_addP.mpr (.inl h)))
theorem mem_lowerL {A : Ps} {i j : Nat} {p : Nat × Nat} (h : p ∈ lowerL A i j) : p ∈ A ∨ p = (i, j) := by
  unfold lowerL at h
  split at h
  · exact .inl h
  · exact mem_addP.mp h
theorem sub_lowerL {A : Ps} {i j : Nat} {p : Nat × Nat} (h : p ∈ A) : p ∈ lowerL A i j := by
  unfold lowerL
  split
  · exact h
  · exact mem_addP.mpr (.inl h)
theorem sym_bindL {A : Ps} {i j : Nat} (h : Sym A) : Sym (bindL A i j) := fun a b hab => by
  unfold bindL at hab ⊢
  split
  · rename_i c
    rw [if_pos c] at hab
    exact h a b hab
  · rename_i c
    rw [if_neg c] at hab
    rcases mem_addP.mp hab with z | z
    · rcases mem_addP.mp z with z | z
      · exact mem_addP.mpr (.inl (mem_addP.mpr (.inl (h a b z))))
      · cases z; exact mem_addP.mpr (.inr rfl)
    · cases z; exact mem_addP.mpr (.inl (mem_addP.mpr (.inr rfl)))
theorem Stp.bind {n : Nat} {late : Nat → Nat → Bool} {A B : Ps} {i j : Nat} (h : ∀ α β, Closed n late α β → AB.In (A, B) α β → i ≠ j → α i j) : Stp n late (A, B) (bindL A i j, B) (!decide (i = j ∨ (i, j) ∈ A)) := by
  refine ⟨fun α β c z => ⟨fun p hp => ?_, z.2⟩, fun p hp => sub_bindL hp, fun p hp => hp, sym_bindL, fun e => ?_, fun e => ?_, ?_⟩
  · rcases mem_bindL hp with q | q
    · exact z.1 p q
    · by_cases e : i = j
      · unfold bindL at hp
        rw [if_pos (.inl e)] at hp
        exact z.1 p hp
      · have := h α β c z e
        rcases q with q | q
        · rw [q]; exact this
        · rw [q]; exact c.sym _ _ this
  · have : i = j ∨ (i, j) ∈ A := nd_false e
    unfold bindL
    rw [if_pos this]
  · have : ¬ (i = j ∨ (i, j) ∈ A) := nd_true e
    have q := bindL_len (A := A) (i := i) (j := j)
    rw [if_neg this] at q
    show A.length + B.length < (bindL A i j).length + B.length
    omega
  · have q := bindL_len (A := A) (i := i) (j := j)
    show A.length + B.length ≤ (bindL A i j).length + B.length
    omega
theorem Stp.lower {n : Nat} {late : Nat → Nat → Bool} {A B : Ps} {i j : Nat} (h : ∀ α β, Closed n late α β → AB.In (A, B) α β → i ≠ j → β i j) : Stp n late (A, B) (A, lowerL B i j) (!decide (i = j ∨ (i, j) ∈ B)) := by
  refine ⟨fun α β c z => ⟨z.1, fun p hp => ?_⟩, fun p hp => hp, fun p hp => sub_lowerL hp, fun z => z, fun e => ?_, fun e => ?_, ?_⟩
  · rcases mem_lowerL hp with q | q
    · exact z.2 p q
    · by_cases e : i = j
      · unfold lowerL at hp
        rw [if_pos (.inl e)] at hp
        exact z.2 p hp
      · rw [q]; exact h α β c z e
  · have : i = j ∨ (i, j) ∈ B := nd_false e
    unfold lowerL
    rw [if_pos this]
  · have : ¬ (i = j ∨ (i, j) ∈ B) := nd_true e
    have q := lowerL_len (A := B) (i := i) (j := j)
    rw [if_neg this] at q
    show A.length + B.length < A.length + (lowerL B i j).length
    omega
  · have q := lowerL_len (A := B) (i := i) (j := j)
    show A.length + B.length ≤ A.length + (lowerL B i j).length
    omega
/-- nothing is missing at i, j -/
structure Done (n : Nat) (late : Nat → Nat → Bool) (s : AB) (i j : Nat) : Prop where
  up : i ≠ j → (i, j) ∈ s.2 → (i, j) ∈ s.1
  lo : ∀ k < n, i ≠ k → (i, j) ∈ s.2 → (j, k) ∈ s.2 → (i, k) ∈ s.2
  al : ∀ k < n, i ≠ k → k ≠ j → (i, j) ∈ s.2 → (j, k) ∈ s.1 → (i, k) ∈ s.1
  la : i ≠ j → (i, j) ∈ s.1 → late i j = true → (i, j) ∈ s.2
theorem no_bind {A : Ps} {i j : Nat} (e : (!decide (i = j ∨ (i, j) ∈ A)) = false) (h : i ≠ j) : (i, j) ∈ A := by
  have : i = j ∨ (i, j) ∈ A := nd_false e
  exact this.elim (fun z => absurd z h) id
variable {P : Program} {w : World} {K : PySem.W.Frag} {mg : Str → Option Value} {base : Heap}
theorem SrcD.l {xs : List D} (h : cloL 0 xs = true) : SrcD (.lst xs) := .inl ⟨xs, rfl, h⟩
theorem clo_src {x : Str} {i j : Nat} : (D.tup [.str x, nD i, nD j]).clo 0 = true := clo_tup (clo_cons clo_str (clo_cons clo_int (clo_one clo_int)))
theorem any_bls (L : List Bool) : (L.any fun b => b) = true ↔ true ∈ L := by simp
theorem getD_post {pre l : Sto} {c : Cell} {k : Nat} (h : pre.length = k) : (pre ++ (l ++ [c]))[k + l.length]? = some c := by
  rw [get_at h, List.getElem?_append_right (Nat.le_refl _), Nat.sub_self]; rfl
theorem setD_post {pre l : Sto} {c x : Cell} {k : Nat} (h : pre.length = k) : (pre ++ (l ++ [c])).set (k + l.length) x = pre ++ (l ++ [x]) := by
  rw [set_at h, List.set_append_right _ _ (Nat.le_refl _), Nat.sub_self]; rfl
theorem blsnoc {bs : List Bool} {b : Bool} : bs.map D.bl ++ [D.bl b] = (bs ++ [b]).map D.bl := by rw [List.map_append]; rfl
theorem set5 {C : Addr} {t : Tab} {kind : Str} {k : Nat} {A B : Ps} {hs : List (List Nat)} {fl : List D} {pre : Sto} {c x : Cell} (h : pre.length = k) : (pre ++ (bc C t kind k A B hs fl ++ [c])).set (k + 5) x = pre ++ (bc C t kind k A B hs fl ++ [x]) := setD_post (l := bc C t kind k A B hs fl) h
theorem bc_len {C : Addr} {t : Tab} {kind : Str} {k : Nat} {A B : Ps} {hs : List (List Nat)} {fl : List D} : (bc C t kind k A B hs fl).length = 5 := rfl
theorem clo_encP {n : Nat} (A : Ps) : cloKV n (encP A) = true := by
  unfold cloKV encP
  rw [List.map_map]
  exact cloL_map fun _ _ => clo_bl
theorem clo_encH {n : Nat} (hs : List (List Nat)) : cloKV n (encH hs) = true := by
  unfold cloKV encH
  rw [List.map_map]
  exact cloL_map fun _ _ => clo_lst (cloL_map fun _ _ => clo_int)
/-- out of a method with cells of its own: the five cells stay -/
theorem Exit.bonds {C : Addr} {t : Tab} {kind : Str} {pre ext : Sto} {k : Nat} {A B A' B' : Ps} {hs hs' : List (List Nat)} {fl fl' : List D} {d : D} (hk : pre.length = k) (hf : cloL 0 fl' = true) (hd : d.clo 0 = true) :
    Exit (pre ++ bc C t kind k A B hs fl) d (pre ++ (bc C t kind k A' B' hs' fl' ++ ext)) d (pre ++ bc C t kind k A' B' hs' fl') := by
  refine .inr ⟨⟨ext, by rw [List.append_assoc]⟩, by rw [List.length_append, List.length_append]; exact Nat.le_refl _, fun m c e => ?_, .inl ⟨rfl, D.clo_mono (Nat.zero_le _) hd⟩⟩
  by_cases h : m < pre.length
  · rw [List.getElem?_append_left h] at e ⊢
    exact .inl e
  · have hm : m = k + (m - k) := by omega
    rw [hm, get_at hk] at e
    refine .inr ?_
    have hl : (pre ++ bc C t kind k A' B' hs' fl').length = k + 5 := by rw [List.length_append, hk]; rfl
    rw [hl]
    match hj : m - k, e with
    | 0, e =>
      cases e
      show cloKV (k + 5) (bFs t kind k) = true
      unfold cloKV bFs
      simp only [List.map_cons, List.map_nil]
      have p : ∀ i, i < 5 → (D.pr (k + i)).clo (k + 5) = true := fun i hi => by
        unfold D.clo
        exact decide_eq_true (by omega)
      refine clo_cons clo_int (clo_cons (clo_tup ?_) (clo_cons clo_str (clo_cons (clo_lst clo_nil) (clo_cons (clo_lst ?_) (clo_cons (clo_lst ?_) (clo_cons (p 1 (by decide)) (clo_cons (p 2 (by decide)) (clo_cons (p 3 (by decide)) (clo_one (p 4 (by decide)))))))))))
      · refine cloL_map fun e _ => ?_
        cases e with
        | look p => exact clo_tup (clo_cons clo_str (clo_one clo_int))
        | add p => exact clo_tup (clo_cons clo_str (clo_one clo_int))
        | meet p q => exact clo_tup (clo_cons clo_str (clo_cons clo_int (clo_one clo_int)))
        | tell p q => exact clo_tup (clo_cons clo_str (clo_cons clo_int (clo_one clo_int)))
      · exact cloL_map fun e _ => clo_tup (clo_cons clo_int (clo_one clo_int))
      · exact cloL_map fun e _ => clo_tup (clo_cons clo_int (clo_one clo_int))
    | 1, e => cases e; exact clo_encP _
    | 2, e => cases e; exact clo_encP _
    | 3, e => cases e; exact clo_encH _
    | 4, e => cases e; exact cloL_mono (Nat.zero_le _) hf
    | j + 5, e => cases e
def spRules (C : Addr) : ASp := fun ds μ R => ∃ t kind pre k A B hs fl, ∃ i j : Nat, ds = [.pr k, nD i, nD j] ∧ pre.length = k ∧ μ = pre ++ bc C t kind k A B hs fl ∧ t.Ok ∧ i < t.n ∧ j < t.n ∧ BI t.n A B fl ∧ Sym A ∧
  ∀ A' B' fl' b, Stp t.n t.late (A, B) (A', B') b → (b = false → Done t.n t.late (A, B) i j) → BI t.n A' B' fl' → R (.bl b) (pre ++ bc C t kind k A' B' hs fl')
structure RI (n : Nat) (late : Nat → Nat → Bool) (A B : Ps) (i j : Nat) (L : List Nat) (bs : List Bool) (A' B' : Ps) (fl' : List D) : Prop where
  stp : Stp n late (A, B) (A', B') (bs.any id)
  bi : BI n A' B' fl'
  f0 : bs.any id = false → i ≠ j → (i, j) ∈ B → (i, j) ∈ A
  fl : bs.any id = false → ∀ k ∈ L, (i ≠ k → (i, j) ∈ B → (j, k) ∈ B → (i, k) ∈ B) ∧ (i ≠ k → k ≠ j → (i, j) ∈ B → (j, k) ∈ A → (i, k) ∈ A)
theorem any_snoc {bs : List Bool} {b : Bool} : (bs ++ [b]).any id = (bs.any id || b) := by simp
theorem ok_bRules (G : Facts K mg) : AOk P w K mg base 3 G.bRules.f G.bRules.fd ["self", "one", "other"] (spRules G.CBonds) := by
  refine fnA G.bRules.F sc_bRules (fun ds μ R h => ?_) fun cdv Ar outer s H E ds μ R hr h => ?_
  · obtain ⟨t, kind, pre, k, A, B, hs, fl, i, j, rfl, _⟩ := h
    rfl
  · obtain ⟨t, kind, pre, k, A, B, hs, fl, i, j, rfl, hk, rfl, ok, hi, hj, bi, sy, fin⟩ := h
    have nd := sc_bRules.nd
    have hn40 := ok.n
    have b0 : ∀ {A B fl ext}, BAt G.CBonds t kind k A B hs (pre ++ (bc G.CBonds t kind k A B hs fl ++ ext)) := ⟨pre, _, _, hk, rfl⟩
    obtain ⟨tk, hgB⟩ := G.g_BEGINS
    obtain ⟨tk2, hgA⟩ := G.g_ALIKE
    have el : (pre ++ bc G.CBonds t kind k A B hs fl).length = k + 5 := by rw [List.length_append, hk]; rfl
    refine aSs_cons (aS_set (i := 3) (aE_lstC (aA_nil ⟨Nat.zero_le _, ?_⟩)) nd)
    rw [el, List.append_assoc]
    -- the last part
    have last : ∀ ρ' μ' bs A' B' fl', (∃ o, ρ' = [some (.pr k), some (nD i), some (nD j), some (.pr (k + 5)), o]) → μ' = pre ++ (bc G.CBonds t kind k A' B' hs fl' ++ [.lst (bs.map D.bl)]) → RI t.n t.late A B i j (if (i, j) ∈ B then List.range t.n else []) bs A' B' fl' → bs.length ≤ 1000 →
        aSs (cxOf CX0 P w K mg base ["self", "one", "other", "found", "third"] "Bonds.rules" (defScope s_bRules) G.bRules.f cdv Ar outer s H E).nox ((defBody s_bRules).drop 2) ρ' μ' (ends (pre ++ bc G.CBonds t kind k A B hs fl) R) := by
      intro ρ' μ' bs A' B' fl' ⟨o, e1⟩ e2 ri hbl
      subst e1 e2
      have done : ∀ bs' A2 B2 fl2, Stp t.n t.late (A', B') (A2, B2) (bs'.any id) → (bs'.any id = false → i ≠ j → (i, j) ∈ A' → t.late i j = true → (i, j) ∈ B') → BI t.n A2 B2 fl2 → ∃ d2 μ2, Exit (pre ++ bc G.CBonds t kind k A B hs fl) (.bl ((bs ++ bs').any id)) (pre ++ (bc G.CBonds t kind k A2 B2 hs fl2 ++ [.lst ((bs ++ bs').map D.bl)])) d2 μ2 ∧ R d2 μ2 := by
        intro bs' A2 B2 fl2 st ha bi2
        refine ⟨_, _, Exit.bonds hk bi2.c clo_bl, fin A2 B2 fl2 _ (by rw [List.any_append]; exact ri.stp.trans st) (fun e => ?_) bi2⟩
        rw [List.any_append, Bool.or_eq_false_iff] at e
        have e3 := ri.stp.no e.1
        injection e3 with e4 e5
        subst e4 e5
        refine ⟨ri.f0 e.1, fun k hk h1 h2 h3 => ?_, fun k hk h1 h2 h3 h4 => ?_, ha e.2⟩
        · exact (ri.fl e.1 k (by rw [if_pos h2]; exact List.mem_range.mpr hk)).1 h1 h2 h3
        · exact (ri.fl e.1 k (by rw [if_pos h3]; exact List.mem_range.mpr hk)).2 h1 h2 h3 h4
      have ret : ∀ bs' A2 B2 fl2, (∃ d2 μ2, Exit (pre ++ bc G.CBonds t kind k A B hs fl) (.bl ((bs ++ bs').any id)) (pre ++ (bc G.CBonds t kind k A2 B2 hs fl2 ++ [.lst ((bs ++ bs').map D.bl)])) d2 μ2 ∧ R d2 μ2) →
          aSs (cxOf CX0 P w K mg base ["self", "one", "other", "found", "third"] "Bonds.rules" (defScope s_bRules) G.bRules.f cdv Ar outer s H E).nox ((defBody s_bRules).drop 3) [some (.pr k), some (nD i), some (nD j), some (.pr (k + 5)), o] (pre ++ (bc G.CBonds t kind k A2 B2 hs fl2 ++ [.lst ((bs ++ bs').map D.bl)])) (ends (pre ++ bc G.CBonds t kind k A B hs fl) R) := fun bs' A2 B2 fl2 h =>
        aSs_one (aS_ret (aE_callB (id := "any") (aA_cons (aE_ev (ev_v 3) (aA_nil (acall_any (L := bs ++ bs') (p := id) (.p (getD_post hk)) h)))) G.n_any rfl))
      refine aSs_cons (aS_if (aT_ev (tv_and3 (k1 := !decide (i = j)) (k2 := decide (i = j) || decide ((i, j) ∈ A')) (k3 := t.late i j) (tv_neN (ev_v 1) (ev_v 2)) (fun _ => tv_val (aE_met G.bIsAlike G.clsBonds (ok_bIsAlike G) (hr.mono (by decide)) (aE_ev (ev_v 0) ⟨_, b0.ins, rfl, aA_ev (va_cons (ev_v 1) (va_cons (ev_v 2) va_nil)) ⟨t, kind, k, A', B', hs, i, j, rfl, b0, rfl, rfl⟩⟩)))
        (fun _ _ => tv_val (aE_met G.bIsLate G.clsBonds (ok_bIsLate G) (hr.mono (by decide)) (aE_ev (ev_v 0) ⟨_, b0.ins, rfl, aA_ev (va_cons (ev_v 1) (va_cons (ev_v 2) va_nil)) ⟨t, kind, k, A', B', hs, i, j, rfl, b0, ok, hi, hj, rfl, rfl⟩⟩)))) ?_))
      by_cases hc : (!decide (i = j) && (decide (i = j) || decide ((i, j) ∈ A')) && t.late i j) = true
      · rw [if_pos hc]
        rw [Bool.and_eq_true, Bool.and_eq_true] at hc
        obtain ⟨⟨c1, c2⟩, c3⟩ := hc
        have hne := nd_true c1
        rw [decide_eq_false hne, Bool.false_or] at c2
        have hA := of_decide_eq_true c2
        refine aSs_one (aS_expr (aE_append (ev_v 3) (getD_post hk) (aE_metD 1 G.bLower (by decide) G.clsBonds (ok_bLower G) (hr.mono (by decide)) (aE_ev (ev_v 0) ⟨_, b0.ins, rfl, aA_ev (va_cons (ev_v 1) (va_cons (ev_v 2) (va_cons (ev_lst (va_cons (ev_tup (va_cons (ev_g hgA) (va_cons (ev_v 1) (va_cons (ev_v 2) va_nil)))) va_nil)) va_nil))) (spLower_of hk hn40 ri.bi hi hj (.l (clo_one clo_src)) fun fl2 bi2 => ?_)⟩))))
        refine ⟨_, getD_post hk, by rw [List.length_map, sizeLine_eq]; omega, ?_⟩
        show aSs _ _ _ ((pre ++ (bc G.CBonds t kind k A' (lowerL B' i j) hs fl2 ++ [Cell.lst (bs.map D.bl)])).set (k + 5) _) _
        rw [set5 hk, blsnoc]
        refine ret _ _ _ _ (done _ _ _ _ ?_ (fun e _ _ _ => ?_) bi2)
        · rw [List.any_cons, List.any_nil, Bool.or_false]
          exact .lower fun α β c z _ => c.la i j hi hj hne (z.1 _ hA) c3
        · rw [List.any_cons, List.any_nil, Bool.or_false] at e
          exact (nd_false e).elim (fun z => absurd z hne) id
      · rw [if_neg hc]
        refine aSs_nil ?_
        have := ret [] A' B' fl' (done [] A' B' fl' .refl (fun _ h1 h2 h3 => absurd (by rw [decide_eq_false h1, decide_eq_true h2, h3]; rfl) hc) ri.bi)
        rw [List.append_nil] at this
        exact this
    refine aSs_cons (aS_if (aT_val (aE_met G.bIsBelow G.clsBonds (ok_bIsBelow G) (hr.mono (by decide)) (aE_ev (ev_v 0) ⟨_, b0.ins, rfl, aA_ev (va_cons (ev_v 1) (va_cons (ev_v 2) va_nil)) ⟨t, kind, k, A, B, hs, i, j, rfl, b0, _, rfl, ?_⟩⟩))))
    by_cases hb : (i, j) ∈ B
    · rw [decide_eq_true hb, if_pos rfl]
      refine aSs_cons (aS_expr (aE_append (ev_v 3) (getD_post hk) (aE_metD 1 G.bBind (by decide) G.clsBonds (ok_bBind G) (hr.mono (by decide)) (aE_ev (ev_v 0) ⟨_, b0.ins, rfl, aA_ev (va_cons (ev_v 1) (va_cons (ev_v 2) (va_cons (ev_lst (va_cons (ev_tup (va_cons (ev_g hgB) (va_cons (ev_v 1) (va_cons (ev_v 2) va_nil)))) va_nil)) va_nil))) (spBind_of hk hn40 bi hi hj (.l (clo_one clo_src)) fun fl2 bi2 => ?_)⟩))))
      refine ⟨_, getD_post hk, by rw [sizeLine_eq]; show 0 < _; decide, ?_⟩
      show aSs _ _ _ ((pre ++ (bc G.CBonds t kind k (bindL A i j) B hs fl2 ++ [Cell.lst []])).set (k + 5) _) _
      rw [set5 hk]
      refine aSs_one (aS_forL (L := List.range t.n) (enc := nD) (wi_range G.n_range (aE_met0 G.bMany G.clsBonds (ok_bMany G) (hr.mono (by decide)) (aE_ev (ev_v 0) ⟨_, b0.ins, rfl, ⟨t, kind, k, bindL A i j, B, hs, rfl, b0, rfl, rfl⟩⟩)) (by omega))
        (fun L ρ μ' => ∃ o bs A' B' fl', ρ = [some (.pr k), some (nD i), some (nD j), some (.pr (k + 5)), o] ∧ μ' = pre ++ (bc G.CBonds t kind k A' B' hs fl' ++ [.lst (bs.map D.bl)]) ∧ RI t.n t.late A B i j L bs A' B' fl' ∧ bs.length ≤ 1 + 2 * L.length)
        ⟨none, [!decide (i = j ∨ (i, j) ∈ A)], bindL A i j, B, fl2, rfl, rfl, ⟨?_, bi2, fun e h1 _ => ?_, fun _ k hk => by cases hk⟩, Nat.le_refl _⟩ (fun L x rest ρ' μ' hL ⟨o, bs, A', B', fl', h1, h2, ri, hbl⟩ => ?_) (fun ρ' μ' ⟨o, bs, A', B', fl', h1, h2, ri, hbl⟩ => ?_))
      · rw [List.any_cons, List.any_nil, Bool.or_false]
        exact .bind fun α β c z hne => c.up i j hi hj hne (z.2 _ hb)
      · rw [List.any_cons, List.any_nil, Bool.or_false] at e
        exact no_bind e h1
      · subst h1 h2
        have hx : x < t.n := List.mem_range.mp (by rw [hL]; simp)
        have hLl : L.length ≤ 40 := by
          have := congrArg List.length hL
          rw [List.length_range, List.length_append] at this
          omega
        refine aG_name (i := 4) ?_ nd
        have part2 : ∀ bs1 B1 fl1, RI t.n t.late A B i j L bs1 A' B1 fl1 → (bs1.any id = false → i ≠ x → (i, j) ∈ B → (j, x) ∈ B → (i, x) ∈ B) → bs1.length ≤ 2 + 2 * L.length → ∀ E2 : AEnds, (∀ bs2 A2 B2 fl2, RI t.n t.late A B i j (L ++ [x]) bs2 A2 B2 fl2 → bs2.length ≤ 1 + 2 * (L ++ [x]).length → E2.nx [some (.pr k), some (nD i), some (nD j), some (.pr (k + 5)), some (nD x)] (pre ++ (bc G.CBonds t kind k A2 B2 hs fl2 ++ [Cell.lst (bs2.map D.bl)]))) →
            aSs (cxOf CX0 P w K mg base ["self", "one", "other", "found", "third"] "Bonds.rules" (defScope s_bRules) G.bRules.f cdv Ar outer s H E).nox (match (defBody s_bRules)[1]? with | some (Stmt.If _ [_, Stmt.For _ _ [_, b] _ _] _ _) => [b] | _ => []) [some (.pr k), some (nD i), some (nD j), some (.pr (k + 5)), some (nD x)] (pre ++ (bc G.CBonds t kind k A' B1 hs fl1 ++ [Cell.lst (bs1.map D.bl)])) E2 := by
          intro bs1 B1 fl1 ri1 hlo hl1 E2 kk
          refine aSs_one (aS_if (aT_ev (tv_and (k := !decide (x = j)) (k' := decide (j = x) || decide ((j, x) ∈ A')) (tv_neN (ev_v 4) (ev_v 2)) (fun _ => tv_val (aE_met G.bIsAlike G.clsBonds (ok_bIsAlike G) (hr.mono (by decide)) (aE_ev (ev_v 0) ⟨_, b0.ins, rfl, aA_ev (va_cons (ev_v 2) (va_cons (ev_v 4) va_nil)) ⟨t, kind, k, A', B1, hs, j, x, rfl, b0, rfl, rfl⟩⟩)))) ?_))
          by_cases hc : (!decide (x = j) && (decide (j = x) || decide ((j, x) ∈ A'))) = true
          · rw [if_pos hc]
            rw [Bool.and_eq_true] at hc
            obtain ⟨c1, c2⟩ := hc
            have hne := nd_true c1
            rw [decide_eq_false (fun z : j = x => hne z.symm), Bool.false_or] at c2
            have hA := of_decide_eq_true c2
            refine aSs_one (aS_expr (aE_append (ev_v 3) (getD_post hk) (aE_metD 1 G.bBind (by decide) G.clsBonds (ok_bBind G) (hr.mono (by decide)) (aE_ev (ev_v 0) ⟨_, b0.ins, rfl, aA_ev (va_cons (ev_v 1) (va_cons (ev_v 4) (va_cons (ev_lst (va_cons (ev_tup (va_cons (ev_g hgB) (va_cons (ev_v 1) (va_cons (ev_v 2) va_nil)))) (va_cons (ev_tup (va_cons (ev_g hgA) (va_cons (ev_v 2) (va_cons (ev_v 4) va_nil)))) va_nil))) va_nil))) (spBind_of hk hn40 ri1.bi hi hx (.l (clo_cons clo_src (clo_one clo_src))) fun fl2 bi2 => ?_)⟩))))
            refine ⟨_, getD_post hk, by rw [List.length_map, sizeLine_eq]; omega, ?_⟩
            show E2.nx _ ((pre ++ (bc G.CBonds t kind k (bindL A' i x) B1 hs fl2 ++ [Cell.lst (bs1.map D.bl)])).set (k + 5) _)
            rw [set5 hk, blsnoc]
            refine kk _ _ _ _ ⟨?_, bi2, fun e => ?_, fun e y hy => ?_⟩ (by simp; omega)
            · rw [any_snoc]
              exact ri1.stp.trans (.bind fun α β c z h => c.al i j x hi hj hx h hne (z.2 _ (ri1.stp.mB _ hb)) (z.1 _ hA))
            · rw [any_snoc, Bool.or_eq_false_iff] at e
              exact ri1.f0 e.1
            · rw [any_snoc, Bool.or_eq_false_iff] at e
              have e3 := ri1.stp.no e.1
              injection e3 with e4 e5
              rcases List.mem_append.mp hy with hy | hy
              · exact ri1.fl e.1 y hy
              · rw [List.mem_singleton.mp hy]
                refine ⟨hlo e.1, fun h1 h2 h3 h4 => ?_⟩
                have := no_bind e.2 h1
                rwa [e4] at this
          · rw [if_neg hc]
            refine aSs_nil (kk _ _ _ _ ⟨ri1.stp, ri1.bi, ri1.f0, fun e y hy => ?_⟩ (by simp; omega))
            rcases List.mem_append.mp hy with hy | hy
            · exact ri1.fl e y hy
            · rw [List.mem_singleton.mp hy]
              refine ⟨hlo e, fun h1 h2 h3 h4 => ?_⟩
              have e3 := ri1.stp.no e
              injection e3 with e4 e5
              exact absurd (by rw [decide_eq_false h2, e4, decide_eq_true h4, Bool.or_true]; rfl) hc
        refine aSs_cons (aS_if (aT_val (aE_met G.bIsBelow G.clsBonds (ok_bIsBelow G) (hr.mono (by decide)) (aE_ev (ev_v 0) ⟨_, b0.ins, rfl, aA_ev (va_cons (ev_v 2) (va_cons (ev_v 4) va_nil)) ⟨t, kind, k, A', B', hs, j, x, rfl, b0, _, rfl, ?_⟩⟩))))
        by_cases hjx : (j, x) ∈ B'
        · rw [decide_eq_true hjx, if_pos rfl]
          refine aSs_one (aS_expr (aE_append (ev_v 3) (getD_post hk) (aE_metD 1 G.bLower (by decide) G.clsBonds (ok_bLower G) (hr.mono (by decide)) (aE_ev (ev_v 0) ⟨_, b0.ins, rfl, aA_ev (va_cons (ev_v 1) (va_cons (ev_v 4) (va_cons (ev_lst (va_cons (ev_tup (va_cons (ev_g hgB) (va_cons (ev_v 1) (va_cons (ev_v 2) va_nil)))) (va_cons (ev_tup (va_cons (ev_g hgB) (va_cons (ev_v 2) (va_cons (ev_v 4) va_nil)))) va_nil))) va_nil))) (spLower_of hk hn40 ri.bi hi hx (.l (clo_cons clo_src (clo_one clo_src))) fun fl2 bi2 => ?_)⟩))))
          refine ⟨_, getD_post hk, by rw [List.length_map, sizeLine_eq]; omega, ?_⟩
          show aSs _ _ _ ((pre ++ (bc G.CBonds t kind k A' (lowerL B' i x) hs fl2 ++ [Cell.lst (bs.map D.bl)])).set (k + 5) _) _
          rw [set5 hk, blsnoc]
          refine part2 _ _ _ ⟨?_, bi2, fun e => ?_, fun e y hy => ?_⟩ (fun e h1 h2 h3 => ?_) (by simp; omega) _ fun bs2 A2 B2 fl3 r2 l2 => ⟨_, bs2, A2, B2, fl3, rfl, rfl, r2, l2⟩
          · rw [any_snoc]
            exact ri.stp.trans (.lower fun α β c z h => c.lo i j x hi hj hx h (z.2 _ (ri.stp.mB _ hb)) (z.2 _ hjx))
          · rw [any_snoc, Bool.or_eq_false_iff] at e
            exact ri.f0 e.1
          · rw [any_snoc, Bool.or_eq_false_iff] at e
            exact ri.fl e.1 y hy
          · rw [any_snoc, Bool.or_eq_false_iff] at e
            have e3 := ri.stp.no e.1
            injection e3 with e4 e5
            have := no_bind e.2 h1
            rwa [e5] at this
        · rw [decide_eq_false hjx, if_neg Bool.false_ne_true]
          refine aSs_nil (part2 bs B' fl' ri (fun e h1 h2 h3 => ?_) (by omega) _ fun bs2 A2 B2 fl3 r2 l2 => ⟨_, bs2, A2, B2, fl3, rfl, rfl, r2, l2⟩)
          have e3 := ri.stp.no e
          injection e3 with e4 e5
          exact absurd (by rw [e5]; exact h3) hjx
      · refine last ρ' μ' bs A' B' fl' ⟨o, h1⟩ h2 (by rw [if_pos hb]; exact ri) ?_
        rw [List.length_range] at hbl
        omega
    · rw [decide_eq_false hb, if_neg Bool.false_ne_true]
      exact aSs_nil (last _ _ [] A B fl ⟨none, rfl⟩ rfl ⟨.refl, bi, fun _ _ h => absurd h hb, fun _ _ _ => ⟨fun _ h => absurd h hb, fun _ _ h => absurd h hb⟩⟩ (Nat.zero_le _))
end HF

/-! ## P9 -/
namespace HF
open PySem PySem.Spec PyProof.Rows L2
variable {P : Program} {w : World} {K : PySem.W.Frag} {mg : Str → Option Value} {base : Heap}
/-- from s to s', by the rules -/
structure Rel (n : Nat) (late : Nat → Nat → Bool) (s s' : AB) : Prop where
  snd : ∀ α β, Closed n late α β → s.In α β → s'.In α β
  mA : ∀ p ∈ s.1, p ∈ s'.1
  mB : ∀ p ∈ s.2, p ∈ s'.2
theorem Rel.step {n : Nat} {late : Nat → Nat → Bool} {s s' s'' : AB} {b : Bool} (h : Rel n late s s') (k : Stp n late s' s'' b) : Rel n late s s'' :=
  ⟨fun α β c z => k.snd α β c (h.snd α β c z), fun p hp => k.mA p (h.mA p hp), fun p hp => k.mB p (h.mB p hp)⟩
def spClose (C : Addr) : ASp := fun ds μ R => ∃ t kind pre k A B hs fl, ds = [.pr k] ∧ pre.length = k ∧ μ = pre ++ bc C t kind k A B hs fl ∧ t.Ok ∧ BI t.n A B fl ∧ Sym A ∧
  ∀ A' B' fl', Rel t.n t.late (A, B) (A', B') → Sym A' → (∀ i j, i < t.n → j < t.n → Done t.n t.late (A', B') i j) → BI t.n A' B' fl' → R .non (pre ++ bc C t kind k A' B' hs fl')
theorem ok_bClose (G : Facts K mg) : AOk P w K mg base 4 G.bClose.f G.bClose.fd ["self"] (spClose G.CBonds) := by
  refine fnA G.bClose.F sc_bClose (fun ds μ R h => ?_) fun cdv Ar outer s H E ds μ R hr h => ?_
  · obtain ⟨t, kind, pre, k, A, B, hs, fl, rfl, _⟩ := h
    rfl
  · obtain ⟨t, kind, pre, k, A, B, hs, fl, rfl, hk, rfl, ok, bi, sy, fin⟩ := h
    have nd := sc_bClose.nd
    have hn40 := ok.n
    have b0 : ∀ {A B fl}, BAt G.CBonds t kind k A B hs (pre ++ bc G.CBonds t kind k A B hs fl) := fun {A B fl} => ⟨pre, fl, [], hk, by rw [List.append_nil]⟩
    refine aSs_cons (aS_set (i := 1) (aE_ev ev_bl ?_) nd)
    refine aSs_one (aS_while (P := fun m ρ μ' => ∃ g A' B' fl', ρ = [some (.pr k), some (.bl g), none, none] ∧ μ' = pre ++ bc G.CBonds t kind k A' B' hs fl' ∧ BI t.n A' B' fl' ∧ Sym A' ∧ Rel t.n t.late (A, B) (A', B') ∧ m = (4000 - (A'.length + B'.length)) + (if g = true then 1 else 0) ∧ (g = false → ∀ i j, i < t.n → j < t.n → Done t.n t.late (A', B') i j))
      ⟨true, A, B, fl, rfl, rfl, bi, sy, ⟨fun _ _ _ h => h, fun _ h => h, fun _ h => h⟩, rfl, fun h => by cases h⟩ fun m ρ' μ' ⟨g, A', B', fl', h1, h2, bi', sy', rel, hm, hd⟩ => ?_)
    subst h1 h2
    refine aT_val (aE_ev (ev_v 1) ⟨g, rfl, ?_⟩)
    cases g with
    | false =>
      rw [if_neg Bool.false_ne_true]
      exact endN (fin A' B' fl' rel sy' (hd rfl) bi')
    | true =>
      rw [if_pos rfl]
      have l1 := bi'.a.len40 hn40
      have l2 := bi'.b.len40 hn40
      refine aSs_one (aS_set (i := 1) (aE_callB (id := "any") (aA_cons (aE_lc2 (c := false) (own := [("one", 2), ("other", 3)]) (vs1 := [3]) (lc2s (L := List.range t.n) (M := List.range t.n) (enc := nD) (enc1 := nD)
        (wi_range G.n_range (aE_met0 G.bMany G.clsBonds (ok_bMany G) (hr.mono (by decide)) (aE_ev (ev_v 0) ⟨_, b0.ins, rfl, ⟨t, kind, k, A', B', hs, rfl, b0, rfl, rfl⟩⟩)) (by omega)) ?_
        (fun L acc μ' => ∃ (bs : List Bool) (A2 B2 : Ps) (fl2 : List D), acc = bs.map D.bl ∧ μ' = pre ++ bc G.CBonds t kind k A2 B2 hs fl2 ∧ Stp t.n t.late (A', B') (A2, B2) (bs.any id) ∧ BI t.n A2 B2 fl2 ∧ Sym A2 ∧ (bs.any id = false → ∀ i ∈ L, ∀ j, j < t.n → Done t.n t.late (A', B') i j))
        ⟨[], A', B', fl', rfl, rfl, .refl, bi', sy', fun _ i hi => by cases hi⟩
        (fun L i M acc μ' => ∃ (bs : List Bool) (A2 B2 : Ps) (fl2 : List D), acc = bs.map D.bl ∧ μ' = pre ++ bc G.CBonds t kind k A2 B2 hs fl2 ∧ Stp t.n t.late (A', B') (A2, B2) (bs.any id) ∧ BI t.n A2 B2 fl2 ∧ Sym A2 ∧ (bs.any id = false → (∀ i ∈ L, ∀ j, j < t.n → Done t.n t.late (A', B') i j) ∧ ∀ j ∈ M, Done t.n t.late (A', B') i j))
        (fun L i rest acc μ' hL ⟨bs, A2, B2, fl2, h1, h2, st, bi2, sy2, hd2⟩ => ?_) (fun acc μ' ⟨bs, A2, B2, fl2, h1, h2, st, bi2, sy2, hd2⟩ => ?_)) (blkOk_by (by kernel_rfl)) (by decide) nd)) G.n_any rfl) nd)
      · have : t.n * t.n ≤ 40 * 40 := Nat.mul_le_mul hn40 hn40
        rw [List.length_range, sizeLine_eq]
        omega
      · subst h1 h2
        have hi : i < t.n := List.mem_range.mp (by rw [hL]; simp)
        intro s H C cl fp
        refine aGc_name (i := 2) ?_ nd
        intro s H C cl fp
        refine ⟨wi_range G.n_range (aE_met0 G.bMany G.clsBonds (ok_bMany G) (hr.mono (by decide)) (aE_ev (ev_v 0) ⟨_, b0.ins, rfl, ⟨t, kind, k, A2, B2, hs, rfl, b0, rfl, rfl⟩⟩)) (by omega), ⟨bs, A2, B2, fl2, rfl, rfl, st, bi2, sy2, fun e => ⟨hd2 e, fun j hj => by cases hj⟩⟩, fun M j rest1 acc1 μ5 hM ⟨bs, A2, B2, fl2, h1, h2, st, bi2, sy2, hd2⟩ => ?_, fun acc1 μ5 ⟨bs, A2, B2, fl2, h1, h2, st, bi2, sy2, hd2⟩ => ⟨bs, A2, B2, fl2, h1, h2, st, bi2, sy2, fun e i' hi' j hj => ?_⟩⟩
        · subst h1 h2
          have hj : j < t.n := List.mem_range.mp (by rw [hM]; simp)
          intro s H C cl fp
          refine aGc_name (i := 3) ?_ nd
          intro s H C cl fp
          refine aTs_nil ?_
          rw [if_pos rfl]
          intro s H C cl fp
          refine aE_met G.bRules G.clsBonds (ok_bRules G) hr (aE_ev (ev_v 0) ⟨_, b0.ins, rfl, aA_ev (va_cons (ev_v 2) (va_cons (ev_v 3) va_nil)) ⟨t, kind, pre, k, A2, B2, hs, fl2, i, j, rfl, hk, rfl, ok, hi, hj, bi2, sy2, fun A3 B3 fl3 b st3 dn bi3 => ?_⟩⟩)
          refine ⟨bs ++ [b], A3, B3, fl3, by rw [List.map_append]; rfl, rfl, by rw [any_snoc]; exact st.trans st3, bi3, st3.sym sy2, fun e => ?_⟩
          rw [any_snoc, Bool.or_eq_false_iff] at e
          refine ⟨(hd2 e.1).1, fun j' hj' => ?_⟩
          rcases List.mem_append.mp hj' with z | z
          · exact (hd2 e.1).2 j' z
          · rw [List.mem_singleton.mp z]
            have := dn e.2
            rw [st.no e.1] at this
            exact this
        · rcases List.mem_append.mp hi' with z | z
          · exact (hd2 e).1 i' z j hj
          · rw [List.mem_singleton.mp z]
            exact (hd2 e).2 j (List.mem_range.mpr hj)
      · subst h1 h2
        refine aA_nil (acall_any (L := bs) (p := id) .l ?_)
        refine ⟨_, ?_, bs.any id, A2, B2, fl2, rfl, rfl, bi2, sy2, rel.step st, rfl, fun e i j hi hj => ?_⟩
        · have m1 := bi2.a.len40 hn40
          have m2 := bi2.b.len40 hn40
          have e1 := st.le
          have e2 := st.yes
          dsimp only at e1 e2
          cases hb : bs.any id with
          | true =>
            have := e2 hb
            rw [if_pos rfl, hm, if_pos rfl]
            omega
          | false =>
            rw [if_neg Bool.false_ne_true, hm, if_pos rfl]
            omega
        · have := hd2 e i (List.mem_range.mpr hi) j hj
          rw [← st.no e] at this
          exact this
end HF

/-! ## P10 -/
namespace HF
open PySem PySem.Spec PyProof.Rows L2
variable {P : Program} {w : World} {K : PySem.W.Frag} {mg : Str → Option Value} {base : Heap}
theorem sym_nil : Sym [] := fun _ _ h => by cases h
theorem sym_fold {x : Nat} : ∀ {l : List Nat} {A : Ps}, Sym A → Sym (l.foldl (fun A y => bindL A x y) A)
  | [], _, h => h
  | y :: l, A, h => sym_fold (l := l) (A := bindL A x y) (sym_bindL h)
theorem sym_cross : ∀ {l : List Nat} {A : Ps}, Sym A → Sym (crossA l A)
  | [], _, h => h
  | x :: l, A, h => sym_cross (l := l) (A := l.foldl (fun A y => bindL A x y) A) (sym_fold h)
theorem sym_last {l m : List Nat} {A : Ps} (h : Sym A) : Sym (lastA l m A) := by
  unfold lastA
  split
  · exact sym_bindL h
  · exact h
theorem sym_step {long : Bool} {s : GS} {e : Ev} (h : Sym s.A) : Sym (s.step long e).A := by
  have c : ∀ meet p q, Sym (s.cmp long meet p q).A := fun meet p q => by
    unfold GS.cmp
    split
    · exact sym_cross h
    · exact sym_last h
  cases e with
  | look p => exact h
  | add p => exact h
  | meet p q => exact c true p q
  | tell p q => exact c false p q
theorem sym_run {long : Bool} : ∀ {l : List Ev} {s : GS}, Sym s.A → Sym (l.foldl (GS.step long) s).A
  | [], _, h => h
  | e :: l, s, h => sym_run (l := l) (s := s.step long e) (sym_step h)
theorem fold_more {M : Ps} : ∀ {A : Ps} {α : Nat → Nat → Prop}, (∀ i j, α i j → α j i) → Holds A α → Holds M α → Holds (M.foldl (fun A p => bindL A p.1 p.2) A) α := by
  induction M with
  | nil => intro A α _ h _; exact h
  | cons p M ih =>
    intro A α hs h hm
    refine ih hs (fun q hq => ?_) fun q hq => hm q (List.mem_cons_of_mem _ hq)
    rcases mem_bindL hq with z | z | z
    · exact h q z
    · rw [z]; exact hm p List.mem_cons_self
    · rw [z]; exact hs _ _ (hm p List.mem_cons_self)
theorem fold_more_sub {M : Ps} : ∀ {A : Ps} {q : Nat × Nat}, q ∈ A → q ∈ M.foldl (fun A p => bindL A p.1 p.2) A := by
  induction M with
  | nil => intro A q h; exact h
  | cons p M ih => intro A q h; exact ih (sub_bindL h)
theorem fold_more_mem {M : Ps} : ∀ {A : Ps} {q : Nat × Nat}, q ∈ M → q.1 ≠ q.2 → q ∈ M.foldl (fun A p => bindL A p.1 p.2) A := by
  induction M with
  | nil => intro A q h; cases h
  | cons p M ih =>
    intro A q h hne
    rcases List.mem_cons.mp h with rfl | h
    · refine fold_more_sub (M := M) (A := bindL A q.1 q.2) ?_
      unfold bindL
      split
      · rename_i c
        exact c.elim (fun z => absurd z hne) id
      · exact mem_addP.mpr (.inl (mem_addP.mpr (.inr rfl)))
    · exact ih h hne
theorem fold_more_sym {M : Ps} : ∀ {A : Ps}, Sym A → Sym (M.foldl (fun A p => bindL A p.1 p.2) A) := by
  induction M with
  | nil => intro A h; exact h
  | cons p M ih => intro A h; exact ih (sym_bindL h)
theorem knows_of {t : Tab} {long : Bool} {M A' B' : Ps} (hM : ∀ q ∈ M, q.1 ≠ q.2) (rel : Rel t.n t.late (M.foldl (fun A p => bindL A p.1 p.2) (t.run long).A, (t.run long).B) (A', B')) (sy : Sym A') (dn : ∀ i j, i < t.n → j < t.n → Done t.n t.late (A', B') i j) (pA : Pok t.n A') (pB : Pok t.n B') : Knows t long M A' B' := by
  have cl : Closed t.n t.late (fun i j => (i, j) ∈ A') (fun i j => (i, j) ∈ B') := ⟨fun i j h => sy i j h, fun i j hi hj h1 h2 => (dn i j hi hj).up h1 h2, fun i j k hi hj hk h1 h2 h3 => (dn i j hi hj).lo k hk h1 h2 h3, fun i j k hi hj hk h1 h2 h3 h4 => (dn i j hi hj).al k hk h1 h2 h3 h4, fun i j hi hj h1 h2 h3 => (dn i j hi hj).la h1 h2 h3⟩
  have b1 : Holds (t.run long).A fun i j => (i, j) ∈ A' := fun p hp => rel.mA p (fold_more_sub hp)
  have b2 : Holds M fun i j => (i, j) ∈ A' := fun p hp => rel.mA p (fold_more_mem hp (hM p hp))
  have b3 : Holds (t.run long).B fun i j => (i, j) ∈ B' := fun p hp => rel.mB p hp
  refine ⟨fun i j => ⟨fun h α β c h1 h2 h3 => ?_, fun h => h _ _ cl b1 b2 b3⟩, fun i j => ⟨fun h α β c h1 h2 h3 => ?_, fun h => h _ _ cl b1 b2 b3⟩⟩
  · exact (rel.snd α β c ⟨fold_more c.sym h1 h2, h3⟩).1 _ h
  · exact (rel.snd α β c ⟨fold_more c.sym h1 h2, h3⟩).2 _ h
theorem encH_new (n : Nat) : (List.range n).foldl (fun acc (t : Nat) => putD acc ((.inl (t : Int) : Key)) (D.lst [])) [] = encH (List.replicate n []) := by
  induction n with
  | zero => rfl
  | succ n ih =>
    rw [List.range_succ, List.foldl_append, ih, List.foldl_cons, List.foldl_nil, List.replicate_succ']
    unfold putD
    have : ¬ ((encH (List.replicate n [])).any fun kv => decide (kv.1 = (.inl (n : Int) : Key))) = true := by
      rw [List.any_eq_true]
      rintro ⟨kv, hkv, e⟩
      unfold encH at hkv
      obtain ⟨q, hq, rfl⟩ := List.mem_map.mp hkv
      have e := of_decide_eq_true e
      injection e with e
      have := List.snd_lt_of_mem_zipIdx hq
      rw [List.length_replicate] at this
      omega
    rw [if_neg this]
    unfold encH
    rw [List.zipIdx_append, List.map_append, List.length_replicate]
    simp
theorem set0 {pre post : Sto} {c x : Cell} {k : Nat} (h : pre.length = k) : (pre ++ (c :: post)).set k x = pre ++ (x :: post) := set_at (i := 0) h
theorem get0 {pre post : Sto} {c : Cell} {k : Nat} (h : pre.length = k) : (pre ++ (c :: post))[k]? = some c := get_at (i := 0) h
def MoreD (d : D) (M : Ps) : Prop := d = .lst (M.map pD) ∨ d = .tup (M.map pD)
def spBInit (C : Addr) : ASp := fun ds μ R => ∃ t kind pre k M more, ds = [.pr k, Tab.enc t, .str kind, .tup [], more] ∧ pre.length = k ∧ μ = pre ++ [.ins C []] ∧ t.Ok ∧ MoreD more M ∧ (∀ q ∈ M, q.1 ≠ q.2 ∧ q.1 < t.n ∧ q.2 < t.n) ∧
  ∀ A B fl, Knows t (decide (kind = "long")) M A B → cloL 0 fl = true → R .non (pre ++ bc C t kind k A B (t.run (decide (kind = "long"))).hs fl)
theorem aS_fldK {X : Cx} {e o : Expr} {ρ : AEnv} {μ : Sto} {pos pos' : Pos} {E : AEnds} {C : Addr} {f : Str} (k : Nat) (hc : Cls X.K C) (hn : NoAttr X.K C f) (he : aE X e ρ μ fun x μ1 => EV X o ρ μ1 (.pr k) ∧ ∃ fs, μ1[k]? = some (.ins C fs) ∧ fs.length < 1000 ∧ E.nx ρ (μ1.set k (.ins C (putN f x fs))))
    (hs : swapsWith e (some (.Attribute o f pos')) pos.line X.env = pure false := by rfl) : aS X (.Assign [.Attribute o f pos'] e pos) ρ μ E := aS_fld (x := .non) (d := .pr k) hc hn (aE_mono he fun x μ1 ⟨h1, fs, h2, h3, h4⟩ => ⟨h1, k, fs, rfl, h2, h3, h4⟩) hs
theorem ok_bInit (G : Facts K mg) : AOk P w K mg base 5 G.bInit.f G.bInit.fd ["self", "timetable", "kind", "gone", "more"] (spBInit G.CBonds) := by
  refine fnAD G.bInit.F sc_bInit (fun ds μ R h => ?_) fun cdv Ar outer s H E ds μ R hr h => ?_
  · obtain ⟨t, kind, pre, k, M, more, rfl, _⟩ := h
    rfl
  · obtain ⟨t, kind, pre, k, M, more, rfl, hk, rfl, ok, hmore, hM, fin⟩ := h
    have nd := sc_bInit.nd
    have hn40 := ok.n
    have hev : t.evs.length ≤ 100 := Nat.le_trans ok.len (by decide)
    have hfk := ok.folk
    refine aSs_cons (aS_asg (aE_ev (ev_v 1) (aG_tup (aGs_cons (aG_fld G.clsBonds G.naB_own_people (ev_v 0) (get0 hk) (by decide) (aGs_cons (aG_fld G.clsBonds G.naB_own_events (ev_v 0) (by rw [set0 hk]; exact get0 hk) (by show 1 < 1000; decide) (aGs_nil ?_))))))))
    rw [set0 hk, set0 hk]
    refine aSs_cons (aS_fldK k G.clsBonds G.naB_own_kind (aE_ev (ev_v 2) ⟨ev_v 0, _, get0 hk, by show 2 < 1000; decide, ?_⟩))
    rw [set0 hk]
    refine aSs_cons (aS_fldK k G.clsBonds G.naB_own_gone (aE_ev (ev_list G.n_list (ev_v 3) .t) ⟨ev_v 0, _, get0 hk, by show 3 < 1000; decide, ?_⟩))
    rw [set0 hk]
    refine aSs_cons (aS_fldK k G.clsBonds G.naB_own_looks (aE_def G.looks (ok_looks G) (hr.mono (by decide)) (aA_ev (va_cons (ev_v 1) va_nil) ⟨t, rfl, hev, ev_v 0, _, get0 hk, by show 4 < 1000; decide, ?_⟩)))
    rw [set0 hk]
    refine aSs_cons (aS_fldK k G.clsBonds G.naB_own_adds (aE_def G.adds (ok_adds G) (hr.mono (by decide)) (aA_ev (va_cons (ev_v 1) va_nil) ⟨t, rfl, hev, ev_v 0, _, get0 hk, by show 5 < 1000; decide, ?_⟩)))
    rw [set0 hk]
    have ln : ∀ l : Sto, (pre ++ l).length = k + l.length := fun l => by rw [List.length_append, hk]
    refine aSs_cons (aS_fldK k G.clsBonds G.naB_own_alike (aE_dnewT ?_))
    rw [List.append_assoc]
    refine ⟨ev_v 0, _, get0 hk, by show 6 < 1000; decide, ?_⟩
    rw [List.cons_append, set0 hk, ln]
    refine aSs_cons (aS_fldK k G.clsBonds G.naB_own_below (aE_dnewT ?_))
    rw [List.append_assoc]
    refine ⟨ev_v 0, _, get0 hk, by show 7 < 1000; decide, ?_⟩
    rw [List.cons_append, set0 hk, ln]
    refine aSs_cons (aS_fldK k G.clsBonds G.naB_own_has (aE_dc (own := [("person", 7)]) (dcp (L := List.range t.folk) (enc := nD) (key := fun p : Nat => .inl (p : Int)) (g := fun _ => .lst []) (env := fun p => [some (.pr k), some (Tab.enc t), some (.str kind), some (.tup []), some more, none, none, some (nD p)]) ?_ ?_ ?_ ?_ ?_ ?_) (blkOk_by (by kernel_rfl)) nd))
    · rw [← rangeD_nD]
      exact vi_range G.n_range (ev_fld (d := nD t.folk) G.clsBonds G.naB_own_people (ev_v 0) ⟨k, rfl, get0 hk⟩ rfl) (Nat.lt_of_le_of_lt hfk (by decide))
    · rw [List.length_range]; exact small1000 (by omega)
    · intro p _ s H C cl fp
      exact aGc_name (i := 7) ⟨rfl, rfl⟩ nd
    · intro p _ s H C cl fp
      exact ev_v 7
    · intro p _ s H C cl fp
      exact ev_lst va_nil
    rw [encH_new, List.append_assoc]
    refine ⟨ev_v 0, _, get0 hk, by show 8 < 1000; decide, ?_⟩
    rw [List.cons_append, set0 hk, ln]
    refine aSs_cons (aS_fldK k G.clsBonds G.naB_own_facts (aE_lstC (aA_nil ⟨Nat.zero_le _, ?_⟩)))
    rw [List.append_assoc]
    refine ⟨ev_v 0, _, get0 hk, by show 9 < 1000; decide, ?_⟩
    rw [List.cons_append, set0 hk, ln]
    have b0 : ∀ {A B hs fl}, BAt G.CBonds t kind k A B hs (pre ++ bc G.CBonds t kind k A B hs fl) := fun {A B hs fl} => ⟨pre, fl, [], hk, by rw [List.append_nil]⟩
    show aSs _ _ _ (pre ++ bc G.CBonds t kind k [] [] (List.replicate t.folk []) []) _
    have pn : Pok t.n [] := ⟨List.nodup_nil, fun p hp => by cases hp⟩
    have hrep : ∀ p, (List.replicate t.folk ([] : List Nat)).getD p [] = [] := fun p => by
      rw [List.getD_eq_getElem?_getD, List.getElem?_replicate]
      split <;> rfl
    refine aSs_cons (aS_expr (aE_met0 G.bGoThrough G.clsBonds (ok_bGoThrough G) (hr.mono (by decide)) (aE_ev (ev_v 0) ⟨_, b0.ins, rfl, ⟨t, kind, pre, k, [], [], .init t.folk, t.n, rfl, hk, by rw [List.append_nil]; rfl, ok, rfl, List.length_replicate, rfl, ⟨pn, pn, Nat.le_refl _, clo_nil⟩, ⟨fun p => ?_, fun p x hx => ?_⟩, fun fl1 bi1 => ?_⟩⟩)))
    · show ((List.replicate t.folk ([] : List Nat)).getD p []).Nodup
      rw [hrep]
      exact List.nodup_nil
    · have hx : x ∈ (List.replicate t.folk ([] : List Nat)).getD p [] := hx
      rw [hrep] at hx
      cases hx
    rw [List.append_nil]
    have bi1 : BI t.n (t.run (decide (kind = "long"))).A (t.run (decide (kind = "long"))).B fl1 := bi1
    show aSs _ _ _ (pre ++ bc G.CBonds t kind k (t.run (decide (kind = "long"))).A (t.run (decide (kind = "long"))).B (t.run (decide (kind = "long"))).hs fl1) _
    have sy1 : Sym (t.run (decide (kind = "long"))).A := sym_run (s := .init t.folk) sym_nil
    have hwi : EVL (cxOf CX0 P w K mg base ["self", "timetable", "kind", "gone", "more", "one", "other", "person"] "Bonds.__init__" (defScope s_bInit) G.bInit.f cdv Ar outer s H E).nox (match (defBody s_bInit)[10]? with | some (Stmt.For tg _ _ _ _) => tg | _ => .Constant .none 0 ⟨0, 0, 0, 0⟩) (match (defBody s_bInit)[10]? with | some (Stmt.For _ it _ _ _) => it | _ => .Constant .none 0 ⟨0, 0, 0, 0⟩)
      [some (.pr k), some (Tab.enc t), some (.str kind), some (.tup []), some more, none, none, none] (pre ++ bc G.CBonds t kind k (t.run (decide (kind = "long"))).A (t.run (decide (kind = "long"))).B (t.run (decide (kind = "long"))).hs fl1) (M.map pD) := by
      rcases hmore with rfl | rfl
      · exact wi_list (ev_v 4)
      · exact wi_tup (ev_v 4)
    refine aSs_cons (aS_forL (L := M) (enc := pD) hwi
      (fun L ρ μ' => ∃ o5 o6 fl', ρ = [some (.pr k), some (Tab.enc t), some (.str kind), some (.tup []), some more, o5, o6, none] ∧ BI t.n (L.foldl (fun A p => bindL A p.1 p.2) (t.run (decide (kind = "long"))).A) (t.run (decide (kind = "long"))).B fl' ∧ μ' = pre ++ bc G.CBonds t kind k (L.foldl (fun A p => bindL A p.1 p.2) (t.run (decide (kind = "long"))).A) (t.run (decide (kind = "long"))).B (t.run (decide (kind = "long"))).hs fl')
      ⟨none, none, fl1, rfl, bi1, rfl⟩ (fun L x rest ρ' μ' hL ⟨o5, o6, fl', h1, bi', h2⟩ => ?_) (fun ρ' μ' ⟨o5, o6, fl', h1, bi', h2⟩ => ?_))
    · subst h1 h2
      obtain ⟨_, hx1, hx2⟩ := hM x (by rw [hL]; simp)
      refine aG_pair 5 6 nd ?_
      refine aSs_one (aS_expr (aE_metD 0 G.bBind (by decide) G.clsBonds (ok_bBind G) (hr.mono (by decide)) (aE_ev (ev_v 0) ⟨_, b0.ins, rfl, aA_ev (va_cons (ev_v 5) (va_cons (ev_v 6) va_nil)) ?_⟩)))
      have := spBind_of (C := G.CBonds) (t := t) (kind := kind) (hs := (t.run (decide (kind = "long"))).hs) (post := []) (Q := fun _ μ1 => ∃ o5 o6 fl', [some (.pr k), some (Tab.enc t), some (.str kind), some (.tup []), some more, some (nD x.1), some (nD x.2), none] = [some (.pr k), some (Tab.enc t), some (.str kind), some (.tup []), some more, o5, o6, none] ∧ BI t.n ((L ++ [x]).foldl (fun A p => bindL A p.1 p.2) (t.run (decide (kind = "long"))).A) (t.run (decide (kind = "long"))).B fl' ∧ μ1 = pre ++ bc G.CBonds t kind k ((L ++ [x]).foldl (fun A p => bindL A p.1 p.2) (t.run (decide (kind = "long"))).A) (t.run (decide (kind = "long"))).B (t.run (decide (kind = "long"))).hs fl') hk hn40 bi' hx1 hx2 src0 fun fl2 bi2 => ⟨_, _, fl2, rfl, by rw [List.foldl_append]; exact bi2, by rw [List.foldl_append, List.append_nil]; rfl⟩
      rw [List.append_nil] at this
      exact this
    · subst h1 h2
      refine aSs_one (aS_expr (aE_met0 G.bClose G.clsBonds (ok_bClose G) (hr.mono (by decide)) (aE_ev (ev_v 0) ⟨_, b0.ins, rfl, ⟨t, kind, pre, k, _, _, _, fl', rfl, hk, rfl, ok, bi', fold_more_sym sy1, fun A' B' fl2 rel sy2 dn bi2 => endN (fin A' B' fl2 (knows_of (fun q hq => (hM q hq).1) rel sy2 dn bi2.a bi2.b) bi2.c)⟩⟩)))
end HF

/-! ## P11 -/
namespace HF
open PySem PySem.Spec PyProof.Rows L2
variable {P : Program} {w : World} {K : PySem.W.Frag} {mg : Str → Option Value} {base : Heap}
/-- Bonds(e1, e2) -/
theorem aE_bonds {X : Cx} {e1 e2 : Expr} {ρ : AEnv} {μ : Sto} {Q : DK} {p pos : Pos} {t : Tab} {kind : Str} (G : Facts X.K X.mg) (hr : Room 6 X.A) (h1 : EV X e1 ρ μ t.enc) (h2 : EV X e2 ρ μ (.str kind)) (ok : t.Ok)
    (h : ∀ A B fl, Knows t (decide (kind = "long")) [] A B → cloL 0 fl = true → Q (.pr μ.length) (μ ++ bc G.CBonds t kind μ.length A B (t.run (decide (kind = "long"))).hs fl))
    (hg : Gl X "Bonds" := by rfl) (s1 : starEach [e1, e2] X.env = (false, eval e1 X.env) :: starEach [e2] X.env := by rfl) (s2 : starEach [e2] X.env = (false, eval e2 X.env) :: starEach [] X.env := by rfl) (hpl : (backTo pos (starEach [e2] X.env)).any (·.1) = false := by rfl) :
    aE X (.Call (.Name "Bonds" p) [e1, e2] [] pos) ρ μ Q :=
  aE_mkD 0 G.bInit (by decide) (ok_bInit G) hr G.mBonds (aA_ev (va_cons h1 (va_cons h2 va_nil s2) s1) ⟨t, kind, μ, _, [], .tup [], rfl, rfl, rfl, ok, .inr rfl, fun q hq => (by cases hq), fun A B fl k1 k2 => ⟨rfl, h A B fl k1 k2⟩⟩) hg (by decide) s1 hpl
theorem BAt.last {C : Addr} {t : Tab} {kind : Str} {k : Nat} {A B : Ps} {hs : List (List Nat)} {fl : List D} {μ post : Sto} (h : μ.length = k) : BAt C t kind k A B hs (μ ++ (bc C t kind k A B hs fl ++ post)) := ⟨μ, fl, post, h, rfl⟩
theorem BAt.last0 {C : Addr} {t : Tab} {kind : Str} {A B : Ps} {hs : List (List Nat)} {fl : List D} {μ : Sto} : BAt C t kind μ.length A B hs (μ ++ bc C t kind μ.length A B hs fl) := ⟨μ, fl, [], rfl, by rw [List.append_nil]⟩

/-! ### as_tuples -/
def D.fl : Nat → D → Bool
  | _, .non => true
  | _, .bl _ => true
  | _, .int _ => true
  | _, .str _ => true
  | n + 1, .lst xs => xs.all (D.fl n) && decide (xs.length < 1000)
  | n + 1, .tup xs => xs.all (D.fl n) && decide (xs.length < 1000)
  | _, _ => false
def D.tt : Nat → D → D
  | n + 1, .lst xs => .tup (xs.map (D.tt n))
  | n + 1, .tup xs => .tup (xs.map (D.tt n))
  | _, d => d
def spAsTuples (n : Nat) : ASp := fun ds μ R => ∃ d, ds = [d] ∧ d.fl n = true ∧ R (d.tt n) μ
theorem D.fl_tyn : ∀ {n : Nat} {d : D}, d.fl n = true → ∃ s, d.tyn = some s
  | _, .non, _ => ⟨_, rfl⟩
  | _, .bl _, _ => ⟨_, rfl⟩
  | _, .int _, _ => ⟨_, rfl⟩
  | _, .str _, _ => ⟨_, rfl⟩
  | _, .lst _, _ => ⟨_, rfl⟩
  | _, .tup _, _ => ⟨_, rfl⟩
  | _, .scr _, _ => ⟨_, rfl⟩
  | 0, .pr _, h => by cases h
  | _ + 1, .pr _, h => by cases h
  | 0, .ty _, h => by cases h
  | _ + 1, .ty _, h => by cases h
  | 0, .kt _, h => by cases h
  | _ + 1, .kt _, h => by cases h
theorem ok_asTuples (G : Facts K mg) : ∀ n, AOk P w K mg base (n + 1) G.asTuples.f G.asTuples.fd ["thing"] (spAsTuples n) := by
  intro n
  induction n with
  | zero =>
    refine fnA G.asTuples.F sc_asTuples (fun ds μ R h => ?_) fun cdv Ar outer s H E ds μ R hr h => ?_
    · obtain ⟨d, rfl, _⟩ := h
      rfl
    · obtain ⟨d, rfl, hd, q⟩ := h
      obtain ⟨sn, hty⟩ := D.fl_tyn hd
      have hns : d.isSeq = false := by cases d <;> first | rfl | cases hd
      refine aSs_one (aS_ret (aE_if (aT_val (aE_callB (id := "isinstance") (aA_ev (va_cons (ev_v 0) (va_cons (ev_tup (va_cons (ev_ty (T := "list") G.n_list rfl) (va_cons (ev_ty (T := "tuple") G.n_tuple rfl) va_nil))) va_nil)) (acall_isiD (ns := ["list", "tuple"]) hty (D.tyn_seq hty) ⟨_, rfl, ?_⟩)) G.n_isinstance rfl))))
      rw [hns, if_neg Bool.false_ne_true]
      refine aE_ev (ev_v 0) (endR ?_)
      cases d <;> exact q
  | succ n ih =>
    refine fnA G.asTuples.F sc_asTuples (fun ds μ R h => ?_) fun cdv Ar outer s H E ds μ R hr h => ?_
    · obtain ⟨d, rfl, _⟩ := h
      rfl
    · obtain ⟨d, rfl, hd, q⟩ := h
      obtain ⟨sn, hty⟩ := D.fl_tyn hd
      refine aSs_one (aS_ret (aE_if (aT_val (aE_callB (id := "isinstance") (aA_ev (va_cons (ev_v 0) (va_cons (ev_tup (va_cons (ev_ty (T := "list") G.n_list rfl) (va_cons (ev_ty (T := "tuple") G.n_tuple rfl) va_nil))) va_nil)) (acall_isiD (ns := ["list", "tuple"]) hty (D.tyn_seq hty) ⟨_, rfl, ?_⟩)) G.n_isinstance rfl))))
      have go : ∀ xs, xs.all (D.fl n) = true → xs.length < 1000 → R (.tup (xs.map (D.tt n))) μ →
          EVI (cxOf CX0 P w K mg base ["thing", "part"] "as_tuples" (defScope s_asTuples) G.asTuples.f cdv Ar outer s H E).nox (match (defBody s_asTuples)[0]? with | some (Stmt.Return (some (.IfExp _ (.Call _ [.ListComp _ [g] _ _] _ _) _ _)) _) => g.target | _ => .Constant .none 0 ⟨0, 0, 0, 0⟩) (match (defBody s_asTuples)[0]? with | some (Stmt.Return (some (.IfExp _ (.Call _ [.ListComp _ [g] _ _] _ _) _ _)) _) => g.iter | _ => .Constant .none 0 ⟨0, 0, 0, 0⟩) [some d, none] μ xs →
          aE (cxOf CX0 P w K mg base ["thing", "part"] "as_tuples" (defScope s_asTuples) G.asTuples.f cdv Ar outer s H E).nox (match (defBody s_asTuples)[0]? with | some (Stmt.Return (some (.IfExp _ a _ _)) _) => a | _ => .Constant .none 0 ⟨0, 0, 0, 0⟩) [some d, none] μ (ends μ R).rt := by
        intro xs h1 h2 h3 h4
        refine aE_callTy (T := "tuple") (aA_cons (aE_lc (c := false) (own := [("part", 1)]) (lcm (L := xs) (enc := id) (g := D.tt n) (env := fun x => [some d, some x]) (by rw [List.map_id]; exact h4) (small1000 (by omega)) ?_ ?_ ?_) (blkOk_by (by kernel_rfl)) sc_asTuples.nd)) G.n_tuple rfl
        · intro x _ s H C cl fp
          exact aGc_name (i := 1) ⟨rfl, rfl⟩ sc_asTuples.nd
        · intro x hx s H C cl fp
          exact aE_def G.asTuples ih hr (aA_ev (va_cons (ev_v 1) va_nil) ⟨x, rfl, List.all_eq_true.mp h1 x hx, rfl, rfl⟩)
        · exact aA_nil (acall_tuple .l (endR h3))
      cases d with
      | lst xs =>
        rw [show (D.lst xs).isSeq = true from rfl, if_pos rfl]
        have hd : (xs.all (D.fl n) && decide (xs.length < 1000)) = true := hd
        rw [Bool.and_eq_true] at hd
        exact go xs hd.1 (of_decide_eq_true hd.2) q (vi_list (ev_v 0))
      | tup xs =>
        rw [show (D.tup xs).isSeq = true from rfl, if_pos rfl]
        have hd : (xs.all (D.fl n) && decide (xs.length < 1000)) = true := hd
        rw [Bool.and_eq_true] at hd
        exact go xs hd.1 (of_decide_eq_true hd.2) q (vi_tup (ev_v 0))
      | non => rw [if_neg (by decide)]; exact aE_ev (ev_v 0) (endR q)
      | bl b => rw [if_neg (by simp [D.isSeq])]; exact aE_ev (ev_v 0) (endR q)
      | int i => rw [if_neg (by simp [D.isSeq])]; exact aE_ev (ev_v 0) (endR q)
      | str x => rw [if_neg (by simp [D.isSeq])]; exact aE_ev (ev_v 0) (endR q)
      | pr k => cases hd
      | scr xs => cases hd
      | ty m => cases hd
      | kt m => cases hd
theorem tab_fl {t : Tab} (h : t.evs.length < 1000) : t.enc.fl 3 = true := by
  unfold Tab.enc D.fl
  simp only [List.all_cons, List.all_nil, Bool.and_true, Bool.and_eq_true]
  refine ⟨⟨rfl, ?_⟩, by simp⟩
  unfold D.fl
  rw [Bool.and_eq_true, List.length_map]
  refine ⟨List.all_eq_true.mpr fun x hx => ?_, decide_eq_true h⟩
  obtain ⟨e, _, rfl⟩ := List.mem_map.mp hx
  cases e <;> rfl
theorem tab_tt {t : Tab} : t.enc.tt 3 = t.enc := by
  unfold Tab.enc D.tt
  simp only [List.map_cons, List.map_nil]
  congr 1
  unfold D.tt
  congr 1
  congr 1
  rw [List.map_map]
  congr 1
  exact List.map_congr_left fun e _ => by cases e <;> rfl
/-- x = as_tuples(e), a table -/
theorem aE_own {X : Cx} {e : Expr} {ρ : AEnv} {μ : Sto} {p pos : Pos} {t : Tab} (G : Facts X.K X.mg) (hr : Room 4 X.A) (h1 : EV X e ρ μ t.enc) (ok : t.Ok)
    (hg : Gl X "as_tuples" := by rfl) (s1 : starEach [e] X.env = (false, eval e X.env) :: starEach [] X.env := by rfl) (hpl : (backTo pos (starEach [] X.env)).any (·.1) = false := by rfl) :
    EV X (.Call (.Name "as_tuples" p) [e] [] pos) ρ μ t.enc :=
  aE_def G.asTuples (ok_asTuples G 3) hr (aA_ev (va_cons h1 va_nil s1) ⟨_, rfl, tab_fl (Nat.lt_of_le_of_lt ok.len (by decide)), tab_tt, rfl⟩) hg (by decide) s1 hpl
theorem ps_tt {l : Ps} : (D.lst (l.map pD)).tt 2 = .tup (l.map pD) := by
  unfold D.tt
  rw [List.map_map]
  congr 1
theorem ps_fl {l : Ps} (h : l.length < 1000) : (D.lst (l.map pD)).fl 2 = true := by
  unfold D.fl
  rw [Bool.and_eq_true, List.length_map]
  refine ⟨List.all_eq_true.mpr fun x hx => ?_, decide_eq_true h⟩
  obtain ⟨e, _, rfl⟩ := List.mem_map.mp hx
  rfl
end HF

/-! ## P12 -/
namespace HF
open PySem PySem.Spec PyProof.Rows L2
noncomputable def Tab.branch (t : Tab) (long : Bool) (i : Nat) : List Nat := (List.range t.n).filter fun l => decide (l = i) || t.be long [] i l
noncomputable def Tab.kept (t : Tab) (long : Bool) (i : Nat) : List Nat := (List.range t.folk).filter fun p => !((t.has long p).any fun l => decide (l ∈ t.branch long i))
variable {P : Program} {w : World} {K : PySem.W.Frag} {mg : Str → Option Value} {base : Heap}
def spBranch (C : Addr) : ASp := fun ds μ R => ∃ t kind k A B hs, ∃ i : Nat, ds = [.pr k, nD i] ∧ BAt C t kind k A B hs μ ∧ t.Ok ∧ Knows t (decide (kind = "long")) [] A B ∧ R (.lst ((t.branch (decide (kind = "long")) i).map nD)) μ
theorem ok_branch (G : Facts K mg) : AOk P w K mg base 2 G.branch.f G.branch.fd ["bonds", "number"] (spBranch G.CBonds) := by
  refine fnA G.branch.F sc_branch (fun ds μ R h => ?_) fun cdv Ar outer s H E ds μ R hr h => ?_
  · obtain ⟨t, kind, k, A, B, hs, i, rfl, _⟩ := h
    rfl
  · obtain ⟨t, kind, k, A, B, hs, i, rfl, b, ok, kn, q⟩ := h
    have nd := sc_branch.nd
    have hn := ok.n
    refine aSs_one (aS_ret (aE_lc (c := false) (own := [("look", 2)]) (lcp (L := List.range t.n) (enc := nD) (pr := fun l => decide (l = i) || t.be (decide (kind = "long")) [] i l) (g := nD) (env := fun l => [some (.pr k), some (nD i), some (nD l)]) ?_ ?_ ?_ ?_ ?_ (endR q)) (blkOk_by (by kernel_rfl)) nd))
    · rw [← rangeD_nD]
      exact vi_range G.n_range (aE_met0 G.bMany G.clsBonds (ok_bMany G) (hr.mono (by decide)) (aE_ev (ev_v 0) ⟨_, b.ins, rfl, ⟨t, kind, k, A, B, hs, rfl, b, rfl, rfl⟩⟩)) (Nat.lt_of_le_of_lt hn (by decide))
    · rw [List.length_range]; exact small1000 (by omega)
    · intro l _ s H C cl fp
      exact aGc_name (i := 2) ⟨rfl, rfl⟩ nd
    · intro l _ s H C cl fp
      exact tvs_one (tv_or (tv_eqN (ev_v 2) (ev_v 1)) fun _ => tv_val (aE_met G.bIsBelow G.clsBonds (ok_bIsBelow G) (hr.mono (by decide)) (aE_ev (ev_v 0) ⟨_, b.ins, rfl, aA_ev (va_cons (ev_v 1) (va_cons (ev_v 2) va_nil)) ⟨t, kind, k, A, B, hs, i, l, rfl, b, by rw [kn.be], rfl⟩⟩)))
    · intro l _ _ s H C cl fp
      exact ev_v 2
theorem run_hs_len {long : Bool} : ∀ {l : List Ev} {s : GS}, (l.foldl (GS.step long) s).hs.length = s.hs.length
  | [], _ => rfl
  | e :: l, s => (run_hs_len (l := l) (s := s.step long e)).trans (step_hs_len s e)
theorem run_folk {t : Tab} {long : Bool} : (t.run long).hs.length = t.folk := (run_hs_len (l := t.evs) (s := .init t.folk)).trans List.length_replicate
theorem step_hi {long : Bool} {s : GS} {e : Ev} (h : HI s.num s.hs) : HI (s.step long e).num (s.step long e).hs := by
  cases e with
  | look p => exact look_hi h
  | add p => exact h
  | meet p q => rw [show (s.step long (.meet p q)).num = s.num from step_num s _]; exact cmp_hi h
  | tell p q => rw [show (s.step long (.tell p q)).num = s.num from step_num s _]; exact cmp_hi h
theorem run_hi' {long : Bool} : ∀ {l : List Ev} {s : GS}, HI s.num s.hs → HI (l.foldl (GS.step long) s).num (l.foldl (GS.step long) s).hs
  | [], _, h => h
  | e :: l, s, h => run_hi' (l := l) (s := s.step long e) (step_hi h)
theorem run_hi {t : Tab} {long : Bool} : HI t.n (t.run long).hs := by
  have h0 : ∀ p, (List.replicate t.folk ([] : List Nat)).getD p [] = [] := fun p => by
    rw [List.getD_eq_getElem?_getD, List.getElem?_replicate]
    split <;> rfl
  have h := run_hi' (long := long) (l := t.evs) (s := .init t.folk) ⟨fun p => by
    show ((List.replicate t.folk ([] : List Nat)).getD p []).Nodup
    rw [h0]; exact List.nodup_nil, fun p x hx => by
    have hx : x ∈ (List.replicate t.folk ([] : List Nat)).getD p [] := hx
    rw [h0] at hx; cases hx⟩
  rw [run_num] at h
  refine h.mono ?_
  rw [Tab.n_eq]
  show 0 + _ ≤ _
  omega
theorem has_len {t : Tab} {long : Bool} (ok : t.Ok) (p : Nat) : (t.has long p).length ≤ 40 := Nat.le_trans (nodup_bd (run_hi.nd p) (run_hi.bd p)) ok.n
def spKept (C : Addr) : ASp := fun ds μ R => ∃ t kind, ∃ i : Nat, ds = [Tab.enc t, .str kind, nD i] ∧ t.Ok ∧ R (.lst ((t.kept (decide (kind = "long")) i).map nD)) μ
theorem ok_keptPeople (G : Facts K mg) : AOk P w K mg base 7 G.keptPeople.f G.keptPeople.fd ["timetable", "kind", "number"] (spKept G.CBonds) := by
  refine fnA G.keptPeople.F sc_keptPeople (fun ds μ R h => ?_) fun cdv Ar outer s H E ds μ R hr h => ?_
  · obtain ⟨t, kind, i, rfl, _⟩ := h
    rfl
  · obtain ⟨t, kind, i, rfl, ok, q⟩ := h
    have nd := sc_keptPeople.nd
    have hf := ok.folk
    refine aSs_cons (aS_set (i := 3) (aE_bonds G (hr.mono (by decide)) (ev_v 0) (ev_v 1) ok fun A B fl kn hcl => ?_) nd)
    have b : BAt G.CBonds t kind μ.length A B (t.run (decide (kind = "long"))).hs (μ ++ bc G.CBonds t kind μ.length A B (t.run (decide (kind = "long"))).hs fl) := .last0
    refine aSs_cons (aS_set (i := 4) (aE_def G.branch (ok_branch G) (hr.mono (by decide)) (aA_ev (va_cons (ev_v 3) (va_cons (ev_v 2) va_nil)) ⟨t, kind, _, A, B, _, i, rfl, b, ok, kn, ?_⟩)) nd)
    refine aSs_one (aS_ret (aE_lc (c := false) (own := [("person", 5)]) (lcp (L := List.range t.folk) (enc := nD) (pr := fun p => !((t.has (decide (kind = "long")) p).any fun l => decide (l ∈ t.branch (decide (kind = "long")) i))) (g := nD)
      (env := fun p => [some (Tab.enc t), some (.str kind), some (nD i), some (.pr μ.length), some (.lst ((t.branch (decide (kind = "long")) i).map nD)), some (nD p), none]) ?_ ?_ ?_ ?_ ?_ ?_) (blkOk_by (by kernel_rfl)) nd))
    · rw [← rangeD_nD]
      exact vi_range G.n_range (ev_t (i := 0) (ev_v 0)) (Nat.lt_of_le_of_lt hf (by decide))
    · rw [List.length_range]; exact small1000 (by omega)
    · intro p _ s H C cl fp
      exact aGc_name (i := 5) ⟨rfl, rfl⟩ nd
    · intro p hp s H C cl fp
      refine tvs_one (tv_not (tv_val (ev_any G.n_any (aE_lc (c := false) (own := [("look", 6)]) (lcm (L := t.has (decide (kind = "long")) p) (enc := nD) (g := fun l => .bl (decide (l ∈ t.branch (decide (kind = "long")) i))) (env := fun l => [some (Tab.enc t), some (.str kind), some (nD i), some (.pr μ.length), some (.lst ((t.branch (decide (kind = "long")) i).map nD)), some (nD p), some (nD l)]) ?_ ?_ ?_ ?_ ⟨rfl, rfl⟩) (blkOk_by (by kernel_rfl)) nd))))
      · exact vi_list (aE_met G.bHas G.clsBonds (ok_bHas G) (hr.mono (by decide)) (aE_ev (ev_v 3) ⟨_, b.ins, rfl, aA_ev (va_cons (ev_v 5) va_nil) ⟨t, kind, _, A, B, _, p, rfl, b, by rw [run_folk]; exact List.mem_range.mp hp, rfl, rfl⟩⟩))
      · exact small1000 (by have := has_len (long := decide (kind = "long")) ok p; omega)
      · intro l _ s H C cl fp
        exact aGc_name (i := 6) ⟨rfl, rfl⟩ nd
      · intro l _ s H C cl fp
        exact ev_inN (ev_v 6) (ev_v 4) isl
    · intro p _ _ s H C cl fp
      exact ev_v 5
    · exact ⟨_, _, Exit.drop (clo_lst (cloL_map fun _ _ => clo_int)), q⟩
def spKeptFrom : ASp := fun ds μ R => ∃ t kind, ∃ i : Nat, ds = [Tab.enc t, .str kind, nD i] ∧ t.Ok ∧ i < t.n ∧ R (.lst ((t.kept (decide (kind = "long")) i).map nD)) μ
theorem ok_keptFrom (G : Facts K mg) : AOk P w K mg base 8 G.keptFrom.f G.keptFrom.fd ["timetable", "kind", "i"] spKeptFrom := by
  refine fnA G.keptFrom.F sc_keptFrom (fun ds μ R h => ?_) fun cdv Ar outer s H E ds μ R hr h => ?_
  · obtain ⟨t, kind, i, rfl, _⟩ := h
    rfl
  · obtain ⟨t, kind, i, rfl, ok, hi, q⟩ := h
    have nd := sc_keptFrom.nd
    refine aSs_cons (aS_set (i := 3) (aE_ev (aE_own G (hr.mono (by decide)) (ev_v 0) ok) ?_) nd)
    refine aSs_cons (aS_expr (aE_def G.checkLook (ok_checkLook G) (hr.mono (by decide)) (aA_ev (va_cons (ev_v 3) (va_cons (ev_v 2) va_nil)) ⟨t, i, rfl, Nat.le_trans ok.len (by decide), hi, ?_⟩)))
    exact aSs_one (aS_ret (aE_def G.keptPeople (ok_keptPeople G) hr (aA_ev (va_cons (ev_v 3) (va_cons (ev_v 1) (va_cons (ev_v 2) va_nil))) ⟨t, kind, i, rfl, ok, endR q⟩)))
def spCheckPeople : ASp := fun ds μ R => ∃ (t : Tab) (ps : List Nat), ds = [t.enc, .lst (ps.map nD)] ∧ (∀ p ∈ ps, p < t.folk) ∧ R .non μ
theorem ok_checkPeople (G : Facts K mg) : AOk P w K mg base 1 G.checkPeople.f G.checkPeople.fd ["timetable", "people"] spCheckPeople := by
  refine fnA G.checkPeople.F sc_checkPeople (fun ds μ R h => ?_) fun cdv A outer s H E ds μ R hr h => ?_
  · obtain ⟨t, i, rfl, _⟩ := h
    rfl
  · obtain ⟨t, ps, rfl, hp, q⟩ := h
    have nd := sc_checkPeople.nd
    refine aSs_one (aS_forL (L := ps) (enc := nD) (wi_list (ev_v 1)) (fun L ρ μ' => ∃ o, ρ = [some t.enc, some (.lst (ps.map nD)), o] ∧ μ' = μ) ⟨none, rfl, rfl⟩ (fun L x rest ρ' μ' hL ⟨o, h1, h2⟩ => ?_) (fun ρ' μ' ⟨o, h1, h2⟩ => ?_))
    · subst h1 h2
      have hx := hp x (by rw [hL]; simp)
      refine aG_name (i := 2) ?_ nd
      refine aSs_one (aS_if (aT_ev (tv_not (tv_chain (k := true) (k' := true) ev_int (ev_v 2) ?_ (ev_t (i := 0) (ev_v 0)) ?_)) ?_))
      · exact aop_le ⟨by rw [decide_eq_true (Int.natCast_nonneg x)], rfl⟩
      · refine aop_lt ⟨?_, rfl⟩
        rw [decide_eq_true]
        exact Int.ofNat_lt.mpr hx
      · exact aSs_nil ⟨_, rfl, rfl⟩
    · subst h1 h2
      exact endN q
def spCheckWishes : ASp := fun ds μ R => ∃ (t : Tab) (ws : Ps), ds = [t.enc, .tup (ws.map pD)] ∧ t.evs.length ≤ 100 ∧ (∀ q ∈ ws, q.1 < t.n ∧ q.2 < t.folk) ∧ R .non μ
theorem ok_checkWishes (G : Facts K mg) : AOk P w K mg base 4 G.checkWishes.f G.checkWishes.fd ["timetable", "wishes"] spCheckWishes := by
  refine fnA G.checkWishes.F sc_checkWishes (fun ds μ R h => ?_) fun cdv A outer s H E ds μ R hr h => ?_
  · obtain ⟨t, i, rfl, _⟩ := h
    rfl
  · obtain ⟨t, ws, rfl, hev, hp, q⟩ := h
    have nd := sc_checkWishes.nd
    refine aSs_one (aS_forL (L := ws) (enc := pD) (wi_tup (ev_v 1)) (fun L ρ μ' => ∃ o o', ρ = [some t.enc, some (.tup (ws.map pD)), o, o'] ∧ μ' = μ) ⟨none, none, rfl, rfl⟩ (fun L x rest ρ' μ' hL ⟨o, o', h1, h2⟩ => ?_) (fun ρ' μ' ⟨o, o', h1, h2⟩ => ?_))
    · subst h1 h2
      have hx := hp x (by rw [hL]; simp)
      refine aG_pair 2 3 nd ?_
      refine aSs_cons (aS_expr (aE_def G.checkLook (ok_checkLook G) (hr.mono (by decide)) (aA_ev (va_cons (ev_v 0) (va_cons (ev_v 2) va_nil)) ⟨t, x.1, rfl, hev, hx.1, ?_⟩)))
      exact aSs_one (aS_expr (aE_def G.checkPeople (ok_checkPeople G) (hr.mono (by decide)) (aA_ev (va_cons (ev_v 0) (va_cons (ev_lst (va_cons (ev_v 3) va_nil)) va_nil)) ⟨t, [x.2], rfl, fun p hp => by rw [List.mem_singleton.mp hp]; exact hx.2, _, _, rfl, rfl⟩)))
    · subst h1 h2
      exact endN q
end HF

/-! ## P13 -/
namespace HF
open PySem PySem.Spec PyProof.Rows L2
/-! ### known_at -/
structure KS where
  num : Nat
  hs : List (List Nat)
def KS.both (s : KS) (p q : Nat) : List Nat := s.hs.getD p [] ++ s.hs.getD q []
def KS.cmp (long meet : Bool) (s : KS) (p q : Nat) : KS :=
  if long = true then { s with hs := (s.hs.set q (s.both p q)).set p (if meet = true then s.both p q else (s.hs.set q (s.both p q)).getD p []) } else s
def KS.step (long : Bool) (s : KS) : Ev → KS
  | .look p => { num := s.num + 1, hs := s.hs.set p (s.hs.getD p [] ++ [s.num]) }
  | .add _ => s
  | .meet p q => s.cmp long true p q
  | .tell p q => s.cmp long false p q
def kgo (long : Bool) (kn : List Nat) (person : Nat) : List Ev → Nat → KS → Option Nat
  | [], _, _ => none
  | e :: r, pl, s => if ((s.step long e).hs.getD person []).any (fun l => decide (l ∈ kn)) = true then some pl else kgo long kn person r (pl + 1) (s.step long e)
noncomputable def Tab.knownAt (t : Tab) (long : Bool) (i person : Nat) : Option Nat := kgo long (t.branch long i) person t.evs 0 ⟨0, List.replicate t.folk []⟩
def optD : Option Nat → D
  | none => .non
  | some p => nD p
/-- lengths stay below 2 ^ m -/
def Lb (m : Nat) (hs : List (List Nat)) : Prop := ∀ p, (hs.getD p []).length ≤ 2 ^ m
theorem Lb.set {m : Nat} {hs : List (List Nat)} (h : Lb m hs) {p : Nat} {l : List Nat} (hl : l.length ≤ 2 ^ m) : Lb m (hs.set p l) := fun q => by
  rw [getD_set]
  split
  · exact hl
  · exact h q
theorem Lb.mono {m : Nat} {hs : List (List Nat)} (h : Lb m hs) : Lb (m + 1) hs := fun p => Nat.le_trans (h p) (Nat.pow_le_pow_right (by decide) (Nat.le_succ m))
theorem Lb.both {m : Nat} {s : KS} (h : Lb m s.hs) (p q : Nat) : (s.both p q).length ≤ 2 ^ (m + 1) := by
  unfold KS.both
  rw [List.length_append, Nat.pow_succ]
  have := h p
  have := h q
  omega
theorem Lb.one {m : Nat} {s : KS} (h : Lb m s.hs) (p n : Nat) : (s.hs.getD p [] ++ [n]).length ≤ 2 ^ (m + 1) := by
  rw [List.length_append, Nat.pow_succ]
  have := h p
  have : 0 < 2 ^ m := Nat.pow_pos (by decide)
  show _ + 1 ≤ _
  omega
theorem kcmp_len {long meet : Bool} {s : KS} {p q : Nat} : (s.cmp long meet p q).hs.length = s.hs.length := by
  unfold KS.cmp
  split
  · simp
  · rfl
theorem kstep_len {long : Bool} {s : KS} {e : Ev} : (s.step long e).hs.length = s.hs.length := by
  cases e with
  | look p => exact List.length_set ..
  | add p => rfl
  | meet p q => exact kcmp_len
  | tell p q => exact kcmp_len
theorem kcmp_lb {m : Nat} {long meet : Bool} {s : KS} {p q : Nat} (h : Lb m s.hs) : Lb (m + 1) (s.cmp long meet p q).hs := by
  unfold KS.cmp
  split
  · have h1 : Lb (m + 1) (s.hs.set q (s.both p q)) := h.mono.set (h.both p q)
    refine h1.set ?_
    split
    · exact h.both p q
    · exact h1 p
  · exact h.mono
theorem kstep_lb {m : Nat} {long : Bool} {s : KS} {e : Ev} (h : Lb m s.hs) : Lb (m + 1) (s.step long e).hs := by
  cases e with
  | look p => exact h.mono.set (h.one p _)
  | add p => exact h.mono
  | meet p q => exact kcmp_lb h
  | tell p q => exact kcmp_lb h
variable {P : Program} {w : World} {K : PySem.W.Frag} {mg : Str → Option Value} {base : Heap}
def spKnownAt : ASp := fun ds μ R => ∃ t kind, ∃ i p : Nat, ds = [Tab.enc t, .str kind, nD i, nD p] ∧ t.Ok ∧ t.evs.length ≤ 20 ∧ i < t.n ∧ p < t.folk ∧ R (optD (t.knownAt (decide (kind = "long")) i p)) μ
theorem ok_knownAt (G : Facts K mg) : AOk P w K mg base 7 G.knownAt.f G.knownAt.fd ["timetable", "kind", "i", "person"] spKnownAt := by
  refine fnA G.knownAt.F sc_knownAt (fun ds μ R h => ?_) fun cdv Ar outer s H E ds μ R hr h => ?_
  · obtain ⟨t, kind, i, p, rfl, _⟩ := h
    rfl
  · obtain ⟨t, kind, i, p, rfl, ok, hev, hi, hp, fin⟩ := h
    have nd := sc_knownAt.nd
    have hu := hu_of hr
    have hf := ok.folk
    have hev1 : t.evs.length ≤ 100 := by omega
    obtain ⟨tk1, hgL⟩ := G.g_LOOK
    obtain ⟨tk2, hgM⟩ := G.g_MEET
    obtain ⟨tk3, hgT⟩ := G.g_TELL
    refine aSs_cons (aS_asg (aE_ev (aE_own G (hr.mono (by decide)) (ev_v 0) ok) (aG_pair 4 5 nd ?_)))
    refine aSs_cons (aS_expr (aE_def G.checkLook (ok_checkLook G) (hr.mono (by decide)) (aA_ev (va_cons (ev_tup (va_cons (ev_v 4) (va_cons (ev_v 5) va_nil))) (va_cons (ev_v 2) va_nil)) ⟨t, i, rfl, hev1, hi, ?_⟩)))
    refine aSs_cons (aS_expr (aE_def G.checkPeople (ok_checkPeople G) (hr.mono (by decide)) (aA_ev (va_cons (ev_tup (va_cons (ev_v 4) (va_cons (ev_v 5) va_nil))) (va_cons (ev_lst (va_cons (ev_v 3) va_nil)) va_nil)) ⟨t, [p], rfl, fun x hx => by rw [List.mem_singleton.mp hx]; exact hp, ?_⟩)))
    refine aSs_cons (aS_set (i := 6) (aE_def G.branch (ok_branch G) (hr.mono (by decide)) (aA_cons (aE_bonds (t := t) (kind := kind) G (hr.mono (by decide)) (ev_tup (va_cons (ev_v 4) (va_cons (ev_v 5) va_nil))) (ev_v 1) ok fun A B fl kn hcl => aA_ev (va_cons (ev_v 2) va_nil) ⟨t, kind, _, A, B, _, i, rfl, .last0, ok, kn, ?_⟩))) nd)
    generalize hkn : t.branch (decide (kind = "long")) i = kn1
    have hML : ∀ c : Cell, ((μ ++ bc G.CBonds t kind μ.length A B (t.run (decide (kind = "long"))).hs fl) ++ [c])[μ.length + 5]? = some c := fun c => by
      have : (μ ++ bc G.CBonds t kind μ.length A B (t.run (decide (kind = "long"))).hs fl).length = μ.length + 5 := by rw [List.length_append]; rfl
      rw [← this]; exact last_get
    have hMS : ∀ c c' : Cell, ((μ ++ bc G.CBonds t kind μ.length A B (t.run (decide (kind = "long"))).hs fl) ++ [c]).set (μ.length + 5) c' = (μ ++ bc G.CBonds t kind μ.length A B (t.run (decide (kind = "long"))).hs fl) ++ [c'] := fun c c' => by
      have : (μ ++ bc G.CBonds t kind μ.length A B (t.run (decide (kind = "long"))).hs fl).length = μ.length + 5 := by rw [List.length_append]; rfl
      rw [← this]; exact last_set
    have hlen5 : (μ ++ bc G.CBonds t kind μ.length A B (t.run (decide (kind = "long"))).hs fl).length = μ.length + 5 := by rw [List.length_append]; rfl
    have hx2 : ∃ N : Sto, N = bc G.CBonds t kind μ.length A B (t.run (decide (kind = "long"))).hs fl := ⟨_, rfl⟩
    obtain ⟨N, hN⟩ := hx2
    rw [← hN] at hML hMS hlen5 ⊢
    refine aSs_cons (aS_setDc (i := 7) (own := [("other", 12)]) (dcp (L := List.range t.folk) (enc := nD) (key := fun p : Nat => .inl (p : Int)) (g := fun _ => .lst []) (env := fun x => [some (Tab.enc t), some (.str kind), some (nD i), some (nD p), some (nD t.folk), some (.tup (t.evs.map Ev.enc)), some (.lst (kn1.map nD)), none, none, none, none, none, some (nD x), none]) ?_ ?_ ?_ ?_ ?_ ?_) (blkOk_by (by kernel_rfl)) nd (sw_trueD rfl rfl rfl (by kernel_rfl)))
    · rw [← rangeD_nD]
      exact vi_range G.n_range (ev_v 4) (Nat.lt_of_le_of_lt hf (by decide))
    · rw [List.length_range]; exact small1000 (by omega)
    · intro p _ s H C cl fp
      exact aGc_name (i := 12) ⟨rfl, rfl⟩ nd
    · intro p _ s H C cl fp
      exact ev_v 12
    · intro p _ s H C cl fp
      exact ev_lst va_nil
    rw [encH_new, hlen5]
    refine aSs_cons (aS_set (i := 8) (aE_ev ev_int ?_) nd)
    refine aSs_cons (aS_forL (L := t.evs.zipIdx) (enc := fun e => .tup [.int (e.2 : Nat), e.1.enc]) (by
        rw [← enumD_map]
        exact wi_enumT G.n_enumerate (ev_v 5))
      (fun L ρ μ' => ∃ o9 o10 o11, let s' := (L.map (·.1)).foldl (KS.step (decide (kind = "long"))) ⟨0, List.replicate t.folk []⟩; ρ = [some (Tab.enc t), some (.str kind), some (nD i), some (nD p), some (nD t.folk), some (.tup (t.evs.map Ev.enc)), some (.lst (kn1.map nD)), some (.pr (μ.length + 5)), some (nD s'.num), o9, o10, o11, none, none] ∧ μ' = μ ++ N ++ [.dK (encH s'.hs)] ∧ Lb L.length s'.hs ∧ s'.hs.length = t.folk ∧
        kgo (decide (kind = "long")) kn1 p (t.evs.drop L.length) L.length s' = t.knownAt (decide (kind = "long")) i p)
      ⟨none, none, none, rfl, rfl, fun q => ?_, List.length_replicate, by unfold Tab.knownAt; rw [hkn]; rfl⟩ (fun L x rest ρ' μ' hL ⟨o9, o10, o11, h1, h2, lb, hsl, hk⟩ => ?_) (fun ρ' μ' ⟨o9, o10, o11, h1, h2, lb, hsl, hk⟩ => ?_))
    · show ((List.replicate t.folk ([] : List Nat)).getD q []).length ≤ _
      rw [List.getD_eq_getElem?_getD, List.getElem?_replicate]
      split <;> exact Nat.zero_le _
    · have hL2 : L.length + (rest.length + 1) = t.evs.length := by
        have := congrArg List.length hL
        rw [List.length_zipIdx, List.length_append, List.length_cons] at this
        omega
      have hx : x.2 = L.length ∧ t.evs.drop L.length = x.1 :: t.evs.drop (L.length + 1) := by
        have e1 : t.evs.zipIdx[L.length]? = some x := by rw [hL, List.getElem?_append_right (Nat.le_refl _)]; simp
        rw [List.getElem?_zipIdx] at e1
        cases e2 : t.evs[L.length]? with
        | none => rw [e2] at e1; cases e1
        | some y =>
          rw [e2] at e1
          cases e1
          obtain ⟨hlt, e3⟩ := List.getElem?_eq_some_iff.mp e2
          exact ⟨Nat.zero_add _, by rw [← e3, List.getElem_cons_drop]⟩
      have hxok : x.1.Ok t.folk := ok.evs _ (by
        have : x ∈ t.evs.zipIdx := by rw [hL]; simp
        exact (List.mem_zipIdx' this).2 ▸ List.getElem_mem _)
      rw [hx.2] at hk
      rw [List.map_append, List.foldl_append, List.length_append]
      generalize hz : (L.map (·.1)).foldl (KS.step (decide (kind = "long"))) ⟨0, List.replicate t.folk []⟩ = z at *
      subst h1 h2
      have pw : 2 ^ (L.length + 1) ≤ 2 ^ 20 := Nat.pow_le_pow_right (by decide) (by omega)
      have pw0 : 2 ^ L.length ≤ 2 ^ 20 := Nat.pow_le_pow_right (by decide) (by omega)
      have e20 : 2 ^ 20 = 1048576 := by decide
      have lb' := kstep_lb (long := decide (kind = "long")) (e := x.1) lb
      have hsl2 : (z.step (decide (kind = "long")) x.1).hs.length = t.folk := kstep_len.trans hsl
      unfold kgo at hk
      rw [List.map_cons, List.map_nil, List.foldl_cons, List.foldl_nil]
      -- the last part of a turn
      have tail : ∀ (b11 : Option D) (E2 : AEnds) (num' : Nat) (hs' : List (List Nat)), num' = (z.step (decide (kind = "long")) x.1).num → hs' = (z.step (decide (kind = "long")) x.1).hs → E2.rt = (ends μ R).rt → (∀ o9 o10 o11, kgo (decide (kind = "long")) kn1 p (t.evs.drop (L.length + 1)) (L.length + 1) (z.step (decide (kind = "long")) x.1) = t.knownAt (decide (kind = "long")) i p → E2.nx [some (Tab.enc t), some (.str kind), some (nD i), some (nD p), some (nD t.folk), some (.tup (t.evs.map Ev.enc)), some (.lst (kn1.map nD)), some (.pr (μ.length + 5)), some (nD (z.step (decide (kind = "long")) x.1).num), o9, o10, o11, none, none] (μ ++ N ++ [.dK (encH (z.step (decide (kind = "long")) x.1).hs)])) →
          aSs (cxOf CX0 P w K mg base ["timetable", "kind", "i", "person", "people", "events", "known", "has", "number", "place", "event", "both", "other", "look"] "known_at" (defScope s_knownAt) G.knownAt.f cdv Ar outer s H E).nox (match (defBody s_knownAt)[6]? with | some (Stmt.For _ _ [_, b] _ _) => [b] | _ => [])
            [some (Tab.enc t), some (.str kind), some (nD i), some (nD p), some (nD t.folk), some (.tup (t.evs.map Ev.enc)), some (.lst (kn1.map nD)), some (.pr (μ.length + 5)), some (nD num'), some (nD x.2), some x.1.enc, b11, none, none] (μ ++ N ++ [.dK (encH hs')]) E2 := by
        intro b11 E2 num' hs' en eh hrt hnx
        subst en eh
        generalize z.step (decide (kind = "long")) x.1 = z' at *
        refine aSs_one (aS_if (aT_ev (tv_val (ev_any (L := z'.hs.getD p []) (q := fun l => decide (l ∈ kn1)) G.n_any (aE_lc (c := false) (own := [("look", 13)]) (lcm (L := z'.hs.getD p []) (enc := nD) (g := fun l => .bl (decide (l ∈ kn1))) (env := fun l => [some (Tab.enc t), some (.str kind), some (nD i), some (nD p), some (nD t.folk), some (.tup (t.evs.map Ev.enc)), some (.lst (kn1.map nD)), some (.pr (μ.length + 5)), some (nD z'.num), some (nD x.2), some x.1.enc, b11, none, some (nD l)]) ?_ ?_ ?_ ?_ ⟨rfl, rfl⟩) (blkOk_by (by kernel_rfl)) nd))) ?_))
        · exact vi_list (ev_ixH hu (ev_v 7) (ev_v 3) (hML _) (by rw [hsl2]; exact hp))
        · have := lb' p
          rw [sizeLine_eq]
          omega
        · intro l _ s H C cl fp
          exact aGc_name (i := 13) ⟨rfl, rfl⟩ nd
        · intro l _ s H C cl fp
          exact ev_inN (ev_v 13) (ev_v 6) isl
        · by_cases hb : (z'.hs.getD p []).any (fun l => decide (l ∈ kn1)) = true
          · rw [if_pos hb]
            rw [if_pos hb] at hk
            refine aSs_one (aS_ret (aE_ev (ev_v 9) ?_))
            rw [hrt, hx.1, List.append_assoc]
            rw [← hk] at fin
            exact ⟨_, _, Exit.drop clo_int, fin⟩
          · rw [if_neg hb]
            rw [if_neg hb] at hk
            exact aSs_nil (hnx _ _ _ hk)
      refine aG_pair 9 10 nd ?_
      obtain ⟨e, pl⟩ := x
      have hsz : (encH z.hs).length < sizeLine := by rw [encH_len, hsl, sizeLine_eq]; omega
      have fin2 : ∀ E2 : AEnds, E2.rt = (ends μ R).rt → (∀ ρ2 μ2, (∃ o9 o10 o11, ρ2 = [some (Tab.enc t), some (.str kind), some (nD i), some (nD p), some (nD t.folk), some (.tup (t.evs.map Ev.enc)), some (.lst (kn1.map nD)), some (.pr (μ.length + 5)), some (nD (z.step (decide (kind = "long")) e).num), o9, o10, o11, none, none] ∧ μ2 = μ ++ N ++ [.dK (encH (z.step (decide (kind = "long")) e).hs)] ∧ Lb (L.length + 1) (z.step (decide (kind = "long")) e).hs ∧ (z.step (decide (kind = "long")) e).hs.length = t.folk ∧ kgo (decide (kind = "long")) kn1 p (t.evs.drop (L.length + 1)) (L.length + 1) (z.step (decide (kind = "long")) e) = t.knownAt (decide (kind = "long")) i p) → E2.nx ρ2 μ2) →
          ∀ o9 o10 o11, kgo (decide (kind = "long")) kn1 p (t.evs.drop (L.length + 1)) (L.length + 1) (z.step (decide (kind = "long")) e) = t.knownAt (decide (kind = "long")) i p → E2.nx [some (Tab.enc t), some (.str kind), some (nD i), some (nD p), some (nD t.folk), some (.tup (t.evs.map Ev.enc)), some (.lst (kn1.map nD)), some (.pr (μ.length + 5)), some (nD (z.step (decide (kind = "long")) e).num), o9, o10, o11, none, none] (μ ++ N ++ [.dK (encH (z.step (decide (kind = "long")) e).hs)]) := fun E2 _ hE o9 o10 o11 hh => hE _ _ ⟨o9, o10, o11, rfl, rfl, lb', hsl2, hh⟩
      cases e with
      | look q =>
        have hq : q < z.hs.length := by rw [hsl]; exact hxok
        refine aSs_cons (aS_if (aT_ev (tv_cast (k' := true) (tv_eqS (ev_t (i := 0) (xs := [.str "look", nD q]) (ev_v 10)) (ev_g hgL)) (by decide)) ?_))
        rw [if_pos rfl]
        refine aSs_cons (aS_dput hu (aE_ev (ev_cat (ev_ixH hu (ev_v 7) (ev_t (i := 1) (xs := [.str "look", nD q]) (ev_v 10)) (hML _) hq) (ev_lst (va_cons (ev_v 8) va_nil)) .l .l ?_) ⟨ev_v 7, ev_t (i := 1) (xs := [.str "look", nD q]) (ev_v 10), _, _, hML _, rfl, hsz, ?_⟩))
        · have := lb q
          rw [List.length_map, sizeLine_eq]
          show _ + 1 ≤ _
          omega
        have e1 : (z.hs.getD q []).map nD ++ [nD z.num] = (z.hs.getD q [] ++ [z.num]).map nD := by rw [List.map_append]; rfl
        rw [e1, putD_encH hq, hMS]
        refine aSs_one (aS_aug (i := 8) (k := z.num) rfl (aE_ev ev_int ⟨1, rfl, ?_⟩) nd)
        exact tail o11 _ _ _ rfl rfl rfl (fin2 _ rfl fun _ _ hh => hh)
      | add q =>
        refine aSs_cons (aS_if (aT_ev (tv_cast (k' := false) (tv_eqS (ev_t (i := 0) (xs := [.str "add", nD q]) (ev_v 10)) (ev_g hgL)) (by decide)) ?_))
        rw [if_neg Bool.false_ne_true]
        refine aSs_one (aS_if (aT_ev (tv_and (k := false) (k' := false) (tv_cast (tv_cmp (ev_t (i := 0) (xs := [.str "add", nD q]) (ev_v 10)) (ev_tup (va_cons (ev_g hgM) (va_cons (ev_g hgT) va_nil))) (aop_inS (ns := ["meet", "tell"]) .t ⟨rfl, rfl⟩)) (by decide)) fun h => by cases h) ?_))
        rw [if_neg (by decide)]
        exact aSs_nil (tail o11 _ _ _ rfl rfl rfl (fin2 _ rfl fun _ _ hh => hh))
      | meet q r =>
        have hq : q < z.hs.length := by rw [hsl]; exact hxok.1
        have hr2 : r < z.hs.length := by rw [hsl]; exact hxok.2
        refine aSs_cons (aS_if (aT_ev (tv_cast (k' := false) (tv_eqS (ev_t (i := 0) (xs := [.str "meet", nD q, nD r]) (ev_v 10)) (ev_g hgL)) (by decide)) ?_))
        rw [if_neg Bool.false_ne_true]
        refine aSs_one (aS_if (aT_ev (tv_and (k := true) (k' := decide (kind = "long")) (tv_cast (tv_cmp (ev_t (i := 0) (xs := [.str "meet", nD q, nD r]) (ev_v 10)) (ev_tup (va_cons (ev_g hgM) (va_cons (ev_g hgT) va_nil))) (aop_inS (ns := ["meet", "tell"]) .t ⟨rfl, rfl⟩)) (by decide)) fun _ => tv_eqS (ev_v 1) ev_str) ?_))
        by_cases hl : kind = "long"
        · have hst : (z.step (decide (kind = "long")) (.meet q r)) = { z with hs := (z.hs.set r (z.both q r)).set q (if true = true then z.both q r else (z.hs.set r (z.both q r)).getD q []) } := by
            show z.cmp (decide (kind = "long")) true q r = _
            unfold KS.cmp
            rw [decide_eq_true hl, if_pos rfl]
          have lq := lb q
          have lr := lb r
          rw [if_pos (by rw [decide_eq_true hl]; rfl)]
          refine aSs_cons (aS_set (i := 11) (aE_ev (ev_cast (y := .lst ((z.both q r).map nD)) (ev_cat (ev_ixH hu (ev_v 7) (ev_t (i := 1) (xs := [.str "meet", nD q, nD r]) (ev_v 10)) (hML _) hq) (ev_ixH hu (ev_v 7) (ev_t (i := 2) (xs := [.str "meet", nD q, nD r]) (ev_v 10)) (hML _) hr2) .l .l ?_) (by unfold KS.both; rw [List.map_append])) ?_) nd)
          · rw [List.length_map, List.length_map, sizeLine_eq]
            omega
          refine aSs_cons (aS_dput hu (aE_ev (ev_v 11) ⟨ev_v 7, ev_t (i := 2) (xs := [.str "meet", nD q, nD r]) (ev_v 10), _, _, hML _, rfl, hsz, ?_⟩))
          rw [putD_encH hr2, hMS]
          have hq2 : q < (z.hs.set r (z.both q r)).length := by rw [List.length_set]; exact hq
          refine aSs_one (aS_dput (j := μ.length + 5) (y := nD q) hu (aE_if (aT_ev (tv_cast (k' := true) (tv_eqS (ev_t (i := 0) (xs := [.str "meet", nD q, nD r]) (ev_v 10)) (ev_g hgM)) (by decide)) ?_)))
          rw [if_pos rfl]
          refine aE_ev (ev_v 11) ⟨ev_v 7, ev_t (i := 1) (xs := [.str "meet", nD q, nD r]) (ev_v 10), _, _, hML _, rfl, by rw [encH_len, List.length_set, hsl, sizeLine_eq]; omega, ?_⟩
          rw [putD_encH hq2]
          show aSs _ _ _ ((μ ++ N ++ [Cell.dK (encH (z.hs.set r (z.both q r)))]).set (μ.length + 5) _) _
          rw [hMS]
          exact tail (some (.lst ((z.both q r).map nD))) _ _ _ (congrArg KS.num hst).symm (congrArg KS.hs hst).symm rfl (fin2 _ rfl fun _ _ hh => hh)
        · have hst : (z.step (decide (kind = "long")) (.meet q r)) = z := by
            show z.cmp (decide (kind = "long")) true q r = _
            unfold KS.cmp
            rw [decide_eq_false hl, if_neg Bool.false_ne_true]
          rw [if_neg (by rw [decide_eq_false hl]; decide)]
          exact aSs_nil (tail o11 _ _ _ (congrArg KS.num hst).symm (congrArg KS.hs hst).symm rfl (fin2 _ rfl fun _ _ hh => hh))
      | tell q r =>
        have hq : q < z.hs.length := by rw [hsl]; exact hxok.1
        have hr2 : r < z.hs.length := by rw [hsl]; exact hxok.2
        refine aSs_cons (aS_if (aT_ev (tv_cast (k' := false) (tv_eqS (ev_t (i := 0) (xs := [.str "tell", nD q, nD r]) (ev_v 10)) (ev_g hgL)) (by decide)) ?_))
        rw [if_neg Bool.false_ne_true]
        refine aSs_one (aS_if (aT_ev (tv_and (k := true) (k' := decide (kind = "long")) (tv_cast (tv_cmp (ev_t (i := 0) (xs := [.str "tell", nD q, nD r]) (ev_v 10)) (ev_tup (va_cons (ev_g hgM) (va_cons (ev_g hgT) va_nil))) (aop_inS (ns := ["meet", "tell"]) .t ⟨rfl, rfl⟩)) (by decide)) fun _ => tv_eqS (ev_v 1) ev_str) ?_))
        by_cases hl : kind = "long"
        · have hst : (z.step (decide (kind = "long")) (.tell q r)) = { z with hs := (z.hs.set r (z.both q r)).set q (if false = true then z.both q r else (z.hs.set r (z.both q r)).getD q []) } := by
            show z.cmp (decide (kind = "long")) false q r = _
            unfold KS.cmp
            rw [decide_eq_true hl, if_pos rfl]
          have lq := lb q
          have lr := lb r
          rw [if_pos (by rw [decide_eq_true hl]; rfl)]
          refine aSs_cons (aS_set (i := 11) (aE_ev (ev_cast (y := .lst ((z.both q r).map nD)) (ev_cat (ev_ixH hu (ev_v 7) (ev_t (i := 1) (xs := [.str "tell", nD q, nD r]) (ev_v 10)) (hML _) hq) (ev_ixH hu (ev_v 7) (ev_t (i := 2) (xs := [.str "tell", nD q, nD r]) (ev_v 10)) (hML _) hr2) .l .l ?_) (by unfold KS.both; rw [List.map_append])) ?_) nd)
          · rw [List.length_map, List.length_map, sizeLine_eq]
            omega
          refine aSs_cons (aS_dput hu (aE_ev (ev_v 11) ⟨ev_v 7, ev_t (i := 2) (xs := [.str "tell", nD q, nD r]) (ev_v 10), _, _, hML _, rfl, hsz, ?_⟩))
          rw [putD_encH hr2, hMS]
          have hq2 : q < (z.hs.set r (z.both q r)).length := by rw [List.length_set]; exact hq
          refine aSs_one (aS_dput (j := μ.length + 5) (y := nD q) hu (aE_if (aT_ev (tv_cast (k' := false) (tv_eqS (ev_t (i := 0) (xs := [.str "tell", nD q, nD r]) (ev_v 10)) (ev_g hgM)) (by decide)) ?_)))
          rw [if_neg Bool.false_ne_true]
          refine aE_ev (ev_ixH hu (ev_v 7) (ev_t (i := 1) (xs := [.str "tell", nD q, nD r]) (ev_v 10)) (hML _) hq2) ⟨ev_v 7, ev_t (i := 1) (xs := [.str "tell", nD q, nD r]) (ev_v 10), _, _, hML _, rfl, by rw [encH_len, List.length_set, hsl, sizeLine_eq]; omega, ?_⟩
          rw [putD_encH hq2]
          show aSs _ _ _ ((μ ++ N ++ [Cell.dK (encH (z.hs.set r (z.both q r)))]).set (μ.length + 5) _) _
          rw [hMS]
          exact tail (some (.lst ((z.both q r).map nD))) _ _ _ (congrArg KS.num hst).symm (congrArg KS.hs hst).symm rfl (fin2 _ rfl fun _ _ hh => hh)
        · have hst : (z.step (decide (kind = "long")) (.tell q r)) = z := by
            show z.cmp (decide (kind = "long")) false q r = _
            unfold KS.cmp
            rw [decide_eq_false hl, if_neg Bool.false_ne_true]
          rw [if_neg (by rw [decide_eq_false hl]; decide)]
          exact aSs_nil (tail o11 _ _ _ (congrArg KS.num hst).symm (congrArg KS.hs hst).symm rfl (fin2 _ rfl fun _ _ hh => hh))
    · subst h1 h2
      rw [List.length_zipIdx, List.drop_length] at hk
      refine aSs_one (aS_ret (aE_ev ev_non ?_))
      rw [← hk] at fin
      rw [List.append_assoc]
      exact ⟨_, _, Exit.drop clo_non, fin⟩
end HF

/-! ## P14 -/
namespace HF
open PySem PySem.Spec PyProof.Rows L2 NdefX
abbrev s_pInit' : Stmt := inClass (topS 23) 0
theorem sc_pStops' : Scp ["self", "look", "other"] ["self", "look", "other"] s_pStops := ⟨rfl, rfl, rfl, by decide +kernel, rfl, by decide +kernel, by decide +kernel⟩
theorem sc_kStops : ScpS ["self", "look", "other", "__class__"] ["self", "look", "other"] s_kStops := NdefX.nscope_by (by decide +kernel)
theorem sc_kInit : ScpC ["self", "timetable", "kind", "wishes", "is_chain", "numbers", "pairs", "bonds", "look", "person", "one", "other"] ["self", "timetable", "kind", "wishes", "is_chain"] "numbers" s_kInit :=
  ⟨rfl, rfl, rfl, by decide +kernel, rfl, by decide +kernel, fun _ _ => rfl, fun _ => rfl, by decide +kernel, by decide +kernel, by decide +kernel⟩
/-- the defs about super() -/
structure SupF (P : Program) (K : PySem.W.Frag) (mg : Str → Option Value) (G : Facts K mg) where
  top : (P.main.scope.names.lookup ("super" : Str)).isSome = false
  n_super : mg "super" = none
  iF : Addr
  iFd : FuncData
  iCc : Addr
  iCda : Addr
  iS : FunS P K "__init__" "Keeping.__init__" s_kInit iF iFd iCc iCda G.CKeeping
  iM : Mk K G.CKeeping iF
  iB0 : ∃ dvs dv, DefV K dvs dv [.bl false] ∧ Binds K iFd ["self", "timetable", "kind", "wishes", "is_chain"] dv
  iB1 : Binds K iFd ["self", "timetable", "kind", "wishes", "is_chain"] []
  sF : Addr
  sFd : FuncData
  sCc : Addr
  sCda : Addr
  sS : FunS P K "stops" "Keeping.stops" s_kStops sF sFd sCc sCda G.CKeeping
  sM : Meth K G.CKeeping "stops" sF
  sB : Binds K sFd ["self", "look", "other"] []
  pF : Addr
  pFd : FuncData
  pDv : List V
  pFun : FunD K "__init__" "Peeling.__init__" (defArgs s_pInit) (defBody s_pInit) (defScope s_pInit) pDv [] pF pFd
  pSup : SupM K G.CKeeping G.CKeeping "__init__" pF
  pB : Binds K pFd ["self", "timetable", "kind", "pairs", "alike"] []
  qF : Addr
  qFd : FuncData
  qFun : Fun K "stops" "Peeling.stops" s_pStops qF qFd
  qSup : SupM K G.CKeeping G.CKeeping "stops" qF
  qB : Binds K qFd ["self", "look", "other"] []
/-! ### what the peeling knows -/
def Tab.last (t : Tab) (l : Nat) : Int := maxI ((t.adds.filter fun a => decide (a.1 < (t.lk l).1) && decide (a.2 = (t.lk l).2)).map fun a => ((a.1 : Nat) : Int))
def Tab.bar (t : Tab) (long : Bool) (ws : Ps) (l o : Nat) : Bool := (ws.any fun q => decide (q.1 = l)) && (decide (o < l) || ws.any fun q => decide (q.1 = l) && decide (o ∈ t.has long q.2))
noncomputable def Tab.pstops (t : Tab) (long : Bool) (M : Ps) (l o : Nat) : Bool := t.be long M o l || decide (((t.lk o).1 : Int) < t.last l)
noncomputable def Tab.stops (t : Tab) (long : Bool) (M ws : Ps) (l o : Nat) : Bool := t.bar long ws l o || t.pstops long M l o
def kFs (t : Tab) (k : Nat) : List (Str × D) := [("own_looks", pairsD t.looks), ("own_adds", pairsD t.adds), ("own_bonds", .pr (k + 1)), ("own_unlike", .pr (k + 6)), ("own_barred", .pr (k + 12))]
abbrev Bar := List (Nat × List Nat)
def encB (bs : Bar) : List (Key × D) := bs.map fun p => (.inl (p.1 : Int), .lst (p.2.map nD))
structure BarOk (t : Tab) (long : Bool) (ws : Ps) (bs : Bar) : Prop where
  nd : (bs.map (·.1)).Nodup
  keys : ∀ l, l ∈ bs.map (·.1) ↔ ∃ q ∈ ws, q.1 = l
  val : ∀ p ∈ bs, ∀ o, o ∈ p.2 ↔ t.bar long ws p.1 o = true
structure KAt (C CB : Addr) (t : Tab) (kind : Str) (M ws : Ps) (k : Nat) (μ : Sto) : Prop where
  own : IsI μ (.pr k) C (kFs t k)
  bonds : ∃ A B, BAt CB t kind (k + 1) A B (t.run (decide (kind = "long"))).hs μ ∧ Knows t (decide (kind = "long")) M A B
  unl : μ[k + 6]? = some (.dT [])
  bar : ∃ bs, μ[k + 12]? = some (.dK (encB bs)) ∧ BarOk t (decide (kind = "long")) ws bs
  ok : t.Ok
theorem get_pre {μ ext : Sto} {k : Nat} {c : Cell} (h : μ[k]? = some c) : (μ ++ ext)[k]? = some c := by
  rw [List.getElem?_append_left (List.getElem?_eq_some_iff.mp h).1]
  exact h
theorem KAt.post {C CB : Addr} {t : Tab} {kind : Str} {M ws : Ps} {k : Nat} {μ : Sto} (h : KAt C CB t kind M ws k μ) (ext : Sto) : KAt C CB t kind M ws k (μ ++ ext) := by
  obtain ⟨j, e, g⟩ := h.own
  obtain ⟨A, B, b, kn⟩ := h.bonds
  obtain ⟨bs, g2, ok⟩ := h.bar
  exact ⟨⟨j, e, get_pre g⟩, ⟨A, B, b.post ext, kn⟩, get_pre h.unl, ⟨bs, get_pre g2, ok⟩, h.ok⟩
theorem valD_encB {bs : Bar} {l : Nat} : (∃ p ∈ bs, p.1 = l ∧ valD (encB bs) (.inl (l : Int)) = some (.lst (p.2.map nD))) ∨ (l ∉ bs.map (·.1) ∧ valD (encB bs) (.inl (l : Int)) = none) := by
  induction bs with
  | nil => exact .inr ⟨by simp, rfl⟩
  | cons p bs ih =>
    unfold encB valD at ih ⊢
    rw [List.map_cons, List.find?_cons]
    by_cases h : p.1 = l
    · subst h
      rw [decide_eq_true rfl]
      exact .inl ⟨p, List.mem_cons_self, rfl, rfl⟩
    · have : ¬ ((.inl (p.1 : Int) : Key) = .inl (l : Int)) := fun z => by
        injection z with z
        exact h (Int.ofNat_inj.mp z)
      rw [decide_eq_false this]
      rcases ih with ⟨q, hq, e1, e2⟩ | ⟨h1, h2⟩
      · exact .inl ⟨q, List.mem_cons_of_mem _ hq, e1, e2⟩
      · exact .inr ⟨fun z => by
          rcases List.mem_cons.mp z with z | z
          · exact h z.symm
          · exact h1 z, h2⟩
variable {P : Program} {w : World} {K : PySem.W.Frag} {mg : Str → Option Value} {base : Heap}
def spEverything (C CB : Addr) : ASp := fun ds μ R => ∃ t kind M ws k, ds = [.pr k] ∧ KAt C CB t kind M ws k μ ∧ R (.lst ((List.range t.n).map nD)) μ
theorem ok_pEverything (G : Facts K mg) : AOk P w K mg base 1 G.pEverything.f G.pEverything.fd ["self"] (spEverything G.CKeeping G.CBonds) := by
  refine fnA G.pEverything.F sc_pEverything (fun ds μ R h => ?_) fun cdv Ar outer s H E ds μ R hr h => ?_
  · obtain ⟨t, kind, M, ws, k, rfl, _⟩ := h
    rfl
  · obtain ⟨t, kind, M, ws, k, rfl, b, q⟩ := h
    have hn := b.ok.n
    refine aSs_one (aS_ret (aE_listRg (c := false) (n := t.n) (ev_cast (ev_len G.n_len (ev_fld (d := pairsD t.looks) G.clsKeeping G.naK_own_looks (ev_v 0) b.own rfl) isl) (by rw [pairsD_len]; rfl)) (by omega) (endR q) G.n_list G.n_range))
def spLastAdd (C CB : Addr) : ASp := fun ds μ R => ∃ t kind M ws k, ∃ l : Nat, ds = [.pr k, nD l] ∧ KAt C CB t kind M ws k μ ∧ l < t.n ∧ R (.int (t.last l)) μ
theorem ok_pLastAdd (G : Facts K mg) : AOk P w K mg base 1 G.pLastAdd.f G.pLastAdd.fd ["self", "look"] (spLastAdd G.CKeeping G.CBonds) := by
  refine fnA G.pLastAdd.F sc_pLastAdd (fun ds μ R h => ?_) fun cdv Ar outer s H E ds μ R hr h => ?_
  · obtain ⟨t, kind, M, ws, k, l, rfl, _⟩ := h
    rfl
  · obtain ⟨t, kind, M, ws, k, l, rfl, b, hl, q⟩ := h
    have nd := sc_pLastAdd.nd
    refine aSs_cons (aS_asg (aE_ev (ev_ixN (ev_fld (d := pairsD t.looks) G.clsKeeping G.naK_own_looks (ev_v 0) b.own rfl) (ev_v 1) isl (looks_ix hl)) (aG_pair 2 3 nd ?_)))
    have e6 : ((t.adds.filter fun a => decide (a.1 < (t.lk l).1) && decide (a.2 = (t.lk l).2)).map fun a => nD a.1) = (((t.adds.filter fun a => decide (a.1 < (t.lk l).1) && decide (a.2 = (t.lk l).2)).map fun a => ((a.1 : Nat) : Int))).map D.int := by
      rw [List.map_map]; rfl
    refine aSs_one (aS_ret (aE_callB (id := "max") (aA_cons (aE_ev (ev_cast (y := .lst (((-1 : Int) :: ((t.adds.filter fun a => decide (a.1 < (t.lk l).1) && decide (a.2 = (t.lk l).2)).map fun a => ((a.1 : Nat) : Int))).map D.int)) (ev_cat (xs := [.int (-1)]) (ys := (t.adds.filter fun a => decide (a.1 < (t.lk l).1) && decide (a.2 = (t.lk l).2)).map fun a => nD a.1) (ev_lst (va_cons (ev_neg ev_int) va_nil)) (aE_lc (c := false) (own := [("place", 4), ("adder", 5)]) (lcp (L := t.adds) (enc := pD) (pr := fun a => decide (a.1 < (t.lk l).1) && decide (a.2 = (t.lk l).2)) (g := fun a => nD a.1)
      (env := fun a => [some (.pr k), some (nD l), some (nD (t.lk l).1), some (nD (t.lk l).2), some (nD a.1), some (nD a.2)]) ?_ ?_ ?_ ?_ ?_ ⟨rfl, rfl⟩) (blkOk_by (by kernel_rfl)) nd) .l .l ?_) ?_) (aA_nil (acall_max .l (by simp) fun m hm hg => ?_)))) G.n_max rfl))
    · exact vi_list (ev_fld (d := pairsD t.adds) G.clsKeeping G.naK_own_adds (ev_v 0) b.own rfl)
    · exact small1000 (by have := b.ok.adds; omega)
    · intro a _ s H C cl fp
      exact aGc_pair 4 5 nd ⟨rfl, rfl⟩
    · intro a _ s H C cl fp
      exact tvs_one (tv_and (tv_ltN (ev_v 4) (ev_v 2)) fun _ => tv_eqN (ev_v 5) (ev_v 3))
    · intro a _ _ s H C cl fp
      exact ev_v 4
    · have := List.length_filter_le (fun a : Nat × Nat => decide (a.1 < (t.lk l).1) && decide (a.2 = (t.lk l).2)) t.adds
      have := b.ok.adds
      rw [List.length_map, sizeLine_eq]
      show 1 + _ ≤ _
      omega
    · rw [e6]; rfl
    · rw [maxI_eq hm hg]
      exact endR q
def spPStops (C CB : Addr) : ASp := fun ds μ R => ∃ t kind M ws k, ∃ l o : Nat, ds = [.pr k, nD l, nD o] ∧ KAt C CB t kind M ws k μ ∧ l < t.n ∧ o < t.n ∧ R (.bl (t.pstops (decide (kind = "long")) M l o)) μ
theorem ok_pStops (G : Facts K mg) (U : SupF P K mg G) : AOk P w K mg base 2 U.qF U.qFd ["self", "look", "other"] (spPStops G.CKeeping G.CBonds) := by
  refine fnA U.qFun sc_pStops' (fun ds μ R h => ?_) fun cdv Ar outer s H E ds μ R hr h => ?_
  · obtain ⟨t, kind, M, ws, k, l, o, rfl, _⟩ := h
    rfl
  · obtain ⟨t, kind, M, ws, k, l, o, rfl, b, hl, ho, q⟩ := h
    have hu := hu_of hr
    obtain ⟨A, B, bb, kn⟩ := b.bonds
    refine aSs_cons (aS_if (aT_ev (tv_or (k := false) (k' := t.be (decide (kind = "long")) M o l) (aT_dinT hu (va_cons (ev_v 1) (va_cons (ev_v 2) va_nil)).p2 (ev_fld (d := .pr (k + 6)) G.clsKeeping G.naK_own_unlike (ev_v 0) b.own rfl) b.unl ⟨rfl, rfl⟩) fun _ => tv_val (aE_met G.bIsBelow G.clsBonds (ok_bIsBelow G) (hr.mono (by decide)) (aE_ev (ev_fld (d := .pr (k + 1)) G.clsKeeping G.naK_own_bonds (ev_v 0) b.own rfl) ⟨_, bb.ins, rfl, aA_ev (va_cons (ev_v 2) (va_cons (ev_v 1) va_nil)) ⟨t, kind, _, A, B, _, o, l, rfl, bb, by rw [kn.be], rfl⟩⟩))) ?_))
    rw [Bool.false_or]
    cases hb : t.be (decide (kind = "long")) M o l with
    | true =>
      rw [if_pos rfl]
      refine aSs_one (aS_ret (aE_ev ev_bl (endR ?_)))
      have : t.pstops (decide (kind = "long")) M l o = true := by unfold Tab.pstops; rw [hb]; rfl
      rw [← this]; exact q
    | false =>
      rw [if_neg Bool.false_ne_true]
      refine aSs_nil ?_
      refine aSs_one (aS_ret (aE_ev (ev_gt (aE_met G.pLastAdd G.clsKeeping (ok_pLastAdd G) (hr.mono (by decide)) (aE_ev (ev_v 0) ⟨_, b.own, rfl, aA_ev (va_cons (ev_v 1) va_nil) ⟨t, kind, M, ws, k, l, rfl, b, hl, rfl, rfl⟩⟩)) (ev_t (i := 0) (ev_ixN (ev_fld (d := pairsD t.looks) G.clsKeeping G.naK_own_looks (ev_v 0) b.own rfl) (ev_v 2) isl (looks_ix ho)))) (endR ?_)))
      have : t.pstops (decide (kind = "long")) M l o = decide (((t.lk o).1 : Int) < t.last l) := by unfold Tab.pstops; rw [hb]; rfl
      rw [← this]; exact q
theorem bar_false {t : Tab} {long : Bool} {ws : Ps} {l o : Nat} (h : ¬ ∃ q ∈ ws, q.1 = l) : t.bar long ws l o = false := by
  unfold Tab.bar
  have : (ws.any fun q => decide (q.1 = l)) = false := by
    rw [List.any_eq_false]
    intro q hq z
    exact h ⟨q, hq, of_decide_eq_true z⟩
  rw [this]; rfl
def spStops (C CB : Addr) : ASp := fun ds μ R => ∃ t kind M ws k, ∃ l o : Nat, ds = [.pr k, nD l, nD o] ∧ KAt C CB t kind M ws k μ ∧ l < t.n ∧ o < t.n ∧ R (.bl (t.stops (decide (kind = "long")) M ws l o)) μ
theorem ok_kStops (G : Facts K mg) (U : SupF P K mg G) : AOk P w K mg base 3 U.sF U.sFd ["self", "look", "other"] (spStops G.CKeeping G.CBonds) := by
  refine fnAS U.sS sc_kStops (fun ds μ R h => ?_) fun Ar outer s H E ds μ R hr h => ?_
  · obtain ⟨t, kind, M, ws, k, l, o, rfl, _⟩ := h
    rfl
  · obtain ⟨t, kind, M, ws, k, l, o, rfl, b, hl, ho, q⟩ := h
    have hu := hu_of hr
    obtain ⟨bs, gb, bok⟩ := b.bar
    obtain ⟨j, ej, gj⟩ := b.own
    cases ej
    have hdin : ∀ (Q : Bool → Sto → Prop), Q (valD (encB bs) (.inl (l : Int))).isSome μ → aT (ncx CX0 P w K mg base ["self", "look", "other", "__class__"] (nfS "stops" "Keeping.stops" s_kStops U.sCc U.sCda) U.sF Ar outer s H E).nox (match (defBody s_kStops)[0]? with | some (Stmt.If (.BoolOp _ [a, _] _) _ _ _) => a | _ => .Constant .none 0 ⟨0, 0, 0, 0⟩) [some (.pr k), some (nD l), some (nD o), none] μ Q := fun Q hQ =>
      aT_din (y := nD l) (key := .inl (l : Int)) hu (ev_fld (d := .pr (k + 12)) G.clsKeeping G.naK_own_barred (ev_v 0) b.own rfl) (ev_v 1) gb rfl hQ
    have sup : ∀ E2 : AEnds, (t.bar (decide (kind = "long")) ws l o = false) → E2.rt (.bl (t.pstops (decide (kind = "long")) M l o)) μ → bSs (ncx CX0 P w K mg base ["self", "look", "other", "__class__"] (nfS "stops" "Keeping.stops" s_kStops U.sCc U.sCda) U.sF Ar outer s H E).nox (defBody s_kStops) ((defBody s_kStops).drop 1) [some (.pr k), some (nD l), some (nD o), none] μ E2 := fun E2 hb hE =>
      bSs_ret (bE_super (i := k) U.sS rfl rfl rfl U.qSup (ok_pStops G U) (hr.mono (by decide)) U.qB .nil U.n_super rfl rfl gj (aA_ev (va_cons (ev_v 1) (va_cons (ev_v 2) va_nil)) ⟨t, kind, M, ws, k, l, o, by rw [List.append_nil], b, hl, ho, hE⟩) (htop := U.top))
    refine bSs_cons (aS_if (aT_w (aW_and (hdin _ ?_))))
    rcases valD_encB (bs := bs) (l := l) with ⟨p, hp, rfl, e2⟩ | ⟨h1, e2⟩
    · rw [e2]
      show if true = true then _ else _
      rw [if_pos rfl]
      refine aW_and1 (aT_ev (tv_inN (l := p.2) (ev_v 2) (aE_dget (y := nD p.1) hu (ev_fld (d := .pr (k + 12)) G.clsKeeping G.naK_own_barred (ev_v 0) b.own rfl) (ev_v 1) gb rfl e2 ⟨rfl, rfl⟩) isl) ?_)
      have hv := bok.val p hp o
      by_cases hb : o ∈ p.2
      · rw [decide_eq_true hb, if_pos rfl]
        refine aSs_one (aS_ret (aE_ev ev_bl (endR ?_)))
        have : t.stops (decide (kind = "long")) M ws p.1 o = true := by unfold Tab.stops; rw [hv.mp hb]; rfl
        rw [← this]; exact q
      · rw [decide_eq_false hb, if_neg Bool.false_ne_true]
        have hbf : t.bar (decide (kind = "long")) ws p.1 o = false := by
          cases h : t.bar (decide (kind = "long")) ws p.1 o with
          | true => exact absurd (hv.mpr h) hb
          | false => rfl
        refine aSs_nil (sup _ hbf (endR ?_))
        have : t.stops (decide (kind = "long")) M ws p.1 o = t.pstops (decide (kind = "long")) M p.1 o := by unfold Tab.stops; rw [hbf]; rfl
        rw [← this]; exact q
    · rw [e2]
      show if false = true then _ else _
      rw [if_neg Bool.false_ne_true]
      show if false = true then _ else _
      rw [if_neg Bool.false_ne_true]
      have hbf : t.bar (decide (kind = "long")) ws l o = false := bar_false fun z => h1 ((bok.keys l).mpr z)
      refine aSs_nil (sup _ hbf (endR ?_))
      have : t.stops (decide (kind = "long")) M ws l o = t.pstops (decide (kind = "long")) M l o := by unfold Tab.stops; rw [hbf]; rfl
      rw [← this]; exact q
end HF

/-! ## P15 -/
namespace HF
open PySem PySem.Spec PyProof.Rows L2 NdefX
/-! ### parts, firsts, stuck -/
/-- x, y = a, b where a cell is among the names -/
theorem aS_parC {X : Cx} {a b : Expr} {ρ : AEnv} {μ : Sto} {E : AEnds} {pos px py pt pt2 : Pos} {kt k2 : Nat} {x y : Str} (i j : Nat) (h : aE X a ρ μ fun d1 μ1 => aE X b ρ μ1 fun d2 μ2 => E.nx ((ρ.set i (some d1)).set j (some d2)) μ2) (hN : X.N.Nodup) (hi : X.N[i]? = some x := by rfl) (hj : X.N[j]? = some y := by rfl)
    (hx : Loc X.env.scope x := by first | exact Or.inl rfl | exact Or.inr rfl) (hy : Loc X.env.scope y := by first | exact Or.inl rfl | exact Or.inr rfl)
    (f1 : X.fn x = true ∨ X.env.scope.names.lookup x = some .local := by first | exact .inl rfl | exact .inr rfl) (f2 : X.fn y = true ∨ X.env.scope.names.lookup y = some .local := by first | exact .inl rfl | exact .inr rfl) (hc : X.calm = true := by rfl)
    (hn : (assignEach [.Name x px, .Name y py] X.env).length = 2 := by rfl) (hst : (assignEach [.Name x px, .Name y py] X.env).findIdx? (·.1) = none := by rfl)
    (s1 : (assignEach [.Name x px, .Name y py] X.env).map (·.2) = assign (.Name x px) X.env :: (assignEach [.Name y py] X.env).map (·.2) := by rfl) (s2 : (assignEach [.Name y py] X.env).map (·.2) = assign (.Name y py) X.env :: (assignEach [] X.env).map (·.2) := by rfl)
    (e1 : starEach [a, b] X.env = (false, eval a X.env) :: starEach [b] X.env := by rfl) (e2 : starEach [b] X.env = (false, eval b X.env) :: starEach [] X.env := by rfl)
    (hs : swapsWithSole [.Tuple [.Name x px, .Name y py] kt pt] (.Tuple [a, b] k2 pt2) pos.line X.env = pure false := by rfl) (hw : swappedStores [.Tuple [.Name x px, .Name y py] kt pt] (.Tuple [a, b] k2 pt2) X.env = pure none := by rfl)
    (h1 : (assignEach [.Tuple [.Name x px, .Name y py] kt pt] X.env).map (·.2) = [assign (.Tuple [.Name x px, .Name y py] kt pt) X.env] := by rfl) :
    aS X (.Assign [.Tuple [.Name x px, .Name y py] kt pt] (.Tuple [a, b] k2 pt2) pos) ρ μ E :=
  aS_asg (aE_tup (aA_cons (aE_mono h fun d1 μ1 h1 => aA_cons (aE_mono h1 fun d2 μ2 h2 => aA_nil ⟨by show 2 ≤ sizeLine; decide, aG_pair i j hN h2 hi hj hx hy f1 f2 hc hn hst s1 s2⟩) e2) e1)) hs hw h1
def firstB (st : Nat → Nat → Bool) (l : Nat) (part : List Nat) : Bool := !((part.filter fun o => !decide (o = l)).any fun o => st l o)
def firstsM (st : Nat → Nat → Bool) (part : List Nat) : List Nat := part.filter fun l => firstB st l part
def innerM (al : Nat → Nat → Bool) (left : List Nat) : Nat → List Nat → List Nat → List Nat
  | 0, part, _ => part
  | f + 1, part, queue => match queue.getLast? with
    | none => part
    | some l => innerM al left f (part ++ left.filter fun o => !decide (o ∈ part) && al l o) (queue.dropLast ++ left.filter fun o => !decide (o ∈ part) && al l o)
def compM (al : Nat → Nat → Bool) (left : List Nat) (x : Nat) : List Nat := innerM al left (2 * left.length + 2) [x] [x]
def partsM (al : Nat → Nat → Bool) : Nat → List Nat → List (List Nat)
  | 0, _ => []
  | _ + 1, [] => []
  | f + 1, x :: r => uni (compM al (x :: r) x) :: partsM al f ((x :: r).filter fun o => !decide (o ∈ compM al (x :: r) x))
def stuckStep (st : Nat → Nat → Bool) (go : List Nat → Option (List Nat)) (p : List Nat) : Option (List Nat) := match firstsM st p with
  | [] => some p
  | x :: _ => go (p.filter fun o => !decide (o = x))
def stuckM (al st : Nat → Nat → Bool) : Nat → List Nat → Option (List Nat)
  | 0, _ => none
  | f + 1, l => (partsM al (l.length + 1) l).findSome? (stuckStep st (stuckM al st f))
theorem stuckStep_nil {st : Nat → Nat → Bool} {go : List Nat → Option (List Nat)} {p : List Nat} (h : firstsM st p = []) : stuckStep st go p = some p := by unfold stuckStep; rw [h]
theorem stuckStep_cons {st : Nat → Nat → Bool} {go : List Nat → Option (List Nat)} {p r : List Nat} {x : Nat} (h : firstsM st p = x :: r) : stuckStep st go p = go (p.filter fun o => !decide (o = x)) := by unfold stuckStep; rw [h]
theorem innerM_ok {al : Nat → Nat → Bool} {left : List Nat} (nl : left.Nodup) : ∀ (f : Nat) {part queue : List Nat}, part.Nodup → (∀ x ∈ part, x ∈ left) → (innerM al left f part queue).Nodup ∧ (∀ x ∈ innerM al left f part queue, x ∈ left) ∧ ∀ x ∈ part, x ∈ innerM al left f part queue
  | 0, part, queue, h, s => ⟨h, s, fun x hx => hx⟩
  | f + 1, part, queue, h, s => by
    unfold innerM
    split
    · exact ⟨h, s, fun x hx => hx⟩
    · rename_i l _
      have h2 : (part ++ left.filter fun o => !decide (o ∈ part) && al l o).Nodup := List.nodup_append.mpr ⟨h, nl.sublist List.filter_sublist, fun a ha b hb e => by
        have := (List.mem_filter.mp hb).2
        rw [Bool.and_eq_true] at this
        exact nd_true this.1 (e ▸ ha)⟩
      have s2 : ∀ x ∈ part ++ left.filter fun o => !decide (o ∈ part) && al l o, x ∈ left := fun x hx => by
        rcases List.mem_append.mp hx with z | z
        · exact s x z
        · exact (List.mem_filter.mp z).1
      obtain ⟨a, b, c⟩ := innerM_ok (al := al) nl f (queue := queue.dropLast ++ left.filter fun o => !decide (o ∈ part) && al l o) h2 s2
      exact ⟨a, b, fun x hx => c x (List.mem_append_left _ hx)⟩
theorem compM_ok {al : Nat → Nat → Bool} {left : List Nat} (nl : left.Nodup) {x : Nat} (hx : x ∈ left) : (compM al left x).Nodup ∧ (∀ y ∈ compM al left x, y ∈ left) ∧ x ∈ compM al left x := by
  obtain ⟨a, b, c⟩ := innerM_ok (al := al) nl (2 * left.length + 2) (part := [x]) (queue := [x]) (List.nodup_cons.mpr ⟨List.not_mem_nil, List.nodup_nil⟩) fun y hy => by rw [List.mem_singleton.mp hy]; exact hx
  exact ⟨a, b, c x List.mem_cons_self⟩
theorem partsM_ok {al : Nat → Nat → Bool} : ∀ (f : Nat) {left : List Nat}, left.Nodup → ∀ p ∈ partsM al f left, p.Nodup ∧ ∀ y ∈ p, y ∈ left
  | 0, left, _, p, h => by cases h
  | f + 1, [], _, p, h => by cases h
  | f + 1, x :: r, nl, p, h => by
    unfold partsM at h
    obtain ⟨a, b, c⟩ := compM_ok (al := al) nl (x := x) List.mem_cons_self
    rcases List.mem_cons.mp h with rfl | h
    · exact ⟨uni_nodup _, fun y hy => b y (uni_mem.mp hy).2⟩
    · obtain ⟨d, e⟩ := partsM_ok f (nl.sublist List.filter_sublist) p h
      exact ⟨d, fun y hy => (List.mem_filter.mp (e y hy)).1⟩
theorem partsM_len {al : Nat → Nat → Bool} : ∀ (f : Nat) {left : List Nat}, (partsM al f left).length ≤ f
  | 0, left => Nat.le_refl _
  | f + 1, [] => Nat.zero_le _
  | f + 1, x :: r => by
    unfold partsM
    rw [List.length_cons]
    exact Nat.succ_le_succ (partsM_len f)
theorem srt_uni {p : List Nat} {ns' : List Int} (h1 : ns'.Perm (p.map fun x : Nat => (x : Int))) (h2 : ns'.Pairwise (· ≤ ·)) (nd : p.Nodup) (hb : ∀ x ∈ p, x < 64) : ns' = (uni p).map fun x : Nat => (x : Int) := by
  have nd2 : (p.map fun x : Nat => (x : Int)).Nodup := by
    rw [List.nodup_iff_pairwise_ne, List.pairwise_map]
    exact nd.imp fun h z => h (Int.ofNat_inj.mp z)
  have nd3 : ns'.Nodup := h1.nodup_iff.mpr nd2
  refine uni_eq ?_ (fun k => h1.mem_iff) hb
  refine (List.Pairwise.and h2 nd3).imp ?_
  intro a b ⟨x, y⟩
  omega
variable {P : Program} {w : World} {K : PySem.W.Frag} {mg : Str → Option Value} {base : Heap}
noncomputable abbrev Tab.stL (t : Tab) (kind : Str) (M ws : Ps) : Nat → Nat → Bool := t.stops (decide (kind = "long")) M ws
noncomputable abbrev Tab.alL (t : Tab) (kind : Str) (M : Ps) : Nat → Nat → Bool := t.al (decide (kind = "long")) M
def spIsFirst (C CB : Addr) : ASp := fun ds μ R => ∃ t kind M ws k, ∃ l : Nat, ∃ part : List Nat, ds = [.pr k, nD l, .lst (part.map nD)] ∧ KAt C CB t kind M ws k μ ∧ l < t.n ∧ (∀ o ∈ part, o < t.n) ∧ part.length ≤ 100 ∧ R (.bl (firstB (t.stL kind M ws) l part)) μ
theorem ok_pIsFirst (G : Facts K mg) (U : SupF P K mg G) : AOk P w K mg base 4 G.pIsFirst.f G.pIsFirst.fd ["self", "look", "part"] (spIsFirst G.CKeeping G.CBonds) := by
  refine fnA G.pIsFirst.F sc_pIsFirst (fun ds μ R h => ?_) fun cdv Ar outer s H E ds μ R hr h => ?_
  · obtain ⟨t, kind, M, ws, k, l, part, rfl, _⟩ := h
    rfl
  · obtain ⟨t, kind, M, ws, k, l, part, rfl, b, hl, hp, hlen, q⟩ := h
    have nd := sc_pIsFirst.nd
    refine aSs_one (aS_ret (aE_ev (ev_not (ev_any (L := part.filter fun o => !decide (o = l)) (q := fun o => t.stL kind M ws l o) G.n_any (aE_lc (c := false) (own := [("other", 3)]) (lcp (L := part) (enc := nD) (pr := fun o => !decide (o = l)) (g := fun o => .bl (t.stL kind M ws l o)) (env := fun o => [some (.pr k), some (nD l), some (.lst (part.map nD)), some (nD o)]) ?_ ?_ ?_ ?_ ?_ ⟨rfl, rfl⟩) (blkOk_by (by kernel_rfl)) nd))) (endR q)))
    · exact vi_list (ev_v 2)
    · exact small1000 (by omega)
    · intro o _ s H C cl fp
      exact aGc_name (i := 3) ⟨rfl, rfl⟩ nd
    · intro o _ s H C cl fp
      exact tvs_one (tv_neN (ev_v 3) (ev_v 1))
    · intro o ho _ s H C cl fp
      exact aE_meth (xs := []) (ok_kStops G U) hr G.clsKeeping U.sM U.sB .nil (aE_ev (ev_v 0) ⟨_, b.own, rfl, aA_ev (va_cons (ev_v 1) (va_cons (ev_v 3) va_nil)) ⟨t, kind, M, ws, k, l, o, rfl, b, hl, hp o ho, rfl, rfl⟩⟩)
def spFirsts (C CB : Addr) : ASp := fun ds μ R => ∃ t kind M ws k, ∃ part : List Nat, ds = [.pr k, .lst (part.map nD)] ∧ KAt C CB t kind M ws k μ ∧ (∀ o ∈ part, o < t.n) ∧ part.length ≤ 100 ∧ R (.lst ((firstsM (t.stL kind M ws) part).map nD)) μ
theorem ok_pFirsts (G : Facts K mg) (U : SupF P K mg G) : AOk P w K mg base 5 G.pFirsts.f G.pFirsts.fd ["self", "part"] (spFirsts G.CKeeping G.CBonds) := by
  refine fnA G.pFirsts.F sc_pFirsts (fun ds μ R h => ?_) fun cdv Ar outer s H E ds μ R hr h => ?_
  · obtain ⟨t, kind, M, ws, k, part, rfl, _⟩ := h
    rfl
  · obtain ⟨t, kind, M, ws, k, part, rfl, b, hp, hlen, q⟩ := h
    have nd := sc_pFirsts.nd
    refine aSs_one (aS_ret (aE_lc (c := false) (own := [("look", 2)]) (lcp (L := part) (enc := nD) (pr := fun l => firstB (t.stL kind M ws) l part) (g := nD) (env := fun l => [some (.pr k), some (.lst (part.map nD)), some (nD l)]) ?_ ?_ ?_ ?_ ?_ (endR q)) (blkOk_by (by kernel_rfl)) nd))
    · exact vi_list (ev_v 1)
    · exact small1000 (by omega)
    · intro o _ s H C cl fp
      exact aGc_name (i := 2) ⟨rfl, rfl⟩ nd
    · intro o ho s H C cl fp
      exact tvs_one (tv_val (aE_met G.pIsFirst G.clsKeeping (ok_pIsFirst G U) hr (aE_ev (ev_v 0) ⟨_, b.own, rfl, aA_ev (va_cons (ev_v 2) (va_cons (ev_v 1) va_nil)) ⟨t, kind, M, ws, k, o, part, rfl, b, hp o ho, hp, hlen, rfl, rfl⟩⟩)))
    · intro o _ _ s H C cl fp
      exact ev_v 2
def encLs (l : List (List Nat)) : List D := l.map fun p => .lst (p.map nD)
def spParts (C CB : Addr) : ASp := fun ds μ R => ∃ t kind M ws k, ∃ l : List Nat, ds = [.pr k, .lst (l.map nD)] ∧ KAt C CB t kind M ws k μ ∧ l.Nodup ∧ (∀ o ∈ l, o < t.n) ∧ R (.lst (encLs (partsM (t.alL kind M) (l.length + 1) l))) μ
theorem ok_pParts (G : Facts K mg) : AOk P w K mg base 2 G.pParts.f G.pParts.fd ["self", "some"] (spParts G.CKeeping G.CBonds) := by
  refine fnA G.pParts.F sc_pParts (fun ds μ R h => ?_) fun cdv Ar outer s H E ds μ R hr h => ?_
  · obtain ⟨t, kind, M, ws, k, l, rfl, _⟩ := h
    rfl
  · obtain ⟨t, kind, M, ws, k, l, rfl, b, ndl, hl, q⟩ := h
    have nd := sc_pParts.nd
    have hn := b.ok.n30
    have hll := nodup_bd ndl hl
    generalize hal : t.alL kind M = al at q
    generalize hfull : partsM al (l.length + 1) l = full at q
    have ez : ∀ c ext, (μ ++ c :: ext)[μ.length]? = some c := fun c ext => get0 rfl
    have sz : ∀ c c' ext, (μ ++ c :: ext).set μ.length c' = μ ++ c' :: ext := fun c c' ext => set0 rfl
    have sx : ∀ c ext i c', (μ ++ c :: ext).set (μ.length + 1 + i) c' = μ ++ c :: ext.set i c' := fun c ext i c' => by
      rw [show μ.length + 1 + i = μ.length + (i + 1) by omega, set_at rfl]; rfl
    have gx : ∀ c ext i, (μ ++ c :: ext)[μ.length + 1 + i]? = ext[i]? := fun c ext i => by
      rw [show μ.length + 1 + i = μ.length + (i + 1) by omega, get_at rfl]; rfl
    refine aSs_cons (aS_par (i := 2) (j := 3) (aE_ev (ev_list G.n_list (ev_v 1) isl) (aE_lstC (aA_nil ⟨Nat.zero_le _, ?_⟩))) nd)
    refine aSs_cons (aS_while (P := fun m ρ μ' => ∃ (left : List Nat) (fd : List (List Nat)) (ext : Sto) (o4 o5 o6 o7 : Option D), ρ = [some (.pr k), some (.lst (l.map nD)), some (.lst (left.map nD)), some (.pr μ.length), o4, o5, o6, o7, none] ∧ μ' = μ ++ .lst (encLs fd) :: ext ∧ left.Nodup ∧ (∀ o ∈ left, o < t.n) ∧ left.length < m ∧ fd ++ partsM al m left = full ∧ fd.length ≤ l.length + 1)
      ⟨l, [], [], none, none, none, none, rfl, rfl, ndl, hl, Nat.lt_succ_self _, by rw [List.nil_append]; exact hfull, Nat.zero_le _⟩ fun m ρ' μ' ⟨left, fd, ext, o4, o5, o6, o7, h1, h2, ndL, hL, hm, hf, hfl⟩ => ?_)
    subst h1 h2
    refine aT_ev (tv_gt (ev_len G.n_len (ev_v 2) isl) ev_int) ?_
    cases m with
    | zero => omega
    | succ m =>
    cases left with
    | nil =>
      rw [if_neg (by simp)]
      have : fd = full := by rw [← hf]; unfold partsM; rw [List.append_nil]
      subst this
      refine aSs_one (aS_ret (aE_ev (ev_v 3) ?_))
      refine ⟨_, _, Exit.list (Nat.le_refl _) (ez _ _) ?_, q⟩
      exact cloL_map fun p _ => clo_lst (cloL_map fun _ _ => clo_int)
    | cons x r =>
    rw [if_pos (by simp)]
    have cut1 : cutD ((x :: r).map nD) none (some 1) = [nD x] := by
      unfold cutD
      rw [show HT.sIx ((x :: r).map nD).length 0 none = 0 from rfl, show HT.sIx ((x :: r).map nD).length ((x :: r).map nD).length (some 1) = min 1 ((x :: r).map nD).length from HT.sIx_nat _ _ 1]
      simp
    obtain ⟨c1, c2, c3⟩ := compM_ok (al := al) ndL (x := x) List.mem_cons_self
    refine aSs_cons (aS_parC 4 5 (aE_sl (l := none) (u := some 1) (ev_v 2) trivial ev_int (asl_l .l ?_)) nd)
    rw [cut1]
    refine aE_sl (l := none) (u := some 1) (ev_v 2) trivial ev_int (asl_lC .l ?_)
    rw [cut1]
    have hml : (μ ++ Cell.lst (encLs fd) :: ext).length = μ.length + 1 + ext.length := by rw [List.length_append, List.length_cons]; omega
    rw [hml, List.append_assoc, List.cons_append]
    have hwn : ((x :: r).length : Nat) ≤ t.n := nodup_bd ndL hL
    refine aSs_cons (aS_while (P := fun m2 ρ μ' => ∃ (part queue : List Nat) (ext2 : Sto) (kq : Nat) (o6 o7 : Option D), ρ = [some (.pr k), some (.lst (l.map nD)), some (.lst ((x :: r).map nD)), some (.pr μ.length), some (.lst (part.map nD)), some (.pr (μ.length + 1 + kq)), o6, o7, none] ∧ μ' = μ ++ .lst (encLs fd) :: ext2 ∧ ext2[kq]? = some (.lst (queue.map nD)) ∧ part.Nodup ∧ (∀ o ∈ part, o ∈ x :: r) ∧ (∀ o ∈ queue, o ∈ x :: r) ∧ 2 * ((x :: r).length - part.length) + queue.length ≤ m2 ∧ m2 ≤ 10000 ∧ innerM al (x :: r) m2 part queue = compM al (x :: r) x)
      ⟨[x], [x], ext ++ [.lst [nD x]], ext.length, o6, o7, rfl, rfl, last_get, List.nodup_cons.mpr ⟨List.not_mem_nil, List.nodup_nil⟩, fun o ho => by rw [List.mem_singleton.mp ho]; exact List.mem_cons_self, fun o ho => by rw [List.mem_singleton.mp ho]; exact List.mem_cons_self, ?_, (by omega), rfl⟩ fun m2 ρ' μ' ⟨part, queue, ext2, kq, o6, o7, h1, h2, hq, ndP, sP, sQ, hm2, hql, hin⟩ => ?_)
    · show 2 * ((x :: r).length - 1) + 1 ≤ 2 * (x :: r).length + 2
      omega
    · subst h1 h2
      have gq : (μ ++ Cell.lst (encLs fd) :: ext2)[μ.length + 1 + kq]? = some (.lst (queue.map nD)) := by rw [gx]; exact hq
      refine aT_ev (tv_gt (ev_len G.n_len (ev_v 5) (.l (.p gq))) ev_int) ?_
      rw [List.length_map]
      have ppl : part.length ≤ (x :: r).length := nodup_len ndP sP
      rcases List.eq_nil_or_concat queue with rfl | ⟨q0, lk, rfl⟩
      · -- the part is whole
        rw [if_neg (by simp)]
        have hfin : part = compM al (x :: r) x := by
          rw [← hin]
          cases m2 <;> rfl
        subst hfin
        refine aSs_cons (aS_setLc (c := false) (own := [("look", 6)]) (i := 2) (lcp (L := x :: r) (enc := nD) (pr := fun o => !decide (o ∈ compM al (x :: r) x)) (g := nD) (env := fun o => [some (.pr k), some (.lst (l.map nD)), some (.lst ((x :: r).map nD)), some (.pr μ.length), some (.lst ((compM al (x :: r) x).map nD)), some (.pr (μ.length + 1 + kq)), some (nD o), o7, none]) ?_ ?_ ?_ ?_ ?_ ?_) (blkOk_by (by kernel_rfl)) nd (sw_true rfl rfl rfl (by kernel_rfl)))
        · exact vi_list (ev_v 2)
        · exact small1000 (by omega)
        · intro o _ s H C cl fp
          exact aGc_name (i := 6) ⟨rfl, rfl⟩ nd
        · intro o _ s H C cl fp
          exact tvs_one (tv_notInN (ev_v 6) (ev_v 4) isl)
        · intro o _ _ s H C cl fp
          exact ev_v 6
        · have hcl : (compM al (x :: r) x).length ≤ 30 := by
            have := nodup_len c1 c2
            omega
          have hc64 : ∀ y ∈ compM al (x :: r) x, y < 64 := fun y hy => by have := hL y (c2 y hy); omega
          refine aSs_one (aS_expr (aE_append (ev_v 3) (ez _ _) (aE_callB (id := "sorted") (aA_cons (aE_ev (ev_v 4) (aA_nil (acall_sorted (ns := (compM al (x :: r) x).map fun y : Nat => (y : Int)) (by rw [← nD_map]; exact .l) (by rw [List.length_map]; omega) fun ns' p1 p2 => ⟨_, ez _ _, ?_, ?_⟩)))) G.n_sorted rfl)))
          · unfold encLs; rw [List.length_map, sizeLine_eq]; omega
          · rw [srt_uni p1 p2 c1 hc64, ← nD_map, sz]
            refine ⟨m, Nat.lt_succ_self _, (x :: r).filter fun o => !decide (o ∈ compM al (x :: r) x), fd ++ [uni (compM al (x :: r) x)], ext2, _, _, _, _, rfl, ?_, ndL.sublist List.filter_sublist, fun o ho => hL o (List.mem_filter.mp ho).1, ?_, ?_, ?_⟩
            · unfold encLs; rw [List.map_append]; rfl
            · have h1 : ((x :: r).filter fun o => !decide (o ∈ compM al (x :: r) x)).length ≤ r.length := by
                rw [List.filter_cons, if_neg (by rw [decide_eq_true c3]; decide)]
                exact List.length_filter_le _ _
              have h2 : (x :: r).length = r.length + 1 := rfl
              omega
            · rw [List.append_assoc]
              exact hf
            · have h1 := congrArg List.length hf
              rw [List.length_append] at h1
              have h2 := partsM_len (al := al) (l.length + 1) (left := l)
              rw [hfull] at h2
              unfold partsM at h1
              rw [List.length_cons] at h1
              rw [List.length_append]
              show fd.length + 1 ≤ _
              omega
      · -- a look is taken
        rw [if_pos (by simp)]
        have hlk : lk < t.n := hL lk (sQ lk (by simp))
        cases m2 with
        | zero => simp at hm2
        | succ m2 =>
        refine aSs_cons (aS_set (i := 6) (aE_lm0 PySem.F.plainAttrs_list PySem.F.slot_list_pop PySem.F.type_list_pop (aE_ev (ev_v 5) ⟨⟨_, .p gq⟩, amt_pop (d := nD lk) gq (by simp) ?_⟩)) nd)
        rw [sx]
        have hdl : (List.map nD (q0.concat lk)).dropLast = q0.map nD := by simp
        rw [hdl]
        obtain ⟨A, B, bb, kn⟩ := b.bonds
        have bb2 := bb.post (Cell.lst (encLs fd) :: ext2.set kq (.lst (q0.map nD)))
        have b2 := b.post (Cell.lst (encLs fd) :: ext2.set kq (.lst (q0.map nD)))
        refine aSs_cons (aS_setLc (c := false) (own := [("other", 8)]) (i := 7) (lcp (L := x :: r) (enc := nD) (pr := fun o => !decide (o ∈ part) && al lk o) (g := nD) (env := fun o => [some (.pr k), some (.lst (l.map nD)), some (.lst ((x :: r).map nD)), some (.pr μ.length), some (.lst (part.map nD)), some (.pr (μ.length + 1 + kq)), some (nD lk), o7, some (nD o)]) ?_ ?_ ?_ ?_ ?_ ?_) (blkOk_by (by kernel_rfl)) nd (sw_true rfl rfl rfl (by kernel_rfl)))
        · exact vi_list (ev_v 2)
        · exact small1000 (by omega)
        · intro o _ s H C cl fp
          exact aGc_name (i := 8) ⟨rfl, rfl⟩ nd
        · intro o _ s H C cl fp
          refine tvs_one (tv_and (tv_notInN (ev_v 8) (ev_v 4) isl) fun _ => tv_val (aE_met G.bIsAlike G.clsBonds (ok_bIsAlike G) hr (aE_ev (ev_fld (d := .pr (k + 1)) G.clsKeeping G.naK_own_bonds (ev_v 0) b2.own rfl) ⟨_, bb2.ins, rfl, aA_ev (va_cons (ev_v 6) (va_cons (ev_v 8) va_nil)) ⟨t, kind, _, A, B, _, lk, o, rfl, bb2, ?_, rfl⟩⟩)))
          rw [kn.al, ← hal]
        · intro o _ _ s H C cl fp
          exact ev_v 8
        · generalize hmore : (x :: r).filter (fun o => !decide (o ∈ part) && al lk o) = more
          have hml2 : part.length + more.length ≤ (x :: r).length := by
            have h1 : (part ++ more).Nodup := by
              rw [← hmore]
              exact List.nodup_append.mpr ⟨ndP, ndL.sublist List.filter_sublist, fun a ha b hb e => by
                have := (List.mem_filter.mp hb).2
                rw [Bool.and_eq_true] at this
                exact nd_true this.1 (e ▸ ha)⟩
            have := nodup_len h1 (m := x :: r) fun o ho => by
              rcases List.mem_append.mp ho with z | z
              · exact sP o z
              · rw [← hmore] at z; exact (List.mem_filter.mp z).1
            rw [List.length_append] at this
            exact this
          have hcc : (q0.concat lk).length = q0.length + 1 := by simp
          have hkq : kq < ext2.length := (List.getElem?_eq_some_iff.mp hq).1
          have gq2 : (μ ++ Cell.lst (encLs fd) :: ext2.set kq (.lst (q0.map nD)))[μ.length + 1 + kq]? = some (.lst (q0.map nD)) := by
            rw [gx, List.getElem?_set_self hkq]
          refine aSs_one (aS_parC 4 5 (aE_op (aE_ev (ev_v 4) (aE_ev (ev_v 7) (aop_cat .l .l ?_ ?_)))) nd)
          · rw [List.length_map, List.length_map, sizeLine_eq]; omega
          refine aE_op (aE_ev (ev_v 5) (aE_ev (ev_v 7) (aop_catC (.p gq2) .l ?_ ?_)))
          · rw [List.length_map, List.length_map, sizeLine_eq]; omega
          have hml3 : (μ ++ Cell.lst (encLs fd) :: ext2.set kq (.lst (q0.map nD))).length = μ.length + 1 + ext2.length := by rw [List.length_append, List.length_cons, List.length_set]; omega
          rw [hml3, List.append_assoc, List.cons_append]
          refine ⟨m2, Nat.lt_succ_self _, part ++ more, q0 ++ more, ext2.set kq (.lst (q0.map nD)) ++ [.lst (q0.map nD ++ more.map nD)], ext2.length, some (nD lk), some (.lst (more.map nD)), ?_, rfl, ?_, ?_, fun o ho => ?_, fun o ho => ?_, ?_, ?_, ?_⟩
          · rw [List.map_append]; rfl
          · rw [List.map_append]
            have : ext2.length = (ext2.set kq (.lst (q0.map nD))).length := by rw [List.length_set]
            rw [this]
            exact last_get
          · rw [← hmore]
            exact List.nodup_append.mpr ⟨ndP, ndL.sublist List.filter_sublist, fun a ha b hb e => by
              have := (List.mem_filter.mp hb).2
              rw [Bool.and_eq_true] at this
              exact nd_true this.1 (e ▸ ha)⟩
          · rcases List.mem_append.mp ho with z | z
            · exact sP o z
            · rw [← hmore] at z; exact (List.mem_filter.mp z).1
          · rcases List.mem_append.mp ho with z | z
            · exact sQ o (by simp [z])
            · rw [← hmore] at z; exact (List.mem_filter.mp z).1
          · rw [List.length_append, List.length_append]; omega
          · omega
          · rw [← hin]
            conv => rhs; unfold innerM
            simp only [List.concat_eq_append, List.getLast?_append, List.getLast?_singleton, List.dropLast_concat, hmore]
            simp [hmore]
end HF

/-! ## P16 -/
namespace HF
open PySem PySem.Spec PyProof.Rows L2 NdefX
variable {P : Program} {w : World} {K : PySem.W.Frag} {mg : Str → Option Value} {base : Heap}
def optL : Option (List Nat) → D
  | none => .non
  | some p => .lst (p.map nD)
theorem findSome_none {α β : Type} {f : α → Option β} {L : List α} {x : α} {r : List α} (h : L.findSome? f = none) : (L ++ x :: r).findSome? f = (f x).or (r.findSome? f) := by
  rw [List.findSome?_append, h, Option.none_or, List.findSome?_cons]
  cases f x <;> rfl
def spStuck (C CB : Addr) (n : Nat) : ASp := fun ds μ R => ∃ t kind M ws k, ∃ l : List Nat, ds = [.pr k, .lst (l.map nD)] ∧ KAt C CB t kind M ws k μ ∧ l.Nodup ∧ (∀ o ∈ l, o < t.n) ∧ l.length ≤ n ∧ R (optL (stuckM (t.alL kind M) (t.stL kind M ws) n l)) μ
theorem ok_pStuck (G : Facts K mg) (U : SupF P K mg G) : ∀ n, AOk P w K mg base (n + 6) G.pStuck.f G.pStuck.fd ["self", "some"] (spStuck G.CKeeping G.CBonds n) := by
  intro n
  induction n with
  | zero =>
    refine fnA G.pStuck.F sc_pStuck (fun ds μ R h => ?_) fun cdv Ar outer s H E ds μ R hr h => ?_
    · obtain ⟨t, kind, M, ws, k, l, rfl, _⟩ := h
      rfl
    · obtain ⟨t, kind, M, ws, k, l, rfl, b, ndl, hl, hn, q⟩ := h
      have hl0 : l = [] := List.length_eq_zero_iff.mp (Nat.le_zero.mp hn)
      subst hl0
      refine aSs_cons (aS_forL (L := ([] : List (List Nat))) (enc := fun p => .lst (p.map nD)) (wi_list (aE_met G.pParts G.clsKeeping (ok_pParts G) (hr.mono (by decide)) (aE_ev (ev_v 0) ⟨_, b.own, rfl, aA_ev (va_cons (ev_v 1) va_nil) ⟨t, kind, M, ws, k, [], rfl, b, ndl, hl, rfl, rfl⟩⟩)))
        (fun _ ρ μ' => μ' = μ) rfl (fun pre x post ρ' μ' h => absurd h (by simp)) (fun ρ' μ' h => ?_))
      subst h
      exact aSs_one (aS_ret (aE_ev ev_non (endR q)))
  | succ n ih =>
    refine fnA G.pStuck.F sc_pStuck (fun ds μ R h => ?_) fun cdv Ar outer s H E ds μ R hr h => ?_
    · obtain ⟨t, kind, M, ws, k, l, rfl, _⟩ := h
      rfl
    · obtain ⟨t, kind, M, ws, k, l, rfl, b, ndl, hl, hn, q⟩ := h
      have nd := sc_pStuck.nd
      have hn30 := b.ok.n30
      have hll := nodup_bd ndl hl
      refine aSs_cons (aS_forL (L := partsM (t.alL kind M) (l.length + 1) l) (enc := fun p => .lst (p.map nD)) (wi_list (aE_met G.pParts G.clsKeeping (ok_pParts G) (hr.mono (by omega)) (aE_ev (ev_v 0) ⟨_, b.own, rfl, aA_ev (va_cons (ev_v 1) va_nil) ⟨t, kind, M, ws, k, l, rfl, b, ndl, hl, rfl, rfl⟩⟩)))
        (fun L ρ μ' => ∃ o2 o3 o4, ρ = [some (.pr k), some (.lst (l.map nD)), o2, o3, o4, none] ∧ μ' = μ ∧ L.findSome? (stuckStep (t.stL kind M ws) (stuckM (t.alL kind M) (t.stL kind M ws) n)) = none) ⟨none, none, none, rfl, rfl, rfl⟩ (fun L p rest ρ' μ' hL ⟨o2, o3, o4, h1, h2, h3⟩ => ?_) (fun ρ' μ' ⟨o2, o3, o4, h1, h2, h3⟩ => ?_))
      · subst h1 h2
        have hp := partsM_ok (al := t.alL kind M) (l.length + 1) ndl p (by rw [hL]; simp)
        have hpt : ∀ o ∈ p, o < t.n := fun o ho => hl o (hp.2 o ho)
        have hpl := nodup_bd hp.1 hpt
        have hst : stuckM (t.alL kind M) (t.stL kind M ws) (n + 1) l = (stuckStep (t.stL kind M ws) (stuckM (t.alL kind M) (t.stL kind M ws) n) p).or (rest.findSome? (stuckStep (t.stL kind M ws) (stuckM (t.alL kind M) (t.stL kind M ws) n))) := by
          conv => lhs; unfold stuckM
          rw [hL, findSome_none h3]
        refine aG_name (i := 2) ?_ nd
        refine aSs_cons (aS_set (i := 3) (aE_met G.pFirsts G.clsKeeping (ok_pFirsts G U) (hr.mono (by omega)) (aE_ev (ev_v 0) ⟨_, b.own, rfl, aA_ev (va_cons (ev_v 2) va_nil) ⟨t, kind, M, ws, k, p, rfl, b, hpt, by omega, ?_⟩⟩)) nd)
        cases hfs : firstsM (t.stL kind M ws) p with
        | nil =>
          rw [stuckStep_nil hfs, Option.some_or] at hst
          refine aSs_cons (aS_if (aT_ev (tv_eqI (ev_len G.n_len (ev_v 3) isl) ev_int) ?_))
          rw [if_pos (by simp)]
          refine aSs_one (aS_ret (aE_ev (ev_v 2) ?_))
          rw [hst] at q
          exact endR q
        | cons x r =>
          rw [stuckStep_cons hfs] at hst
          have hx : x ∈ p := (List.mem_filter.mp (show x ∈ firstsM (t.stL kind M ws) p by rw [hfs]; exact List.mem_cons_self)).1
          refine aSs_cons (aS_if (aT_ev (tv_eqI (ev_len G.n_len (ev_v 3) isl) ev_int) ?_))
          rw [if_neg (by simp; omega)]
          refine aSs_nil ?_
          have hfl : (p.filter fun o => !decide (o = x)).length ≤ n := by
            have h1 : (x :: p.filter fun o => !decide (o = x)).Nodup := List.nodup_cons.mpr ⟨fun z => nd_true (List.mem_filter.mp z).2 rfl, hp.1.sublist List.filter_sublist⟩
            have h2 := nodup_len h1 (m := l) fun o ho => by
              rcases List.mem_cons.mp ho with z | z
              · rw [z]; exact hp.2 x hx
              · exact hp.2 o (List.mem_filter.mp z).1
            rw [List.length_cons] at h2
            omega
          refine aSs_cons (aS_set (i := 4) (aE_met G.pStuck G.clsKeeping ih hr (aE_ev (ev_v 0) ⟨_, b.own, rfl, aA_cons (aE_ev (aE_lc (c := false) (own := [("look", 5)]) (lcp (L := p) (enc := nD) (pr := fun o => !decide (o = x)) (g := nD) (env := fun o => [some (.pr k), some (.lst (l.map nD)), some (.lst (p.map nD)), some (.lst ((x :: r).map nD)), o4, some (nD o)]) ?_ ?_ ?_ ?_ ?_ ⟨rfl, rfl⟩) (blkOk_by (by kernel_rfl)) nd) (aA_nil ⟨t, kind, M, ws, k, p.filter fun o => !decide (o = x), rfl, b, hp.1.sublist List.filter_sublist, fun o ho => hpt o (List.mem_filter.mp ho).1, hfl, ?_⟩))⟩)) nd)
          · exact vi_list (ev_v 2)
          · exact small1000 (by omega)
          · intro o _ s H C cl fp
            exact aGc_name (i := 5) ⟨rfl, rfl⟩ nd
          · intro o _ s H C cl fp
            exact tvs_one (tv_neN (ev_v 5) (ev_ixN (i := 0) (ev_v 3) ev_0 isl rfl))
          · intro o _ _ s H C cl fp
            exact ev_v 5
          · refine aSs_one (aS_if (aT_ev (tv_notN (ev_v 4) ev_non) ?_))
            cases hr : stuckM (t.alL kind M) (t.stL kind M ws) n (p.filter fun o => !decide (o = x)) with
            | some y =>
              rw [hr, Option.some_or] at hst
              rw [if_pos (by simp [optL, D.isNon])]
              refine aSs_one (aS_ret (aE_ev (ev_v 4) ?_))
              rw [hst] at q
              exact endR q
            | none =>
              rw [if_neg (by decide)]
              refine aSs_nil ⟨_, _, _, rfl, rfl, ?_⟩
              rw [findSome_none h3, stuckStep_cons hfs, hr]
              rfl
      · subst h1 h2
        refine aSs_one (aS_ret (aE_ev ev_non (endR ?_)))
        have : stuckM (t.alL kind M) (t.stL kind M ws) (n + 1) l = none := h3
        rw [this] at q
        exact q
end HF

/-! ## P17 -/
namespace HF
open PySem PySem.Spec PyProof.Rows L2 NdefX
/-! ### what is barred -/
def putB (bs : Bar) (l : Nat) (v : List Nat) : Bar := if l ∈ bs.map (·.1) then bs.map (fun p => if p.1 = l then (p.1, v) else p) else bs ++ [(l, v)]
theorem putD_encB {bs : Bar} {l : Nat} {v : List Nat} : putD (encB bs) (.inl (l : Int)) (.lst (v.map nD)) = encB (putB bs l v) := by
  unfold putD putB
  have an : ((encB bs).any fun kv => decide (kv.1 = (.inl (l : Int) : Key))) = true ↔ l ∈ bs.map (·.1) := by
    unfold encB
    rw [List.any_map, List.any_eq_true]
    constructor
    · rintro ⟨p, hp, z⟩
      have z := of_decide_eq_true z
      injection z with z
      exact List.mem_map.mpr ⟨p, hp, Int.ofNat_inj.mp z⟩
    · intro z
      obtain ⟨p, hp, e⟩ := List.mem_map.mp z
      exact ⟨p, hp, decide_eq_true (by rw [← e])⟩
  by_cases h : l ∈ bs.map (·.1)
  · rw [an.mpr h, if_pos rfl, if_pos h]
    unfold encB
    rw [List.map_map, List.map_map]
    refine List.map_congr_left fun p _ => ?_
    show (if ((.inl (p.1 : Int) : Key)) = .inl (l : Int) then _ else _) = _
    by_cases e : p.1 = l
    · rw [if_pos (by rw [e])]
      show _ = (fun p : Nat × List Nat => ((.inl (p.1 : Int) : Key), D.lst (p.2.map nD))) (if p.1 = l then (p.1, v) else p)
      rw [if_pos e]
    · rw [if_neg fun z => e (by injection z with z; exact Int.ofNat_inj.mp z)]
      show _ = (fun p : Nat × List Nat => ((.inl (p.1 : Int) : Key), D.lst (p.2.map nD))) (if p.1 = l then (p.1, v) else p)
      rw [if_neg e]
  · rw [if_neg fun z => h (an.mp z), if_neg h]
    unfold encB
    rw [List.map_append]
    rfl
theorem putB_keys {bs : Bar} {l : Nat} {v : List Nat} : (putB bs l v).map (·.1) = if l ∈ bs.map (·.1) then bs.map (·.1) else bs.map (·.1) ++ [l] := by
  unfold putB
  split
  · rw [List.map_map]
    refine List.map_congr_left fun p _ => ?_
    show (if p.1 = l then (p.1, v) else p).1 = p.1
    split <;> rfl
  · rw [List.map_append]; rfl
theorem putB_mem {bs : Bar} {l : Nat} {v : List Nat} {p : Nat × List Nat} (h : p ∈ putB bs l v) : (p ∈ bs ∧ p.1 ≠ l) ∨ p = (l, v) := by
  unfold putB at h
  split at h
  · obtain ⟨q, hq, e⟩ := List.mem_map.mp h
    split at e
    · rename_i z
      exact .inr (by rw [← e, z])
    · rename_i z
      exact .inl ⟨e ▸ hq, by rw [← e]; exact z⟩
  · rename_i hl
    rcases List.mem_append.mp h with h | h
    · exact .inl ⟨h, fun z => hl (z ▸ List.mem_map_of_mem h)⟩
    · exact .inr (List.mem_singleton.mp h)
theorem putB_nd {bs : Bar} {l : Nat} {v : List Nat} (h : (bs.map (·.1)).Nodup) : ((putB bs l v).map (·.1)).Nodup := by
  rw [putB_keys]
  split
  · exact h
  · rename_i hl
    refine List.nodup_append.mpr ⟨h, List.nodup_cons.mpr ⟨List.not_mem_nil, List.nodup_nil⟩, fun a ha b hb e => ?_⟩
    rw [List.mem_singleton.mp hb] at e
    exact hl (e ▸ ha)
theorem putB_in {bs : Bar} {l m : Nat} {v : List Nat} : m ∈ (putB bs l v).map (·.1) ↔ m ∈ bs.map (·.1) ∨ m = l := by
  rw [putB_keys]
  split
  · rename_i h
    exact ⟨.inl, fun z => z.elim id fun e => e ▸ h⟩
  · rw [List.mem_append, List.mem_singleton]
/-- .. after the first wishes -/
structure BarP (t : Tab) (long : Bool) (ws L : Ps) (bs : Bar) : Prop where
  nd : (bs.map (·.1)).Nodup
  keys : ∀ l, l ∈ bs.map (·.1) ↔ ∃ q ∈ ws, q.1 = l
  val : ∀ p ∈ bs, ∀ o, o ∈ p.2 ↔ (o < p.1 ∨ ∃ q ∈ L, q.1 = p.1 ∧ o ∈ t.has long q.2)
  len : ∀ p ∈ bs, p.2.length ≤ 40 + 40 * L.length
theorem BarP.done {t : Tab} {long : Bool} {ws : Ps} {bs : Bar} (h : BarP t long ws ws bs) : BarOk t long ws bs := by
  refine ⟨h.nd, h.keys, fun p hp o => ?_⟩
  rw [h.val p hp o]
  have hk := (h.keys p.1).mp (List.mem_map_of_mem hp)
  have h1 : (ws.any fun q => decide (q.1 = p.1)) = true := by
    obtain ⟨q, hq, e⟩ := hk
    exact List.any_eq_true.mpr ⟨q, hq, decide_eq_true e⟩
  unfold Tab.bar
  rw [h1, Bool.true_and, Bool.or_eq_true, List.any_eq_true, decide_eq_true_iff]
  constructor
  · rintro (z | ⟨q, hq, e1, e2⟩)
    · exact .inl z
    · exact .inr ⟨q, hq, by rw [decide_eq_true e1, decide_eq_true e2]; rfl⟩
  · rintro (z | ⟨q, hq, e⟩)
    · exact .inl z
    · rw [Bool.and_eq_true] at e
      exact .inr ⟨q, hq, of_decide_eq_true e.1, of_decide_eq_true e.2⟩
def bar0 (ws : Ps) : Bar := ws.foldl (fun bs q => putB bs q.1 (List.range q.1)) []
theorem bar0_ok {t : Tab} {long : Bool} : ∀ {ws : Ps}, (∀ q ∈ ws, q.1 < 40) → BarP t long ws [] (bar0 ws) := by
  have gen : ∀ (L done : Ps) (bs : Bar), (∀ q ∈ L, q.1 < 40) → BarP t long done [] bs → BarP t long (done ++ L) [] (L.foldl (fun bs q => putB bs q.1 (List.range q.1)) bs) := by
    intro L
    induction L with
    | nil => intro done bs _ h; rw [List.append_nil]; exact h
    | cons q L ih =>
      intro done bs hb h
      have := ih (done ++ [q]) (putB bs q.1 (List.range q.1)) (fun x hx => hb x (List.mem_cons_of_mem _ hx)) ⟨putB_nd h.nd, fun l => ?_, fun p hp o => ?_, fun p hp => ?_⟩
      · rw [List.append_assoc] at this
        exact this
      · rw [putB_in, h.keys]
        constructor
        · rintro (⟨x, hx, e⟩ | e)
          · exact ⟨x, List.mem_append_left _ hx, e⟩
          · exact ⟨q, List.mem_append_right _ (List.mem_singleton.mpr rfl), e.symm⟩
        · rintro ⟨x, hx, e⟩
          rcases List.mem_append.mp hx with z | z
          · exact .inl ⟨x, z, e⟩
          · rw [List.mem_singleton.mp z] at e
            exact .inr e.symm
      · rcases putB_mem hp with ⟨z, _⟩ | rfl
        · exact h.val p z o
        · show o ∈ List.range q.1 ↔ (o < q.1 ∨ _)
          rw [List.mem_range]
          exact ⟨.inl, fun z => z.elim id fun ⟨x, hx, _⟩ => by cases hx⟩
      · rcases putB_mem hp with ⟨z, _⟩ | rfl
        · exact h.len p z
        · show (List.range q.1).length ≤ _
          rw [List.length_range]
          have := hb q List.mem_cons_self
          omega
  intro ws hb
  have := gen ws [] [] hb ⟨List.nodup_nil, fun l => (by simp), fun p hp => (by cases hp), fun p hp => (by cases hp)⟩
  rwa [List.nil_append] at this
theorem bar_step {t : Tab} {long : Bool} {ws L : Ps} {bs : Bar} {q : Nat × Nat} {v : List Nat} (h : BarP t long ws L bs) (hv : (q.1, v) ∈ bs) (hh : (t.has long q.2).length ≤ 40) : BarP t long ws (L ++ [q]) (putB bs q.1 (v ++ t.has long q.2)) := by
  have hk : q.1 ∈ bs.map (·.1) := List.mem_map_of_mem (f := (·.1)) hv
  refine ⟨putB_nd h.nd, fun l => ?_, fun p hp o => ?_, fun p hp => ?_⟩
  · rw [putB_in, h.keys]
    exact ⟨fun z => z.elim id fun e => (h.keys l).mp (e ▸ hk), .inl⟩
  · rcases putB_mem hp with ⟨z, hne⟩ | rfl
    · rw [h.val p z o]
      constructor
      · rintro (a | ⟨x, hx, e⟩)
        · exact .inl a
        · exact .inr ⟨x, List.mem_append_left _ hx, e⟩
      · rintro (a | ⟨x, hx, e⟩)
        · exact .inl a
        · rcases List.mem_append.mp hx with z | z
          · exact .inr ⟨x, z, e⟩
          · rw [List.mem_singleton.mp z] at e
            exact absurd e.1.symm hne
    · show o ∈ v ++ t.has long q.2 ↔ (o < q.1 ∨ _)
      rw [List.mem_append, h.val _ hv o]
      constructor
      · rintro ((a | ⟨x, hx, e⟩) | a)
        · exact .inl a
        · exact .inr ⟨x, List.mem_append_left _ hx, e⟩
        · exact .inr ⟨q, List.mem_append_right _ (List.mem_singleton.mpr rfl), rfl, a⟩
      · rintro (a | ⟨x, hx, e⟩)
        · exact .inl (.inl a)
        · rcases List.mem_append.mp hx with z | z
          · exact .inl (.inr ⟨x, z, e⟩)
          · rw [List.mem_singleton.mp z] at e
            exact .inr e.2
  · rw [List.length_append, List.length_singleton]
    rcases putB_mem hp with ⟨z, _⟩ | rfl
    · have := h.len p z; omega
    · have := h.len _ hv
      show (v ++ _).length ≤ _
      rw [List.length_append]
      dsimp only at this
      omega
def chainM (n : Nat) : Ps := (List.range n).flatMap fun i => ((List.range n).filter fun j => decide (i < j)).map fun j => (i, j)
theorem chainM_ok {n : Nat} : ∀ q ∈ chainM n, q.1 ≠ q.2 ∧ q.1 < n ∧ q.2 < n := fun q hq => by
  obtain ⟨i, hi, h⟩ := List.mem_flatMap.mp hq
  obtain ⟨j, hj, rfl⟩ := List.mem_map.mp h
  obtain ⟨h1, h2⟩ := List.mem_filter.mp hj
  have h2 := of_decide_eq_true h2
  exact ⟨Nat.ne_of_lt h2, List.mem_range.mp hi, List.mem_range.mp h1⟩
def chainOf (n : Nat) (c : Bool) : Ps := if c = true then chainM n else []
variable {P : Program} {w : World} {K : PySem.W.Frag} {mg : Str → Option Value} {base : Heap}
def pFs (t : Tab) (k : Nat) : List (Str × D) := [("own_looks", pairsD t.looks), ("own_adds", pairsD t.adds), ("own_bonds", .pr (k + 1)), ("own_unlike", .pr (k + 6))]
def spPInit (C CB : Addr) : ASp := fun ds μ R => ∃ t kind pre k M alike, ds = [.pr k, Tab.enc t, .str kind, .tup [], alike] ∧ pre.length = k ∧ μ = pre ++ [.ins C []] ∧ t.Ok ∧ MoreD alike M ∧ (∀ q ∈ M, q.1 ≠ q.2 ∧ q.1 < t.n ∧ q.2 < t.n) ∧
  ∀ A B fl, Knows t (decide (kind = "long")) M A B → cloL 0 fl = true → R .non (pre ++ .ins C (pFs t k) :: (bc CB t kind (k + 1) A B (t.run (decide (kind = "long"))).hs fl ++ [.dT []]))
theorem sc_pInit' : Scp ["self", "timetable", "kind", "pairs", "alike", "one", "other"] ["self", "timetable", "kind", "pairs", "alike"] s_pInit := ⟨rfl, rfl, rfl, by decide +kernel, rfl, by decide +kernel, by decide +kernel⟩
theorem ok_pInit (G : Facts K mg) (U : SupF P K mg G) : AOk P w K mg base 7 U.pF U.pFd ["self", "timetable", "kind", "pairs", "alike"] (spPInit G.CKeeping G.CBonds) := by
  refine fnAD U.pFun sc_pInit' (fun ds μ R h => ?_) fun cdv Ar outer s H E ds μ R hr h => ?_
  · obtain ⟨t, kind, pre, k, M, more, rfl, _⟩ := h
    rfl
  · obtain ⟨t, kind, pre, k, M, alike, rfl, hk, rfl, ok, hal, hM, fin⟩ := h
    have nd := sc_pInit'.nd
    have hev : t.evs.length ≤ 100 := Nat.le_trans ok.len (by decide)
    refine aSs_cons (aS_fldK k G.clsKeeping G.naK_own_looks (aE_def G.looks (ok_looks G) (hr.mono (by decide)) (aA_ev (va_cons (ev_v 1) va_nil) ⟨t, rfl, hev, ev_v 0, _, get0 hk, by show 0 < 1000; decide, ?_⟩)))
    rw [set0 hk]
    refine aSs_cons (aS_fldK k G.clsKeeping G.naK_own_adds (aE_def G.adds (ok_adds G) (hr.mono (by decide)) (aA_ev (va_cons (ev_v 1) va_nil) ⟨t, rfl, hev, ev_v 0, _, get0 hk, by show 1 < 1000; decide, ?_⟩)))
    rw [set0 hk]
    have ln : ∀ c : Cell, (pre ++ [c]).length = k + 1 := fun c => by rw [List.length_append, hk]; rfl
    refine aSs_cons (aS_fldK k G.clsKeeping G.naK_own_bonds (aE_mkD 2 G.bInit (by decide) (ok_bInit G) hr G.mBonds (aA_ev (va_cons (ev_v 1) (va_cons (ev_v 2) (va_cons (ev_tup va_nil) (va_cons (ev_v 4) va_nil)))) ⟨t, kind, _, _, M, alike, rfl, rfl, rfl, ok, hal, hM, fun A B fl kn hcl => ⟨rfl, ev_v 0, _, by rw [List.append_assoc]; exact get0 hk, by show 2 < 1000; decide, ?_⟩⟩)))
    rw [ln, List.append_assoc]
    show aSs _ _ _ ((pre ++ _ :: bc G.CBonds t kind (k + 1) A B (t.run (decide (kind = "long"))).hs fl).set k _) _
    rw [set0 hk]
    refine aSs_cons (aS_fldK k G.clsKeeping G.naK_own_unlike (aE_dnewT ⟨ev_v 0, _, by rw [List.append_assoc]; exact get0 hk, by show 3 < 1000; decide, ?_⟩))
    rw [List.append_assoc, List.cons_append, set0 hk]
    have ln2 : ∀ c : Cell, (pre ++ c :: bc G.CBonds t kind (k + 1) A B (t.run (decide (kind = "long"))).hs fl).length = k + 6 := fun c => by rw [List.length_append, hk]; rfl
    rw [ln2]
    refine aSs_one (aS_forL (L := ([] : Ps)) (enc := pD) (wi_tup (xs := []) (ev_v 3)) (fun _ ρ μ' => μ' = pre ++ .ins G.CKeeping (pFs t k) :: (bc G.CBonds t kind (k + 1) A B (t.run (decide (kind = "long"))).hs fl ++ [.dT []])) rfl (fun pr x post ρ' μ' h => absurd h (by simp)) (fun ρ' μ' h => ?_))
    subst h
    exact endN (fin A B fl kn hcl)
def spKInit (C CB : Addr) : ASp := fun ds μ R => ∃ t kind pre k ws wd, ∃ c : Bool, ds = [.pr k, Tab.enc t, .str kind, wd, .bl c] ∧ pre.length = k ∧ μ = pre ++ [.ins C []] ∧ t.Ok ∧ MoreD wd ws ∧ (∀ q ∈ ws, q.1 < t.n ∧ q.2 < t.folk) ∧ ws.length ≤ 100 ∧
  ∀ cs, KAt C CB t kind (chainOf t.n c) ws k (pre ++ cs) → R .non (pre ++ cs)
theorem ok_kInit (G : Facts K mg) (U : SupF P K mg G) : AOk P w K mg base 8 U.iF U.iFd ["self", "timetable", "kind", "wishes", "is_chain"] (spKInit G.CKeeping G.CBonds) := by
  refine fnAC U.iS sc_kInit (fun ds μ R h => ?_) fun Ar outer s H E ds μ R hr h => ?_
  · obtain ⟨t, kind, pre, k, ws, wd, c, rfl, _⟩ := h
    rfl
  · obtain ⟨t, kind, pre, k, ws, wd, c, rfl, hk, rfl, ok, hwd, hws, hwl, fin⟩ := h
    have nd := sc_kInit.nd
    have hu := hu_of hr
    have hn := ok.n30
    have hev : t.evs.length ≤ 100 := Nat.le_trans ok.len (by decide)
    refine bSs_cons (aS_set (i := 5) (aE_listRg (c := false) (n := t.n) (ev_cast (ev_len G.n_len (aE_def G.looks (ok_looks G) (hr.mono (by decide)) (aA_ev (va_cons (ev_v 1) va_nil) ⟨t, rfl, hev, rfl, rfl⟩)) isl) (by rw [pairsD_len]; rfl)) (by omega) ?_ G.n_list G.n_range) nd)
    rw [rangeD_nD]
    show bSs _ _ _ _ _ _
    refine bSs_cons (aS_setLc2 (c := false) (own := [("one", 10), ("other", 11)]) (vs1 := [11]) (i := 6) (lc2s (L := List.range t.n) (M := List.range t.n) (enc := nD) (enc1 := nD) (wi_list (ev_v 5)) ?_
      (fun L acc μ' => μ' = pre ++ [.ins G.CKeeping []] ∧ acc = (L.flatMap fun i => ((List.range t.n).filter fun j => decide (i < j)).map fun j => (i, j)).map pD) ⟨rfl, rfl⟩
      (fun L i L1 acc μ' => μ' = pre ++ [.ins G.CKeeping []] ∧ acc = ((L.flatMap fun i => ((List.range t.n).filter fun j => decide (i < j)).map fun j => (i, j)) ++ ((L1.filter fun j => decide (i < j)).map fun j => (i, j))).map pD)
      (fun L i rest acc μ' hL ⟨h1, h2⟩ => ?_) (fun acc μ' ⟨h1, h2⟩ => ?_)) (blkOk_by (by kernel_rfl)) (by decide) nd (sw_true rfl rfl rfl (by kernel_rfl)))
    · have : t.n * t.n ≤ 30 * 30 := Nat.mul_le_mul hn hn
      rw [List.length_range, sizeLine_eq]
      omega
    · subst h1 h2
      intro s H C cl fp
      refine aGc_name (i := 10) ?_ nd
      intro s H C cl fp
      refine ⟨wi_list (ev_v 5), ⟨rfl, by rw [List.filter_nil, List.map_nil, List.append_nil]⟩, fun L1 j rest1 acc1 μ5 hM ⟨h1, h2⟩ => ?_, fun acc1 μ5 ⟨h1, h2⟩ => ⟨h1, by rw [h2, List.flatMap_append]; simp⟩⟩
      subst h1 h2
      intro s H C cl fp
      refine aGc_name (i := 11) ?_ nd
      intro s H C cl fp
      refine aTs_one (aT_ev (tv_ltN (ev_v 10) (ev_v 11)) ?_)
      by_cases hij : i < j
      · rw [decide_eq_true hij, if_pos rfl]
        intro s H C cl fp
        refine aE_ev (ev_tup (va_cons (ev_v 10) (va_cons (ev_v 11) va_nil))) ⟨rfl, ?_⟩
        simp [List.filter_append, List.map_append, List.append_assoc, hij]
      · rw [decide_eq_false hij, if_neg Bool.false_ne_true]
        refine ⟨rfl, ?_⟩
        simp [List.filter_append, List.map_append, List.append_assoc, hij]
    · subst h1 h2
      show bSs _ _ _ _ _ _
      have hal : ∀ (Q : DK), (∀ d, MoreD d (chainOf t.n c) → Q d (pre ++ [.ins G.CKeeping []])) → Q (if c = true then .lst ((chainM t.n).map pD) else .tup []) (pre ++ [.ins G.CKeeping []]) := fun Q hQ => hQ _ (by
        cases c with
        | true => exact .inl rfl
        | false => exact .inr rfl)
      refine bSs_expr (bE_super (i := k) U.iS rfl rfl rfl U.pSup (ok_pInit G U) hr U.pB .nil U.n_super rfl rfl (get0 hk) (aA_ev (va_cons (ev_v 1) (va_cons (ev_v 2) (va_cons (ev_tup va_nil) (va_cons (ev_ite (k := c) (x := .lst ((chainM t.n).map pD)) (y := .tup []) (tv_val (ev_v 4)) (fun _ => ev_v 6) fun _ => ev_tup va_nil) va_nil)))) ?_) (htop := U.top))
      refine hal (fun d μ1 => spPInit G.CKeeping G.CBonds (.pr k :: ([Tab.enc t, .str kind, .tup [], d] ++ [])) μ1 _) fun d hd => ⟨t, kind, pre, k, chainOf t.n c, d, rfl, hk, rfl, ok, hd, fun q hq => ?_, fun A B fl kn hcl => ?_⟩
      · cases c with
        | true => exact chainM_ok q hq
        | false => cases hq
      refine bSs_of ?_
      have ln2 : (pre ++ Cell.ins G.CKeeping (pFs t k) :: (bc G.CBonds t kind (k + 1) A B (t.run (decide (kind = "long"))).hs fl ++ [.dT []])).length = k + 7 := by rw [List.length_append, hk]; rfl
      refine aSs_cons (aS_set (i := 7) (aE_bonds G (hr.mono (by decide)) (ev_v 1) (ev_v 2) ok fun A2 B2 fl2 kn2 hcl2 => ?_) nd)
      rw [ln2, List.append_assoc]
      generalize hcs : bc G.CBonds t kind (k + 7) A2 B2 (t.run (decide (kind = "long"))).hs fl2 = bc2
      have hln : (pre ++ (Cell.ins G.CKeeping (pFs t k) :: (bc G.CBonds t kind (k + 1) A B (t.run (decide (kind = "long"))).hs fl ++ [.dT []]) ++ bc2)).length = k + 12 := by
        rw [← hcs, List.length_append, hk]; rfl
      have hwi : ∀ {ρ μ}, ρ[3]? = some (some wd) → EVI (mcx CX0 P w K mg base ["self", "timetable", "kind", "wishes", "is_chain", "numbers", "pairs", "bonds", "look", "person", "one", "other"] "Keeping.__init__" s_kInit "numbers" U.iCc U.iCda U.iF Ar outer s H E).nox (match (defBody s_kInit)[4]? with | some (Stmt.Assign _ (.DictComp _ _ [g] _ _) _) => g.target | _ => .Constant .none 0 ⟨0, 0, 0, 0⟩) (match (defBody s_kInit)[4]? with | some (Stmt.Assign _ (.DictComp _ _ [g] _ _) _) => g.iter | _ => .Constant .none 0 ⟨0, 0, 0, 0⟩) ρ μ (ws.map pD) := fun {ρ μ} h3 => by
        rcases hwd with rfl | rfl
        · exact vi_list (ev_v 3 h3)
        · exact vi_tup (ev_v 3 h3)
      have hwl2 : ∀ {ρ μ}, ρ[3]? = some (some wd) → EVL (mcx CX0 P w K mg base ["self", "timetable", "kind", "wishes", "is_chain", "numbers", "pairs", "bonds", "look", "person", "one", "other"] "Keeping.__init__" s_kInit "numbers" U.iCc U.iCda U.iF Ar outer s H E).nox (match (defBody s_kInit)[5]? with | some (Stmt.For tg _ _ _ _) => tg | _ => .Constant .none 0 ⟨0, 0, 0, 0⟩) (match (defBody s_kInit)[5]? with | some (Stmt.For _ it _ _ _) => it | _ => .Constant .none 0 ⟨0, 0, 0, 0⟩) ρ μ (ws.map pD) := fun {ρ μ} h3 => by
        rcases hwd with rfl | rfl
        · exact wi_list (ev_v 3 h3)
        · exact wi_tup (ev_v 3 h3)
      have hbl : ∀ {L : Ps}, (L.foldl (fun bs q => putB bs q.1 (List.range q.1)) ([] : Bar)) = bar0 L := rfl
      have hfold : ∀ (L : Ps) (bs : Bar), L.foldl (fun acc (q : Nat × Nat) => putD acc ((.inl (q.1 : Int) : Key)) (D.lst ((List.range q.1).map nD))) (encB bs) = encB (L.foldl (fun bs q => putB bs q.1 (List.range q.1)) bs) := by
        intro L
        induction L with
        | nil => intro bs; rfl
        | cons q L ih => intro bs; rw [List.foldl_cons, putD_encB, ih, List.foldl_cons]
      refine aSs_cons (aS_fldK k G.clsKeeping G.naK_own_barred (aE_dc (own := [("look", 8), ("person", 9)]) (dcp (L := ws) (enc := pD) (key := fun q : Nat × Nat => .inl (q.1 : Int)) (g := fun q => .lst ((List.range q.1).map nD)) (env := fun q => [some (.pr k), some (Tab.enc t), some (.str kind), some wd, some (.bl c), some (.lst ((List.range t.n).map nD)), some (.lst ((chainM t.n).map pD)), some (.pr (k + 7)), some (nD q.1), some (nD q.2), none, none]) (hwi rfl) (small1000 (by omega)) ?_ ?_ ?_ ?_) (blkOk_by (by kernel_rfl)) nd))
      · intro q _ s H C cl fp
        exact aGc_pair 8 9 nd ⟨rfl, rfl⟩
      · intro q _ s H C cl fp
        exact ev_v 8
      · intro q hq s H C cl fp
        exact aE_listRg (c := false) (n := q.1) (ev_v 8) (by have := (hws q hq).1; omega) ⟨rfl, rfl⟩ G.n_list G.n_range
      have hb0 := bar0_ok (t := t) (long := decide (kind = "long")) (ws := ws) fun q hq => by have := (hws q hq).1; omega
      rw [show ([] : List (Key × D)) = encB [] from rfl, hfold ws [], hbl, hln, List.append_assoc]
      refine ⟨ev_v 0, _, get0 hk, by show 4 < 1000; decide, ?_⟩
      show aSs _ _ _ ((pre ++ Cell.ins G.CKeeping (pFs t k) :: ((bc G.CBonds t kind (k + 1) A B (t.run (decide (kind = "long"))).hs fl ++ [.dT []]) ++ bc2 ++ [.dK (encB (bar0 ws))])).set k _) _
      rw [set0 hk]
      -- the store from here on
      have gK : ∀ bs : Bar, KAt G.CKeeping G.CBonds t kind (chainOf t.n c) ws k (pre ++ Cell.ins G.CKeeping (kFs t k) :: ((bc G.CBonds t kind (k + 1) A B (t.run (decide (kind = "long"))).hs fl ++ [.dT []]) ++ bc2 ++ [.dK (encB bs)])) ∨ ¬ BarOk t (decide (kind = "long")) ws bs := fun bs => by
        by_cases hbo : BarOk t (decide (kind = "long")) ws bs
        · refine .inl ⟨⟨k, rfl, get0 hk⟩, ⟨A, B, ⟨pre ++ [Cell.ins G.CKeeping (kFs t k)], fl, [.dT []] ++ bc2 ++ [.dK (encB bs)], by rw [List.length_append, hk]; rfl, by simp only [List.append_assoc, List.cons_append, List.nil_append]⟩, kn⟩, ?_, ⟨bs, ?_, hbo⟩, ok⟩
          · exact (get_at (i := 6) hk).trans rfl
          · rw [← hcs]; exact (get_at (i := 12) hk).trans rfl
        · exact .inr hbo
      have gB : ∀ bs : Bar, (pre ++ Cell.ins G.CKeeping (kFs t k) :: ((bc G.CBonds t kind (k + 1) A B (t.run (decide (kind = "long"))).hs fl ++ [.dT []]) ++ bc2 ++ [.dK (encB bs)]))[k + 12]? = some (.dK (encB bs)) := fun bs => by
        rw [← hcs]; exact (get_at (i := 12) hk).trans rfl
      have sB : ∀ (bs : Bar) (x : Cell), (pre ++ Cell.ins G.CKeeping (kFs t k) :: ((bc G.CBonds t kind (k + 1) A B (t.run (decide (kind = "long"))).hs fl ++ [.dT []]) ++ bc2 ++ [.dK (encB bs)])).set (k + 12) x = pre ++ Cell.ins G.CKeeping (kFs t k) :: ((bc G.CBonds t kind (k + 1) A B (t.run (decide (kind = "long"))).hs fl ++ [.dT []]) ++ bc2 ++ [x]) := fun bs x => by
        rw [← hcs]; exact (set_at (i := 12) hk).trans rfl
      have own : ∀ bs : Bar, IsI (pre ++ Cell.ins G.CKeeping (kFs t k) :: ((bc G.CBonds t kind (k + 1) A B (t.run (decide (kind = "long"))).hs fl ++ [.dT []]) ++ bc2 ++ [.dK (encB bs)])) (.pr k) G.CKeeping (kFs t k) := fun bs => ⟨k, rfl, get0 hk⟩
      have b2 : ∀ bs : Bar, BAt G.CBonds t kind (k + 7) A2 B2 (t.run (decide (kind = "long"))).hs (pre ++ Cell.ins G.CKeeping (kFs t k) :: ((bc G.CBonds t kind (k + 1) A B (t.run (decide (kind = "long"))).hs fl ++ [.dT []]) ++ bc2 ++ [.dK (encB bs)])) := fun bs =>
        ⟨pre ++ (Cell.ins G.CKeeping (kFs t k) :: (bc G.CBonds t kind (k + 1) A B (t.run (decide (kind = "long"))).hs fl ++ [.dT []])), fl2, [.dK (encB bs)], by rw [List.length_append, hk]; rfl, by rw [hcs]; simp only [List.append_assoc, List.cons_append, List.nil_append]⟩
      have hbar : ∀ (L : Ps) (bs : Bar), BarP t (decide (kind = "long")) ws L bs → bs.length ≤ ws.length := fun L bs h => by
        have := nodup_len h.nd (m := ws.map (·.1)) fun l hl => by
          obtain ⟨q, hq, e⟩ := (h.keys l).mp hl
          exact List.mem_map.mpr ⟨q, hq, e⟩
        simpa using this
      refine aSs_one (aS_forL (L := ws) (enc := pD) (hwl2 rfl)
        (fun L ρ μ' => ∃ o8 o9 bs, ρ = [some (.pr k), some (Tab.enc t), some (.str kind), some wd, some (.bl c), some (.lst ((List.range t.n).map nD)), some (.lst ((chainM t.n).map pD)), some (.pr (k + 7)), o8, o9, none, none] ∧ μ' = pre ++ Cell.ins G.CKeeping (kFs t k) :: ((bc G.CBonds t kind (k + 1) A B (t.run (decide (kind = "long"))).hs fl ++ [.dT []]) ++ bc2 ++ [.dK (encB bs)]) ∧ BarP t (decide (kind = "long")) ws L bs)
        ⟨none, none, bar0 ws, rfl, rfl, hb0⟩ (fun L x rest ρ' μ' hL ⟨o8, o9, bs, h1, h2, hbp⟩ => ?_) (fun ρ' μ' ⟨o8, o9, bs, h1, h2, hbp⟩ => ?_))
      · subst h1 h2
        have hxm : x ∈ ws := by rw [hL]; simp
        have hx := hws x hxm
        have hLl : L.length ≤ 100 := by
          have := congrArg List.length hL
          rw [List.length_append] at this
          omega
        refine aG_pair 8 9 nd ?_
        rcases valD_encB (bs := bs) (l := x.1) with ⟨p, hp, he1, e2⟩ | ⟨h1, _⟩
        · have hpe : p = (x.1, p.2) := Prod.ext he1 rfl
          have hhl := has_len (long := decide (kind = "long")) ok x.2
          have hpl := hbp.len p hp
          refine aSs_one (aS_dput (j := k + 12) (y := nD x.1) hu (aE_ev (ev_cat (aE_dget (y := nD x.1) hu (ev_fld (d := .pr (k + 12)) G.clsKeeping G.naK_own_barred (ev_v 0) (own bs) rfl) (ev_v 8) (gB bs) rfl e2 ⟨rfl, rfl⟩) (aE_met G.bHas G.clsBonds (ok_bHas G) (hr.mono (by decide)) (aE_ev (ev_v 7) ⟨_, (b2 bs).ins, rfl, aA_ev (va_cons (ev_v 9) va_nil) ⟨t, kind, _, A2, B2, _, x.2, rfl, b2 bs, by rw [run_folk]; exact hx.2, rfl, rfl⟩⟩)) .l .l ?_) ⟨ev_fld (d := .pr (k + 12)) G.clsKeeping G.naK_own_barred (ev_v 0) (own bs) rfl, ev_v 8, _, _, gB bs, rfl, ?_, ?_⟩))
          · rw [List.length_map, List.length_map, sizeLine_eq]
            have : ((t.run (decide (kind = "long"))).hs.getD x.2 []).length ≤ 40 := hhl
            omega
          · have := hbar L bs hbp
            unfold encB
            rw [List.length_map, sizeLine_eq]
            omega
          · rw [← List.map_append, putD_encB, sB]
            refine ⟨_, _, putB bs x.1 (p.2 ++ t.has (decide (kind = "long")) x.2), rfl, rfl, bar_step hbp (hpe ▸ hp) hhl⟩
        · exact absurd ((hbp.keys x.1).mpr ⟨x, hxm, rfl⟩) h1
      · subst h1 h2
        have hbo := hbp.done
        rcases gK bs with z | z
        · exact endN (fin _ z)
        · exact absurd hbo z
end HF

/-! ## P18 -/
namespace HF
open PySem PySem.Spec PyProof.Rows L2 NdefX
noncomputable def fineM (t : Tab) (kind : Str) (c : Bool) (ws : Ps) : Bool := !(ws.any fun q => t.bar (decide (kind = "long")) ws q.1 q.1) && (stuckM (t.alL kind (chainOf t.n c)) (t.stL kind (chainOf t.n c) ws) 30 (List.range t.n)).isNone
theorem set_self {μ : Sto} {j : Nat} {c : Cell} (h : μ[j]? = some c) : μ.set j c = μ := by
  obtain ⟨hj, e⟩ := List.getElem?_eq_some_iff.mp h
  rw [← e, List.set_getElem_self]
theorem key_inj {bs : Bar} (h : (bs.map (·.1)).Nodup) {p q : Nat × List Nat} (hp : p ∈ bs) (hq : q ∈ bs) (e : p.1 = q.1) : p = q := by
  induction bs with
  | nil => cases hp
  | cons b bs ih =>
    rw [List.map_cons, List.nodup_cons] at h
    rcases List.mem_cons.mp hp with h1 | h1
    · rcases List.mem_cons.mp hq with h2 | h2
      · rw [h1, h2]
      · exact absurd (List.mem_map.mpr ⟨q, h2, by rw [← e, h1]⟩) h.1
    · rcases List.mem_cons.mp hq with h2 | h2
      · exact absurd (List.mem_map.mpr ⟨p, h1, by rw [e, h2]⟩) h.1
      · exact ih h.2 h1 h2
theorem valD_encB_mem {bs : Bar} (h : (bs.map (·.1)).Nodup) {p : Nat × List Nat} (hp : p ∈ bs) : valD (encB bs) (.inl (p.1 : Int)) = some (.lst (p.2.map nD)) := by
  rcases valD_encB (bs := bs) (l := p.1) with ⟨q, hq, e1, e2⟩ | ⟨h1, _⟩
  · rw [key_inj h hq hp e1] at e2
    exact e2
  · exact absurd (List.mem_map_of_mem hp) h1
variable {P : Program} {w : World} {K : PySem.W.Frag} {mg : Str → Option Value} {base : Heap}
def spIsFine (C CB : Addr) : ASp := fun ds μ R => ∃ t kind c ws k, ds = [.pr k] ∧ KAt C CB t kind (chainOf t.n c) ws k μ ∧ ws.length ≤ 100 ∧ R (.bl (fineM t kind c ws)) μ
theorem ok_kIsFine (G : Facts K mg) (U : SupF P K mg G) : AOk P w K mg base 37 G.kIsFine.f G.kIsFine.fd ["self"] (spIsFine G.CKeeping G.CBonds) := by
  refine fnA G.kIsFine.F sc_kIsFine (fun ds μ R h => ?_) fun cdv Ar outer s H E ds μ R hr h => ?_
  · obtain ⟨t, kind, c, ws, k, rfl, _⟩ := h
    rfl
  · obtain ⟨t, kind, c, ws, k, rfl, b, hwl, q⟩ := h
    have nd := sc_kIsFine.nd
    have hu := hu_of hr
    have hn := b.ok.n30
    obtain ⟨bs, gb, bok⟩ := b.bar
    obtain ⟨j, ej, gj⟩ := b.own
    cases ej
    have hbl : bs.length ≤ 100 := by
      have := nodup_len bok.nd (m := ws.map (·.1)) fun l hl => by
        obtain ⟨q, hq, e⟩ := (bok.keys l).mp hl
        exact List.mem_map.mpr ⟨q, hq, e⟩
      rw [List.length_map, List.length_map] at this
      omega
    have hany : bs.any (fun p => decide (p.1 ∈ p.2)) = ws.any fun q => t.bar (decide (kind = "long")) ws q.1 q.1 := by
      rw [Bool.eq_iff_iff, List.any_eq_true, List.any_eq_true]
      constructor
      · rintro ⟨p, hp, e⟩
        obtain ⟨q, hq, e1⟩ := (bok.keys p.1).mp (List.mem_map_of_mem hp)
        exact ⟨q, hq, by rw [e1]; exact (bok.val p hp p.1).mp (of_decide_eq_true e)⟩
      · rintro ⟨q, hq, e⟩
        obtain ⟨p, hp, e1⟩ := List.mem_map.mp ((bok.keys q.1).mpr ⟨q, hq, rfl⟩)
        have e1 : p.1 = q.1 := e1
        refine ⟨p, hp, decide_eq_true ((bok.val p hp p.1).mpr ?_)⟩
        rw [e1]; exact e
    have ownF : ∀ od ws', IsI (μ.set (k + 12) (.fK od ws' (encB bs))) (.pr k) G.CKeeping (kFs t k) := fun od ws' => ⟨k, rfl, by rw [List.getElem?_set_ne (by omega)]; exact gj⟩
    have hkl : k + 12 < μ.length := (List.getElem?_eq_some_iff.mp gb).1
    have gF : ∀ od ws', (μ.set (k + 12) (.fK od ws' (encB bs)))[k + 12]? = some (.fK od ws' (encB bs)) := fun od ws' => List.getElem?_set_self hkl
    refine aSs_cons (aS_if (aT_val (aE_callB (id := "any") (aA_cons (aE_lock gb fun od ws' => aE_lc (c := false) (own := [("look", 1)]) (lcm (L := bs) (enc := fun p => nD p.1) (g := fun p => .bl (decide (p.1 ∈ p.2))) (env := fun p => [some (.pr k), some (nD p.1)]) ?_ ?_ ?_ ?_ ⟨gF od ws', ?_⟩) (blkOk_by (by kernel_rfl)) nd)) G.n_any rfl)))
    · refine aI_mono (aI_keysF (ev_fld (d := .pr (k + 12)) G.clsKeeping G.naK_own_barred (ev_v 0) (ownF od ws') rfl) (gF od ws') ⟨rfl, ?_, gF od ws'⟩) fun _ _ z => z
      show (encB bs).map (fun p => kD p.1) = _
      unfold encB
      rw [List.map_map]
      rfl
    · exact small1000 (by omega)
    · intro p _ s H C cl fp
      exact aGc_name (i := 1) ⟨rfl, rfl⟩ nd
    · intro p hp s H C cl fp
      exact ev_inN (ev_v 1) (ev_dgetF (y := nD p.1) hu (ev_fld (d := .pr (k + 12)) G.clsKeeping G.naK_own_barred (ev_v 0) (ownF od ws') rfl) (ev_v 1) (gF od ws') rfl (valD_encB_mem bok.nd hp)) isl
    · rw [List.set_set, set_self gb]
      refine aA_nil (acall_any (L := bs) (p := fun p => decide (p.1 ∈ p.2)) .l ⟨_, rfl, ?_⟩)
      rw [hany]
      unfold fineM at q
      cases hb : ws.any (fun q => t.bar (decide (kind = "long")) ws q.1 q.1) with
      | true =>
        rw [hb] at q
        rw [if_pos rfl]
        exact aSs_one (aS_ret (aE_ev ev_bl (endR q)))
      | false =>
        rw [hb] at q
        rw [if_neg Bool.false_ne_true]
        refine aSs_nil ?_
        have b' : KAt G.CKeeping G.CBonds t kind (chainOf t.n c) ws k μ := b
        refine aSs_one (aS_ret (aE_ev (ev_isN (aE_met G.pStuck G.clsKeeping (ok_pStuck G U 30) (hr.mono (by decide)) (aE_ev (ev_v 0) ⟨_, b.own, rfl, aA_ev (va_cons (aE_met0 G.pEverything G.clsKeeping (ok_pEverything G) (hr.mono (by decide)) (aE_ev (ev_v 0) ⟨_, b.own, rfl, ⟨t, kind, _, ws, k, rfl, b, rfl, rfl⟩⟩)) va_nil) ⟨t, kind, _, ws, k, List.range t.n, rfl, b, List.nodup_range, fun o ho => List.mem_range.mp ho, by rw [List.length_range]; exact hn, rfl, rfl⟩⟩)) ev_non) (endR ?_)))
        have : ∀ o : Option (List Nat), (optL o).isNon = o.isNone := fun o => by cases o <;> rfl
        rw [this]
        exact q
end HF

/-! ## P19 -/
namespace HF
open PySem PySem.Spec PyProof.Rows L2 NdefX
noncomputable def wayM (t : Tab) (kind : Str) (ws : Ps) : Str := if fineM t kind false ws = true then (if fineM t kind true ws = true then "delay" else "fork") else "no"
variable {P : Program} {w : World} {K : PySem.W.Frag} {mg : Str → Option Value} {base : Heap}
/-- Keeping(..).is_fine(), a test -/
theorem ev_fine {X : Cx} {es : List Expr} {e1 : Expr} {ρ : AEnv} {μ : Sto} {Q : DK} {p pos cpos apos : Pos} {t : Tab} {kind : Str} {ws : Ps} {wd : D} {c : Bool} {xs ds : List D} {dvs : List V} {dv : List Value} (G : Facts X.K X.mg) (U : SupF X.prog X.K X.mg G) (hr : Room 37 X.A)
    (hb : Binds X.K U.iFd ["self", "timetable", "kind", "wishes", "is_chain"] dv) (hd : DefV X.K dvs dv xs) (ha : EVA X (e1 :: es) ρ μ ds) (hds : ds ++ xs = [t.enc, .str kind, wd, .bl c]) (ok : t.Ok) (hwd : MoreD wd ws) (hws : ∀ q ∈ ws, q.1 < t.n ∧ q.2 < t.folk) (hwl : ws.length ≤ 100)
    (hq : ∀ cs, Q (.bl (fineM t kind c ws)) (μ ++ cs))
    (hg : Gl X "Keeping" := by rfl) (he : starEach (e1 :: es) X.env = (false, eval e1 X.env) :: starEach es X.env := by rfl) (hpl : (backTo pos (starEach es X.env)).any (·.1) = false := by rfl)
    (ht : ∃ pl : Sem Bool, eval (.Call (.Attribute (.Call (.Name "Keeping" p) (e1 :: es) [] pos) "is_fine" apos) [] [] cpos) X.env = (do
      let ov ← eval (.Call (.Name "Keeping" p) (e1 :: es) [] pos) X.env
      standAt apos.atName
      let (f, first) ← holding [ov] (getMethod ov "is_fine" pl)
      callWith cpos f first (backTo cpos (starEach [] X.env)) (backToKw cpos (keywordEach [] X.env))) := by exact ⟨_, rfl⟩) :
    aE X (.Call (.Attribute (.Call (.Name "Keeping" p) (e1 :: es) [] pos) "is_fine" apos) [] [] cpos) ρ μ Q := by
  obtain ⟨pl, ht⟩ := ht
  refine aE_met0 (pl := pl) G.kIsFine G.clsKeeping (ok_kIsFine G U) hr (aE_make U.iM (ok_kInit G U) (hr.mono (by decide)) G.mKeeping hb hd (aA_ev ha ?_) hg (by decide) he hpl) ht
  rw [hds]
  refine ⟨t, kind, μ, _, ws, wd, c, rfl, rfl, rfl, ok, hwd, hws, hwl, fun cs kat => ⟨rfl, _, kat.own, rfl, t, kind, c, ws, _, rfl, kat, hwl, hq cs⟩⟩
def spWayOf : ASp := fun ds μ R => ∃ t kind ws wd, ds = [Tab.enc t, .str kind, wd] ∧ t.Ok ∧ MoreD wd ws ∧ (∀ q ∈ ws, q.1 < t.n ∧ q.2 < t.folk) ∧ ws.length ≤ 100 ∧ R (.str (wayM t kind ws)) μ
theorem ok_wayOf (G : Facts K mg) (U : SupF P K mg G) : AOk P w K mg base 38 G.wayOf.f G.wayOf.fd ["timetable", "kind", "wishes"] spWayOf := by
  refine fnA G.wayOf.F sc_wayOf (fun ds μ R h => ?_) fun cdv Ar outer s H E ds μ R hr h => ?_
  · obtain ⟨t, kind, ws, wd, rfl, _⟩ := h
    rfl
  · obtain ⟨t, kind, ws, wd, rfl, ok, hwd, hws, hwl, q⟩ := h
    obtain ⟨dvs, dv, hd, hb⟩ := U.iB0
    obtain ⟨tk1, hg1⟩ := G.g_NO
    obtain ⟨tk2, hg2⟩ := G.g_DELAY
    obtain ⟨tk3, hg3⟩ := G.g_FORK
    refine aSs_cons (aS_if (aT_not (aT_val (ev_fine (c := false) G U hr hb hd (va_cons (ev_v 0) (va_cons (ev_v 1) (va_cons (ev_v 2) va_nil))) rfl ok hwd hws hwl fun cs => ⟨_, rfl, ?_⟩))))
    unfold wayM at q
    cases hf : fineM t kind false ws with
    | false =>
      rw [hf] at q
      rw [if_pos (by decide)]
      exact aSs_one (aS_ret (aE_ev (ev_g hg1) ⟨_, _, Exit.drop clo_str, q⟩))
    | true =>
      rw [hf, if_pos rfl] at q
      rw [if_neg (by decide)]
      refine aSs_nil (aSs_one (aS_ret (aE_if (aT_val (ev_fine (c := true) (xs := []) G U hr U.iB1 .nil (va_cons (ev_v 0) (va_cons (ev_v 1) (va_cons (ev_v 2) (va_cons ev_bl va_nil)))) rfl ok hwd hws hwl fun cs2 => ⟨_, rfl, ?_⟩)))))
      rw [List.append_assoc]
      cases hf2 : fineM t kind true ws with
      | true =>
        rw [hf2, if_pos rfl] at q
        rw [if_pos rfl]
        exact aE_ev (ev_g hg2) ⟨_, _, Exit.drop clo_str, q⟩
      | false =>
        rw [hf2, if_neg Bool.false_ne_true] at q
        rw [if_neg Bool.false_ne_true]
        exact aE_ev (ev_g hg3) ⟨_, _, Exit.drop clo_str, q⟩
def spKeepWay : ASp := fun ds μ R => ∃ t kind, ∃ i : Nat, ∃ ps : List Nat, ds = [Tab.enc t, .str kind, nD i, .lst (ps.map nD)] ∧ t.Ok ∧ i < t.n ∧ (∀ p ∈ ps, p < t.folk) ∧ ps.length ≤ 100 ∧ R (.str (wayM t kind (ps.map fun p => (i, p)))) μ
theorem ok_keepWay (G : Facts K mg) (U : SupF P K mg G) : AOk P w K mg base 39 G.keepWay.f G.keepWay.fd ["timetable", "kind", "i", "people"] spKeepWay := by
  refine fnA G.keepWay.F sc_keepWay (fun ds μ R h => ?_) fun cdv Ar outer s H E ds μ R hr h => ?_
  · obtain ⟨t, kind, i, ps, rfl, _⟩ := h
    rfl
  · obtain ⟨t, kind, i, ps, rfl, ok, hi, hp, hl, q⟩ := h
    have nd := sc_keepWay.nd
    refine aSs_cons (aS_set (i := 4) (aE_ev (aE_own G (hr.mono (by decide)) (ev_v 0) ok) ?_) nd)
    refine aSs_cons (aS_expr (aE_def G.checkLook (ok_checkLook G) (hr.mono (by decide)) (aA_ev (va_cons (ev_v 4) (va_cons (ev_v 2) va_nil)) ⟨t, i, rfl, Nat.le_trans ok.len (by decide), hi, ?_⟩)))
    refine aSs_cons (aS_expr (aE_def G.checkPeople (ok_checkPeople G) (hr.mono (by decide)) (aA_ev (va_cons (ev_v 4) (va_cons (ev_v 3) va_nil)) ⟨t, ps, rfl, hp, ?_⟩)))
    have e1 : (ps.map fun p => pD (i, p)) = (ps.map fun p => (i, p)).map pD := by rw [List.map_map]; rfl
    refine aSs_one (aS_ret (aE_def G.wayOf (ok_wayOf G U) hr (aA_ev (va_cons (ev_v 4) (va_cons (ev_v 1) (va_cons (aE_lc (c := false) (own := [("person", 5)]) (lcm (L := ps) (enc := nD) (g := fun p => pD (i, p)) (env := fun p => [some (Tab.enc t), some (.str kind), some (nD i), some (.lst (ps.map nD)), some (Tab.enc t), some (nD p)]) ?_ ?_ ?_ ?_ ⟨rfl, rfl⟩) (blkOk_by (by kernel_rfl)) nd) va_nil))) ⟨t, kind, ps.map fun p => (i, p), .lst (ps.map fun p => pD (i, p)), rfl, ok, .inl (by rw [e1]), fun x hx => ?_, by rw [List.length_map]; exact hl, endR q⟩)))
    · exact vi_list (ev_v 3)
    · exact small1000 (by omega)
    · intro p _ s H C cl fp
      exact aGc_name (i := 5) ⟨rfl, rfl⟩ nd
    · intro p _ s H C cl fp
      exact ev_tup (va_cons (ev_v 2) (va_cons (ev_v 5) va_nil))
    · obtain ⟨p, hp2, rfl⟩ := List.mem_map.mp hx
      exact ⟨hi, hp p hp2⟩
end HF

/-! ## P20 -/
namespace HF
open PySem PySem.Spec PyProof.Rows L2 NdefX
/-! ### Audience -/
noncomputable def Tab.newL (t : Tab) (kind : Str) (i : Nat) : Int := t.newest (t.be (decide (kind = "long")) []) i
def pofM (al : Nat → Nat → Bool) (shown : List Nat) : Nat → List Nat → Nat → List Nat
  | 0, found, _ => found
  | f + 1, found, i => if i < found.length then pofM al shown f (found ++ shown.filter fun o => !decide (o ∈ found) && al (found.getD i 0) o) (i + 1) else found
def partOfM (al : Nat → Nat → Bool) (l : Nat) (shown : List Nat) : List Nat := pofM al shown (shown.length + 2) [l] 0
noncomputable def cutM (t : Tab) (kind : Str) (l : Nat) (shown : List Nat) : Int := maxI (((List.range t.n).filter fun x => !decide (x ∈ shown) && (partOfM (t.alL kind []) l shown).any fun o => t.alL kind [] x o).map (t.newL kind))
def minN (l : List Nat) : Nat := ((List.range 64).find? fun x => decide (x ∈ l)).getD 0
noncomputable def possM (t : Tab) (kind : Str) (shown : List Nat) : Bool :=
  !(shown.any fun l => ((List.range t.n).filter fun x => !decide (x ∈ shown)).any fun x => t.be (decide (kind = "long")) [] l x) && shown.all fun l => decide (cutM t kind l shown < ((t.before (minN (partOfM (t.alL kind []) l shown)) : Nat) : Int))
def allSets (n mark : Nat) : List (List Nat) := ((List.range n).drop (mark + 1)).foldl (fun f x => f ++ f.map (· ++ [x])) [[mark]]
noncomputable def setsM (t : Tab) (kind : Str) (mark : Nat) : List (List Nat) := (allSets t.n mark).filter (possM t kind)
noncomputable def peopleM (t : Tab) (kind : Str) (shown : List Nat) : List Nat := (List.range t.folk).filter fun p => (t.has (decide (kind = "long")) p).any fun l => decide (l ∈ shown)
def encTs (l : List (List Nat)) : List D := l.map fun s => .tup (s.map nD)
theorem minN_eq {l : List Nat} {m : Int} (hb : ∀ x ∈ l, x < 64) (h : m ∈ l.map fun x : Nat => (x : Int)) (g : ∀ y ∈ l.map (fun x : Nat => (x : Int)), m ≤ y) : m = ((minN l : Nat) : Int) := by
  obtain ⟨x, hx, rfl⟩ := List.mem_map.mp h
  have hx64 := hb x hx
  unfold minN
  cases e : (List.range 64).find? fun x => decide (x ∈ l) with
  | none =>
    have := List.find?_eq_none.mp e x (List.mem_range.mpr hx64)
    exact absurd (decide_eq_true hx) this
  | some y =>
    have hy : y ∈ l := by have := List.find?_some e; exact of_decide_eq_true this
    have h1 : (x : Int) ≤ y := g _ (List.mem_map.mpr ⟨y, hy, rfl⟩)
    obtain ⟨_, as, bs, eq, hno⟩ := List.find?_eq_some_iff_append.mp e
    have h2 : y ≤ x := by
      rcases Nat.lt_or_ge x y with z | z
      · exfalso
        have hxr : x ∈ List.range 64 := List.mem_range.mpr hx64
        rw [eq] at hxr
        rcases List.mem_append.mp hxr with q | q
        · have := hno x q
          rw [decide_eq_true hx] at this
          cases this
        · have pw := List.pairwise_lt_range (n := 64)
          rw [eq] at pw
          rcases List.mem_cons.mp q with q | q
          · omega
          · have := (List.pairwise_cons.mp (List.pairwise_append.mp pw).2.1).1 x q
            omega
      · exact z
    show (x : Int) = ((some y).getD 0 : Nat)
    have : x = y := by omega
    rw [this]; rfl
theorem pofM_ok {al : Nat → Nat → Bool} {shown : List Nat} (ns : shown.Nodup) : ∀ (f : Nat) {found : List Nat} {i : Nat}, found.Nodup → (∃ S : List Nat, (∀ x ∈ found, x ∈ S) ∧ (∀ x ∈ shown, x ∈ S) ∧ True) → (pofM al shown f found i).Nodup ∧ (∀ x ∈ pofM al shown f found i, x ∈ found ∨ x ∈ shown) ∧ ∀ x ∈ found, x ∈ pofM al shown f found i
  | 0, found, i, h, _ => ⟨h, fun x hx => .inl hx, fun x hx => hx⟩
  | f + 1, found, i, h, hs => by
    unfold pofM
    split
    · have h2 : (found ++ shown.filter fun o => !decide (o ∈ found) && al (found.getD i 0) o).Nodup := List.nodup_append.mpr ⟨h, ns.sublist List.filter_sublist, fun a ha b hb e => by
        have := (List.mem_filter.mp hb).2
        rw [Bool.and_eq_true] at this
        exact nd_true this.1 (e ▸ ha)⟩
      obtain ⟨S, s1, s2, _⟩ := hs
      obtain ⟨a, b, c⟩ := pofM_ok (al := al) ns f (i := i + 1) h2 ⟨S, fun x hx => by
        rcases List.mem_append.mp hx with z | z
        · exact s1 x z
        · exact s2 x (List.mem_filter.mp z).1, s2, trivial⟩
      refine ⟨a, fun x hx => ?_, fun x hx => c x (List.mem_append_left _ hx)⟩
      rcases b x hx with z | z
      · rcases List.mem_append.mp z with z | z
        · exact .inl z
        · exact .inr (List.mem_filter.mp z).1
      · exact .inr z
    · exact ⟨h, fun x hx => .inl hx, fun x hx => hx⟩
theorem partOfM_ok {al : Nat → Nat → Bool} {shown : List Nat} (ns : shown.Nodup) (l : Nat) : (partOfM al l shown).Nodup ∧ (∀ x ∈ partOfM al l shown, x = l ∨ x ∈ shown) ∧ l ∈ partOfM al l shown := by
  obtain ⟨a, b, c⟩ := pofM_ok (al := al) ns (shown.length + 2) (found := [l]) (i := 0) (List.nodup_cons.mpr ⟨List.not_mem_nil, List.nodup_nil⟩) ⟨l :: shown, fun x hx => by rw [List.mem_singleton.mp hx]; exact List.mem_cons_self, fun x hx => List.mem_cons_of_mem _ hx, trivial⟩
  exact ⟨a, fun x hx => (b x hx).imp (fun z => List.mem_singleton.mp z) id, c l List.mem_cons_self⟩
noncomputable def aFs (t : Tab) (kind : Str) (mark k : Nat) : List (Str × D) := [("own_bonds", .pr (k + 1)), ("own_people", nD t.folk), ("own_mark", nD mark), ("own_newest", .lst ((List.range t.n).map fun i => .int (t.newL kind i))), ("own_before", .lst ((List.range t.n).map fun i => nD (t.before i)))]
structure AAt (C CB : Addr) (t : Tab) (kind : Str) (mark k : Nat) (μ : Sto) : Prop where
  own : IsI μ (.pr k) C (aFs t kind mark k)
  bonds : ∃ A B, BAt CB t kind (k + 1) A B (t.run (decide (kind = "long"))).hs μ ∧ Knows t (decide (kind = "long")) [] A B
  ok : t.Ok
  mark : mark < t.n
theorem AAt.post {C CB : Addr} {t : Tab} {kind : Str} {mark k : Nat} {μ : Sto} (h : AAt C CB t kind mark k μ) (ext : Sto) : AAt C CB t kind mark k (μ ++ ext) := by
  obtain ⟨j, e, g⟩ := h.own
  obtain ⟨A, B, b, kn⟩ := h.bonds
  exact ⟨⟨j, e, get_pre g⟩, ⟨A, B, b.post ext, kn⟩, h.ok, h.mark⟩
variable {P : Program} {w : World} {K : PySem.W.Frag} {mg : Str → Option Value} {base : Heap}
def spNumbers (C CB : Addr) : ASp := fun ds μ R => ∃ t kind k fs kb A B hs, ds = [.pr k] ∧ IsI μ (.pr k) C fs ∧ fs.lookup ("own_bonds" : Str) = some (.pr kb) ∧ BAt CB t kind kb A B hs μ ∧ t.Ok ∧ R (.lst ((List.range t.n).map nD)) μ
theorem ok_aNumbers (G : Facts K mg) : AOk P w K mg base 2 G.aNumbers.f G.aNumbers.fd ["self"] (spNumbers G.CAudience G.CBonds) := by
  refine fnA G.aNumbers.F sc_aNumbers (fun ds μ R h => ?_) fun cdv Ar outer s H E ds μ R hr h => ?_
  · obtain ⟨t, kind, k, fs, kb, A, B, hs, rfl, _⟩ := h
    rfl
  · obtain ⟨t, kind, k, fs, kb, A, B, hs, rfl, hi, hl, b, ok, q⟩ := h
    have := ok.n30
    exact aSs_one (aS_ret (aE_listRg (c := false) (n := t.n) (aE_met0 G.bMany G.clsBonds (ok_bMany G) (hr.mono (by decide)) (aE_ev (ev_fld (d := .pr kb) G.clsAudience G.naA_own_bonds (ev_v 0) hi hl) ⟨_, b.ins, rfl, ⟨t, kind, kb, A, B, hs, rfl, b, rfl, rfl⟩⟩)) (by omega) (endR q) G.n_list G.n_range))
def spAInit (C CB : Addr) : ASp := fun ds μ R => ∃ t kind pre k, ∃ mark : Nat, ds = [.pr k, Tab.enc t, .str kind, nD mark] ∧ pre.length = k ∧ μ = pre ++ [.ins C []] ∧ t.Ok ∧ mark < t.n ∧
  ∀ cs, AAt C CB t kind mark k (pre ++ cs) → R .non (pre ++ cs)
theorem ok_aInit (G : Facts K mg) : AOk P w K mg base 7 G.aInit.f G.aInit.fd ["self", "timetable", "kind", "mark"] (spAInit G.CAudience G.CBonds) := by
  refine fnA G.aInit.F sc_aInit (fun ds μ R h => ?_) fun cdv Ar outer s H E ds μ R hr h => ?_
  · obtain ⟨t, kind, pre, k, mark, rfl, _⟩ := h
    rfl
  · obtain ⟨t, kind, pre, k, mark, rfl, hk, rfl, ok, hm, fin⟩ := h
    have nd := sc_aInit.nd
    have hn := ok.n30
    have ln : ∀ c : Cell, (pre ++ [c]).length = k + 1 := fun c => by rw [List.length_append, hk]; rfl
    refine aSs_cons (aS_fldK k G.clsAudience G.naA_own_bonds (aE_bonds G (hr.mono (by decide)) (ev_v 1) (ev_v 2) ok fun A B fl kn hcl => ⟨ev_v 0, _, by rw [List.append_assoc]; exact get0 hk, by show 0 < 1000; decide, ?_⟩))
    rw [ln, List.append_assoc]
    generalize hbc : bc G.CBonds t kind (k + 1) A B (t.run (decide (kind = "long"))).hs fl = N
    show aSs _ _ _ ((pre ++ _ :: N).set k _) _
    rw [set0 hk]
    have bb : ∀ c : Cell, BAt G.CBonds t kind (k + 1) A B (t.run (decide (kind = "long"))).hs (pre ++ c :: N) := fun c => ⟨pre ++ [c], fl, [], ln c, by rw [hbc, List.append_nil, List.append_assoc]; rfl⟩
    refine aSs_cons (aS_fldK k G.clsAudience G.naA_own_people (aE_ev (ev_t (i := 0) (ev_v 1)) ⟨ev_v 0, _, get0 hk, by show 1 < 1000; decide, ?_⟩))
    rw [set0 hk]
    refine aSs_cons (aS_fldK k G.clsAudience G.naA_own_mark (aE_ev (ev_v 3) ⟨ev_v 0, _, get0 hk, by show 2 < 1000; decide, ?_⟩))
    rw [set0 hk]
    have hnew : ∀ i, t.newest (fun a b => decide ((a, b) ∈ B)) i = t.newL kind i := fun i => by
      unfold Tab.newL
      congr 1
      funext a b
      exact kn.be a b
    refine aSs_cons (aS_fldK k G.clsAudience G.naA_own_newest (aE_lc (c := false) (own := [("number", 4)]) (lcm (L := List.range t.n) (enc := nD) (g := fun i => .int (t.newL kind i)) (env := fun i => [some (.pr k), some (Tab.enc t), some (.str kind), some (nD mark), some (nD i)]) ?_ ?_ ?_ ?_ ⟨ev_v 0, _, get0 hk, by show 3 < 1000; decide, ?_⟩) (blkOk_by (by kernel_rfl)) nd))
    · exact vi_list (aE_met0 G.aNumbers G.clsAudience (ok_aNumbers G) (hr.mono (by decide)) (aE_ev (ev_v 0) ⟨_, ⟨k, rfl, get0 hk⟩, rfl, ⟨t, kind, k, _, k + 1, A, B, _, rfl, ⟨k, rfl, get0 hk⟩, rfl, bb _, ok, rfl, rfl⟩⟩))
    · rw [List.length_range]; exact small1000 (by omega)
    · intro i _ s H C cl fp
      exact aGc_name (i := 4) ⟨rfl, rfl⟩ nd
    · intro i _ s H C cl fp
      exact aE_met G.bNewest G.clsBonds (ok_bNewest G) (hr.mono (by decide)) (aE_ev (ev_fld (d := .pr (k + 1)) G.clsAudience G.naA_own_bonds (ev_v 0) ⟨k, rfl, get0 hk⟩ rfl) ⟨_, (bb _).ins, rfl, aA_ev (va_cons (ev_v 4) va_nil) ⟨t, kind, _, A, B, _, i, rfl, bb _, ok, by rw [hnew], rfl⟩⟩)
    rw [set0 hk]
    refine aSs_one (aS_fldK k G.clsAudience G.naA_own_before (aE_lc (c := false) (own := [("number", 4)]) (lcm (L := List.range t.n) (enc := nD) (g := fun i => nD (t.before i)) (env := fun i => [some (.pr k), some (Tab.enc t), some (.str kind), some (nD mark), some (nD i)]) ?_ ?_ ?_ ?_ ⟨ev_v 0, _, get0 hk, by show 4 < 1000; decide, ?_⟩) (blkOk_by (by kernel_rfl)) nd))
    · exact vi_list (aE_met0 G.aNumbers G.clsAudience (ok_aNumbers G) (hr.mono (by decide)) (aE_ev (ev_v 0) ⟨_, ⟨k, rfl, get0 hk⟩, rfl, ⟨t, kind, k, _, k + 1, A, B, _, rfl, ⟨k, rfl, get0 hk⟩, rfl, bb _, ok, rfl, rfl⟩⟩))
    · rw [List.length_range]; exact small1000 (by omega)
    · intro i _ s H C cl fp
      exact aGc_name (i := 4) ⟨rfl, rfl⟩ nd
    · intro i hi s H C cl fp
      exact aE_met G.bBefore G.clsBonds (ok_bBefore G) (hr.mono (by decide)) (aE_ev (ev_fld (d := .pr (k + 1)) G.clsAudience G.naA_own_bonds (ev_v 0) ⟨k, rfl, get0 hk⟩ rfl) ⟨_, (bb _).ins, rfl, aA_ev (va_cons (ev_v 4) va_nil) ⟨t, kind, _, A, B, _, i, rfl, bb _, ok, List.mem_range.mp hi, rfl, rfl⟩⟩)
    rw [set0 hk]
    exact endN (fin (Cell.ins G.CAudience (aFs t kind mark k) :: N) ⟨⟨k, rfl, get0 hk⟩, ⟨A, B, bb _, kn⟩, ok, hm⟩)
def spPartOf (C CB : Addr) : ASp := fun ds μ R => ∃ t kind mark k, ∃ l : Nat, ∃ shown : List Nat, ds = [.pr k, nD l, .tup (shown.map nD)] ∧ AAt C CB t kind mark k μ ∧ shown.Nodup ∧ shown.length ≤ 100 ∧ l ∈ shown ∧ R (.lst ((partOfM (t.alL kind []) l shown).map nD)) μ
theorem ok_aPartOf (G : Facts K mg) : AOk P w K mg base 2 G.aPartOf.f G.aPartOf.fd ["self", "look", "shown"] (spPartOf G.CAudience G.CBonds) := by
  refine fnA G.aPartOf.F sc_aPartOf (fun ds μ R h => ?_) fun cdv Ar outer s H E ds μ R hr h => ?_
  · obtain ⟨t, kind, mark, k, l, shown, rfl, _⟩ := h
    rfl
  · obtain ⟨t, kind, mark, k, l, shown, rfl, b, ns, hl, hls, q⟩ := h
    have nd := sc_aPartOf.nd
    generalize hal : t.alL kind [] = al at q
    obtain ⟨A, B, bb, kn⟩ := b.bonds
    have hq' : ∃ fin, partOfM al l shown = fin := ⟨_, rfl⟩
    obtain ⟨fin, hfin⟩ := hq'
    rw [hfin] at q
    refine aSs_cons (aS_parC 3 4 (aE_lstC (aA_cons (aE_ev (ev_v 1) (aA_nil ⟨by show 1 ≤ sizeLine; decide, aE_ev ev_0 ?_⟩)))) nd)
    refine aSs_cons (aS_while (P := fun m ρ μ' => ∃ (found : List Nat) (i : Nat), ρ = [some (.pr k), some (nD l), some (.tup (shown.map nD)), some (.pr μ.length), some (nD i), none] ∧ μ' = μ ++ [.lst (found.map nD)] ∧ found.Nodup ∧ (∀ x ∈ found, x ∈ shown) ∧ i ≤ found.length ∧ shown.length + 2 ≤ m + i ∧ m ≤ shown.length + 2 ∧ pofM al shown m found i = fin)
      ⟨[l], 0, rfl, rfl, List.nodup_cons.mpr ⟨List.not_mem_nil, List.nodup_nil⟩, fun x hx => by rw [List.mem_singleton.mp hx]; exact hls, Nat.zero_le _, Nat.le_refl _, Nat.le_refl _, hfin⟩ fun m ρ' μ' ⟨found, i, h1, h2, ndF, sF, hi, hm, hm2, hp⟩ => ?_)
    subst h1 h2
    have hfl := nodup_len ndF sF
    refine aT_ev (tv_ltN (j := found.length) (ev_v 4) (ev_cast (ev_len G.n_len (ev_v 3) (.l (.p last_get))) (by rw [List.length_map]))) ?_
    cases m with
    | zero => omega
    | succ m =>
    by_cases hlt : i < found.length
    · rw [decide_eq_true hlt, if_pos rfl]
      have hgi : found[i]? = some (found.getD i 0) := by rw [List.getD_eq_getElem?_getD, List.getElem?_eq_getElem hlt]; rfl
      unfold pofM at hp
      rw [if_pos hlt] at hp
      have b2 := b.post [.lst (found.map nD)]
      have bb2 := bb.post [.lst (found.map nD)]
      generalize hmore : shown.filter (fun o => !decide (o ∈ found) && al (found.getD i 0) o) = more at hp
      have hnd2 : (found ++ more).Nodup := by
        rw [← hmore]
        exact List.nodup_append.mpr ⟨ndF, ns.sublist List.filter_sublist, fun a ha b hb e => by
          have := (List.mem_filter.mp hb).2
          rw [Bool.and_eq_true] at this
          exact nd_true this.1 (e ▸ ha)⟩
      have hs2 : ∀ x ∈ found ++ more, x ∈ shown := fun x hx => by
        rcases List.mem_append.mp hx with z | z
        · exact sF x z
        · rw [← hmore] at z; exact (List.mem_filter.mp z).1
      have hl2 := nodup_len hnd2 hs2
      refine aSs_cons (aS_expr (aE_lm PySem.F.plainAttrs_list PySem.F.slot_list_extend PySem.F.type_list_extend (aE_ev (ev_v 3) ⟨⟨_, .p last_get⟩, aA_ev (va_cons (aE_lc (c := false) (own := [("other", 5)]) (lcp (L := shown) (enc := nD) (pr := fun o => !decide (o ∈ found) && al (found.getD i 0) o) (g := nD) (env := fun o => [some (.pr k), some (nD l), some (.tup (shown.map nD)), some (.pr μ.length), some (nD i), some (nD o)]) ?_ ?_ ?_ ?_ ?_ ⟨rfl, rfl⟩) (blkOk_by (by kernel_rfl)) nd) va_nil) (amt_extend last_get .l ?_ ?_)⟩)))
      · exact vi_tup (ev_v 2)
      · exact small1000 (by omega)
      · intro o _ s H C cl fp
        exact aGc_name (i := 5) ⟨rfl, rfl⟩ nd
      · intro o _ s H C cl fp
        refine tvs_one (tv_and (tv_notInN (l := found) (ev_v 5) (ev_v 3) (.l (.p last_get))) fun _ => tv_val (aE_met G.bIsAlike G.clsBonds (ok_bIsAlike G) hr (aE_ev (ev_fld (d := .pr (k + 1)) G.clsAudience G.naA_own_bonds (ev_v 0) b2.own rfl) ⟨_, bb2.ins, rfl, aA_ev (va_cons (ev_ixN (i := i) (d := nD (found.getD i 0)) (ev_v 3) (ev_v 4) (.l (.p last_get)) (by rw [List.getElem?_map, hgi]; rfl)) (va_cons (ev_v 5) va_nil)) ⟨t, kind, _, A, B, _, found.getD i 0, o, rfl, bb2, ?_, rfl⟩⟩)))
        rw [kn.al, ← hal]
      · intro o _ _ s H C cl fp
        exact ev_v 5
      · rw [hmore, List.length_map, List.length_map, sizeLine_eq]
        rw [List.length_append] at hl2
        omega
      · rw [hmore, ← List.map_append, last_set]
        refine aSs_one (aS_aug (i := 4) (k := (i : Int)) rfl (aE_ev ev_int ⟨1, rfl, ?_⟩) nd)
        refine ⟨m, Nat.lt_succ_self _, found ++ more, i + 1, rfl, rfl, hnd2, hs2, by rw [List.length_append]; omega, by omega, by omega, hp⟩
    · rw [decide_eq_false hlt, if_neg Bool.false_ne_true]
      unfold pofM at hp
      rw [if_neg hlt] at hp
      refine aSs_one (aS_ret (aE_ev (ev_v 3) ⟨_, _, Exit.list (Nat.le_refl _) last_get (cloL_map fun _ _ => clo_int), ?_⟩))
      rw [hp]; exact q
end HF

/-! ## P21 -/
namespace HF
open PySem PySem.Spec PyProof.Rows L2 NdefX
variable {P : Program} {w : World} {K : PySem.W.Frag} {mg : Str → Option Value} {base : Heap}
/-- self.numbers() of an Audience -/
theorem ev_numbers {X : Cx} {o : Expr} {ρ : AEnv} {μ : Sto} {pos apos : Pos} {t : Tab} {kind : Str} {mark k : Nat} {pl : Sem Bool} (G : Facts X.K X.mg) (hr : Room 2 X.A) (b : AAt G.CAudience G.CBonds t kind mark k μ) (ho : EV X o ρ μ (.pr k))
    (ht : eval (.Call (.Attribute o "numbers" apos) [] [] pos) X.env = (do
      let ov ← eval o X.env
      standAt apos.atName
      let (f, first) ← holding [ov] (getMethod ov "numbers" pl)
      callWith pos f first (backTo pos (starEach [] X.env)) (backToKw pos (keywordEach [] X.env))) := by rfl) : EV X (.Call (.Attribute o "numbers" apos) [] [] pos) ρ μ (.lst ((List.range t.n).map nD)) := by
  obtain ⟨A, B, bb, kn⟩ := b.bonds
  exact aE_met0 G.aNumbers G.clsAudience (ok_aNumbers G) hr (aE_ev ho ⟨_, b.own, rfl, ⟨t, kind, k, _, k + 1, A, B, _, rfl, b.own, rfl, bb, b.ok, rfl, rfl⟩⟩) ht
def spCut (C CB : Addr) : ASp := fun ds μ R => ∃ t kind mark k, ∃ l : Nat, ∃ shown : List Nat, ds = [.pr k, nD l, .tup (shown.map nD)] ∧ AAt C CB t kind mark k μ ∧ shown.Nodup ∧ shown.length ≤ 100 ∧ l ∈ shown ∧ R (.int (cutM t kind l shown)) μ
theorem ok_aCut (G : Facts K mg) : AOk P w K mg base 3 G.aCut.f G.aCut.fd ["self", "look", "shown"] (spCut G.CAudience G.CBonds) := by
  refine fnA G.aCut.F sc_aCut (fun ds μ R h => ?_) fun cdv Ar outer s H E ds μ R hr h => ?_
  · obtain ⟨t, kind, mark, k, l, shown, rfl, _⟩ := h
    rfl
  · obtain ⟨t, kind, mark, k, l, shown, rfl, b, ns, hl, hls, q⟩ := h
    have nd := sc_aCut.nd
    have hn := b.ok.n30
    obtain ⟨A, B, bb, kn⟩ := b.bonds
    have hpo := partOfM_ok (al := t.alL kind []) ns l
    have hpl : (partOfM (t.alL kind []) l shown).length ≤ 101 := by
      have := nodup_len hpo.1 (m := l :: shown) fun x hx => (hpo.2.1 x hx).elim (fun z => z ▸ List.mem_cons_self) fun z => List.mem_cons_of_mem _ z
      rw [List.length_cons] at this
      omega
    generalize hpart : partOfM (t.alL kind []) l shown = part at hpl
    refine aSs_cons (aS_par (i := 3) (j := 4) (aE_met G.aPartOf G.clsAudience (ok_aPartOf G) hr (aE_ev (ev_v 0) ⟨_, b.own, rfl, aA_ev (va_cons (ev_v 1) (va_cons (ev_v 2) va_nil)) ⟨t, kind, mark, k, l, shown, rfl, b, ns, hl, hls, aE_lstC (aA_cons (aE_ev (ev_neg ev_int) (aA_nil ⟨by show 1 ≤ sizeLine; decide, ?_⟩)))⟩⟩)) nd)
    rw [hpart]
    refine aSs_cons (aS_forL (L := List.range t.n) (enc := nD) (wi_list (ev_numbers (kind := kind) (mark := mark) G hr (b.post _) (ev_v 0)))
      (fun L ρ μ' => ∃ o5, ρ = [some (.pr k), some (nD l), some (.tup (shown.map nD)), some (.lst (part.map nD)), some (.pr μ.length), o5, none] ∧ μ' = μ ++ [.lst (((-1 : Int) :: (L.filter fun x => !decide (x ∈ shown) && part.any fun o => t.alL kind [] x o).map (t.newL kind)).map D.int)] ∧ L.length ≤ 100) ⟨none, rfl, rfl, Nat.zero_le _⟩ (fun L x rest ρ' μ' hL ⟨o5, h1, h2, h3⟩ => ?_) (fun ρ' μ' ⟨o5, h1, h2, h3⟩ => ?_))
    · subst h1 h2
      have hLl : L.length + 1 ≤ 100 := by
        have := congrArg List.length hL
        rw [List.length_range, List.length_append, List.length_cons] at this
        omega
      have hx : x < t.n := List.mem_range.mp (by rw [hL]; simp)
      have b2 := b.post [.lst (((-1 : Int) :: (L.filter fun x => !decide (x ∈ shown) && part.any fun o => t.alL kind [] x o).map (t.newL kind)).map D.int)]
      have bb2 := bb.post [.lst (((-1 : Int) :: (L.filter fun x => !decide (x ∈ shown) && part.any fun o => t.alL kind [] x o).map (t.newL kind)).map D.int)]
      refine aG_name (i := 5) ?_ nd
      refine aSs_one (aS_if (aT_ev (tv_and (k := !decide (x ∈ shown)) (k' := part.any fun o => t.alL kind [] x o) (tv_notInN (ev_v 5) (ev_v 2) .t) fun _ => tv_val (ev_any (L := part) (q := fun o => t.alL kind [] x o) G.n_any (aE_lc (c := false) (own := [("one", 6)]) (lcm (L := part) (enc := nD) (g := fun o => .bl (t.alL kind [] x o)) (env := fun o => [some (.pr k), some (nD l), some (.tup (shown.map nD)), some (.lst (part.map nD)), some (.pr μ.length), some (nD x), some (nD o)]) ?_ ?_ ?_ ?_ ⟨rfl, rfl⟩) (blkOk_by (by kernel_rfl)) nd))) ?_))
      · exact vi_list (ev_v 3)
      · exact small1000 (by omega)
      · intro o _ s H C cl fp
        exact aGc_name (i := 6) ⟨rfl, rfl⟩ nd
      · intro o _ s H C cl fp
        refine aE_met G.bIsAlike G.clsBonds (ok_bIsAlike G) (hr.mono (by decide)) (aE_ev (ev_fld (d := .pr (k + 1)) G.clsAudience G.naA_own_bonds (ev_v 0) b2.own rfl) ⟨_, bb2.ins, rfl, aA_ev (va_cons (ev_v 5) (va_cons (ev_v 6) va_nil)) ⟨t, kind, _, A, B, _, x, o, rfl, bb2, ?_, rfl⟩⟩)
        rw [kn.al]
      · by_cases hc : (!decide (x ∈ shown) && part.any fun o => t.alL kind [] x o) = true
        · rw [if_pos hc]
          refine aSs_one (aS_expr (aE_append (ev_v 4) last_get (aE_ev (ev_ixN (i := x) (d := .int (t.newL kind x)) (ev_fld (d := .lst ((List.range t.n).map fun i => .int (t.newL kind i))) G.clsAudience G.naA_own_newest (ev_v 0) b2.own rfl) (ev_v 5) isl (by rw [List.getElem?_map, List.getElem?_range hx]; rfl)) ⟨_, last_get, ?_, ?_⟩)))
          · have := List.length_filter_le (fun x => !decide (x ∈ shown) && part.any fun o => t.alL kind [] x o) L
            rw [List.length_map, List.length_cons, List.length_map, sizeLine_eq]
            omega
          · rw [last_set]
            refine ⟨_, rfl, ?_, by rw [List.length_append]; exact hLl⟩
            rw [List.filter_append, List.map_append]
            simp only [List.filter_cons, hc, if_true, List.filter_nil, List.map_cons, List.map_nil, List.map_append, List.cons_append]
        · rw [if_neg hc]
          refine aSs_nil ⟨_, rfl, ?_, by rw [List.length_append]; exact hLl⟩
          have hcf : (!decide (x ∈ shown) && part.any fun o => t.alL kind [] x o) = false := by
            cases h : (!decide (x ∈ shown) && part.any fun o => t.alL kind [] x o) with
            | true => exact absurd h hc
            | false => rfl
          rw [List.filter_append, List.filter_cons, hcf, if_neg Bool.false_ne_true, List.filter_nil, List.append_nil]
    · subst h1 h2
      refine aSs_one (aS_ret (aE_callB (id := "max") (aA_cons (aE_ev (ev_v 4) (aA_nil (acall_max (.p last_get) (by simp) fun m hm hg => ?_)))) G.n_max rfl))
      have : cutM t kind l shown = m := by
        unfold cutM
        rw [hpart]
        exact (maxI_eq hm hg).symm
      rw [this] at q
      exact ⟨_, _, Exit.drop clo_int, q⟩
def spPoss (C CB : Addr) : ASp := fun ds μ R => ∃ t kind mark k, ∃ shown : List Nat, ds = [.pr k, .tup (shown.map nD)] ∧ AAt C CB t kind mark k μ ∧ shown.Nodup ∧ shown.length ≤ 50 ∧ (∀ x ∈ shown, x < t.n) ∧ R (.bl (possM t kind shown)) μ
theorem ok_aIsPossible (G : Facts K mg) : AOk P w K mg base 4 G.aIsPossible.f G.aIsPossible.fd ["self", "shown"] (spPoss G.CAudience G.CBonds) := by
  refine fnA G.aIsPossible.F sc_aIsPossible (fun ds μ R h => ?_) fun cdv Ar outer s H E ds μ R hr h => ?_
  · obtain ⟨t, kind, mark, k, shown, rfl, _⟩ := h
    rfl
  · obtain ⟨t, kind, mark, k, shown, rfl, b, ns, hl, hst, q⟩ := h
    have nd := sc_aIsPossible.nd
    have hn := b.ok.n30
    obtain ⟨A, B, bb, kn⟩ := b.bonds
    refine aSs_cons (aS_set (i := 2) (aE_lc (c := false) (own := [("number", 3)]) (lcp (L := List.range t.n) (enc := nD) (pr := fun x => !decide (x ∈ shown)) (g := nD) (env := fun x => [some (.pr k), some (.tup (shown.map nD)), none, some (nD x), none]) ?_ ?_ ?_ ?_ ?_ ?_) (blkOk_by (by kernel_rfl)) nd) nd)
    · exact vi_list (ev_numbers (kind := kind) (mark := mark) G (hr.mono (by decide)) b (ev_v 0))
    · rw [List.length_range]; exact small1000 (by omega)
    · intro o _ s H C cl fp
      exact aGc_name (i := 3) ⟨rfl, rfl⟩ nd
    · intro o _ s H C cl fp
      exact tvs_one (tv_notInN (ev_v 3) (ev_v 1) .t)
    · intro o _ _ s H C cl fp
      exact ev_v 3
    · generalize hrest : (List.range t.n).filter (fun x => !decide (x ∈ shown)) = rest
      have hrl : rest.length ≤ 30 := by
        rw [← hrest]
        have := List.length_filter_le (fun x => !decide (x ∈ shown)) (List.range t.n)
        rw [List.length_range] at this
        omega
      unfold possM at q
      rw [hrest] at q
      refine aSs_cons (aS_if (aT_val (aE_callB (id := "any") (aA_cons (aE_lc2 (c := false) (own := [("look", 4), ("number", 3)]) (vs1 := [3]) (lc2s (L := shown) (M := rest) (enc := nD) (enc1 := nD) (wi_tup (ev_v 1)) ?_
        (fun L acc μ' => μ' = μ ∧ acc = (L.flatMap fun l => rest.map fun x => t.be (decide (kind = "long")) [] l x).map D.bl) ⟨rfl, rfl⟩
        (fun L l L1 acc μ' => μ' = μ ∧ acc = ((L.flatMap fun l => rest.map fun x => t.be (decide (kind = "long")) [] l x) ++ L1.map fun x => t.be (decide (kind = "long")) [] l x).map D.bl)
        (fun L l post acc μ' hL ⟨h1, h2⟩ => ?_) (fun acc μ' ⟨h1, h2⟩ => ?_)) (blkOk_by (by kernel_rfl)) (by decide) nd)) G.n_any rfl)))
      · have : shown.length * rest.length ≤ 50 * 30 := Nat.mul_le_mul hl hrl
        rw [sizeLine_eq]; omega
      · subst h1 h2
        intro s H C cl fp
        refine aGc_name (i := 4) ?_ nd
        intro s H C cl fp
        refine ⟨wi_list (ev_v 2), ⟨rfl, by rw [List.map_nil, List.append_nil]⟩, fun L1 x post1 acc1 μ5 hM ⟨h1, h2⟩ => ?_, fun acc1 μ5 ⟨h1, h2⟩ => ⟨h1, by rw [h2, List.flatMap_append]; simp⟩⟩
        subst h1 h2
        intro s H C cl fp
        refine aGc_name (i := 3) ?_ nd
        intro s H C cl fp
        refine aTs_nil ?_
        rw [if_pos rfl]
        intro s H C cl fp
        refine aE_met G.bIsBelow G.clsBonds (ok_bIsBelow G) (hr.mono (by decide)) (aE_ev (ev_fld (d := .pr (k + 1)) G.clsAudience G.naA_own_bonds (ev_v 0) b.own rfl) ⟨_, bb.ins, rfl, aA_ev (va_cons (ev_v 4) (va_cons (ev_v 3) va_nil)) ⟨t, kind, _, A, B, _, l, x, rfl, bb, rfl, ?_⟩⟩)
        rw [kn.be]
        simp only [List.map_append, List.map_cons, List.map_nil, List.append_assoc]
      · subst h1 h2
        refine aA_nil (acall_any (L := shown.flatMap fun l => rest.map fun x => t.be (decide (kind = "long")) [] l x) (p := id) .l ⟨_, rfl, ?_⟩)
        have hany : (shown.flatMap fun l => rest.map fun x => t.be (decide (kind = "long")) [] l x).any id = shown.any fun l => rest.any fun x => t.be (decide (kind = "long")) [] l x := by
          rw [List.any_flatMap]
          congr 1
          funext l
          rw [List.any_map]
          rfl
        rw [hany]
        cases hb : shown.any (fun l => rest.any fun x => t.be (decide (kind = "long")) [] l x) with
        | true =>
          rw [hb] at q
          rw [if_pos rfl]
          exact aSs_one (aS_ret (aE_ev ev_bl (endR q)))
        | false =>
          rw [hb] at q
          rw [if_neg Bool.false_ne_true]
          refine aSs_nil (aSs_one (aS_ret (aE_ev (ev_all (L := shown) (q := fun l => decide (cutM t kind l shown < ((t.before (minN (partOfM (t.alL kind []) l shown)) : Nat) : Int))) G.n_all (aE_lc (c := false) (own := [("look", 4)]) (lcm (L := shown) (enc := nD) (g := fun l => .bl (decide (cutM t kind l shown < ((t.before (minN (partOfM (t.alL kind []) l shown)) : Nat) : Int)))) (env := fun l => [some (.pr k), some (.tup (shown.map nD)), some (.lst (rest.map nD)), none, some (nD l)]) ?_ ?_ ?_ ?_ ⟨rfl, rfl⟩) (blkOk_by (by kernel_rfl)) nd)) (endR q))))
          · exact vi_tup (ev_v 1)
          · exact small1000 (by omega)
          · intro l _ s H C cl fp
            exact aGc_name (i := 4) ⟨rfl, rfl⟩ nd
          · intro l hlm s H C cl fp
            have hpo := partOfM_ok (al := t.alL kind []) ns l
            have hpt : ∀ x ∈ partOfM (t.alL kind []) l shown, x < t.n := fun x hx => (hpo.2.1 x hx).elim (fun z => z ▸ hst l hlm) fun z => hst x z
            refine ev_lt (aE_met G.aCut G.clsAudience (ok_aCut G) hr (aE_ev (ev_v 0) ⟨_, b.own, rfl, aA_ev (va_cons (ev_v 4) (va_cons (ev_v 1) va_nil)) ⟨t, kind, mark, k, l, shown, rfl, b, ns, by omega, hlm, rfl, rfl⟩⟩)) ?_
            refine aE_ix (aE_ev (ev_fld (d := .lst ((List.range t.n).map fun i => nD (t.before i))) G.clsAudience G.naA_own_before (ev_v 0) b.own rfl) (aE_callB (id := "min") (aA_cons (aE_met G.aPartOf G.clsAudience (ok_aPartOf G) (hr.mono (by decide)) (aE_ev (ev_v 0) ⟨_, b.own, rfl, aA_ev (va_cons (ev_v 4) (va_cons (ev_v 1) va_nil)) ⟨t, kind, mark, k, l, shown, rfl, b, ns, by omega, hlm, aA_nil (acall_min (ns := (partOfM (t.alL kind []) l shown).map fun x : Nat => (x : Int)) (by rw [← nD_map]; exact .l) (by rw [List.length_map]; exact List.length_pos_of_mem hpo.2.2) fun m hm hg => ?_)⟩⟩))) G.n_min rfl))
            have hme := minN_eq (fun x hx => by have := hpt x hx; omega) hm hg
            have hmm : minN (partOfM (t.alL kind []) l shown) < t.n := by
              obtain ⟨y, hy, e⟩ := List.mem_map.mp hm
              have : y = minN (partOfM (t.alL kind []) l shown) := Int.ofNat_inj.mp (e.trans hme)
              rw [← this]
              exact hpt y hy
            rw [hme]
            exact aix isl (atI_nat (by rw [List.getElem?_map, List.getElem?_range hmm]; rfl)) ⟨rfl, rfl⟩
def spPeople (C CB : Addr) : ASp := fun ds μ R => ∃ t kind mark k, ∃ shown : List Nat, ds = [.pr k, .tup (shown.map nD)] ∧ AAt C CB t kind mark k μ ∧ R (.tup ((peopleM t kind shown).map nD)) μ
theorem ok_aPeople (G : Facts K mg) : AOk P w K mg base 2 G.aPeople.f G.aPeople.fd ["self", "shown"] (spPeople G.CAudience G.CBonds) := by
  refine fnA G.aPeople.F sc_aPeople (fun ds μ R h => ?_) fun cdv Ar outer s H E ds μ R hr h => ?_
  · obtain ⟨t, kind, mark, k, shown, rfl, _⟩ := h
    rfl
  · obtain ⟨t, kind, mark, k, shown, rfl, b, q⟩ := h
    have nd := sc_aPeople.nd
    have hf := b.ok.folk
    obtain ⟨A, B, bb, kn⟩ := b.bonds
    refine aSs_cons (aS_set (i := 2) (aE_listRg (c := false) (n := t.folk) (ev_fld (d := nD t.folk) G.clsAudience G.naA_own_people (ev_v 0) b.own rfl) (by omega) ?_ G.n_list G.n_range) nd)
    rw [rangeD_nD]
    show aSs _ _ _ _ _
    refine aSs_one (aS_ret (aE_ev (ev_tuple (xs := (peopleM t kind shown).map nD) G.n_tuple (aE_lc (c := false) (own := [("person", 3)]) (lcp (L := List.range t.folk) (enc := nD) (pr := fun p => (t.has (decide (kind = "long")) p).any fun l => decide (l ∈ shown)) (g := nD) (env := fun p => [some (.pr k), some (.tup (shown.map nD)), some (.lst ((List.range t.folk).map nD)), some (nD p), none]) ?_ ?_ ?_ ?_ ?_ ⟨rfl, rfl⟩) (blkOk_by (by kernel_rfl)) nd) .l) (endR q)))
    · exact vi_list (ev_v 2)
    · rw [List.length_range]; exact small1000 (by omega)
    · intro p _ s H C cl fp
      exact aGc_name (i := 3) ⟨rfl, rfl⟩ nd
    · intro p hp s H C cl fp
      refine tvs_one (tv_val (ev_any (L := t.has (decide (kind = "long")) p) (q := fun l => decide (l ∈ shown)) G.n_any (aE_lc (c := false) (own := [("look", 4)]) (lcm (L := t.has (decide (kind = "long")) p) (enc := nD) (g := fun l => .bl (decide (l ∈ shown))) (env := fun l => [some (.pr k), some (.tup (shown.map nD)), some (.lst ((List.range t.folk).map nD)), some (nD p), some (nD l)]) ?_ ?_ ?_ ?_ ⟨rfl, rfl⟩) (blkOk_by (by kernel_rfl)) nd)))
      · exact vi_list (aE_met G.bHas G.clsBonds (ok_bHas G) (hr.mono (by decide)) (aE_ev (ev_fld (d := .pr (k + 1)) G.clsAudience G.naA_own_bonds (ev_v 0) b.own rfl) ⟨_, bb.ins, rfl, aA_ev (va_cons (ev_v 3) va_nil) ⟨t, kind, _, A, B, _, p, rfl, bb, by rw [run_folk]; exact List.mem_range.mp hp, rfl, rfl⟩⟩))
      · exact small1000 (by have := has_len (long := decide (kind = "long")) b.ok p; omega)
      · intro l _ s H C cl fp
        exact aGc_name (i := 4) ⟨rfl, rfl⟩ nd
      · intro l _ s H C cl fp
        exact ev_inN (ev_v 4) (ev_v 1) .t
    · intro p _ _ s H C cl fp
      exact ev_v 3
end HF

/-! ## P22 -/
namespace HF
open PySem PySem.Spec PyProof.Rows L2 NdefX
variable {P : Program} {w : World} {K : PySem.W.Frag} {mg : Str → Option Value} {base : Heap}
def encS (s : List Nat) : D := .tup (s.map nD)
def stepA (f : List (List Nat)) (x : Nat) : List (List Nat) := f ++ f.map (· ++ [x])
theorem allSets_eq (n mark : Nat) : allSets n mark = ((List.range n).drop (mark + 1)).foldl stepA [[mark]] := rfl
theorem revInd {τ : Type} {p : List τ → Prop} (h0 : p []) (hs : ∀ L x, p L → p (L ++ [x])) (L : List τ) : p L := by
  have h : ∀ M : List τ, p M.reverse := fun M => by
    induction M with
    | nil => exact h0
    | cons x M ih => rw [List.reverse_cons]; exact hs _ _ ih
  have := h L.reverse
  rwa [List.reverse_reverse] at this
theorem mem_snoc' {m x y : Nat} {L : List Nat} (h : y ∈ m :: L) : y ∈ m :: (L ++ [x]) := (List.mem_cons.mp h).elim (fun e => e ▸ List.mem_cons_self) fun e => List.mem_cons_of_mem _ (List.mem_append_left _ e)
theorem drop_range {n k i y : Nat} (h : ((List.range n).drop k)[i]? = some y) : y = k + i ∧ y < n := by
  rw [List.getElem?_drop] at h
  obtain ⟨hi, e⟩ := List.getElem?_eq_some_iff.mp h
  rw [List.length_range] at hi
  rw [List.getElem_range] at e
  omega
theorem stepA_ok {mark : Nat} (L : List Nat) : (mark :: L).Nodup → ∀ s ∈ L.foldl stepA [[mark]], s ≠ [] ∧ s.Nodup ∧ (∀ x ∈ s, x ∈ mark :: L) ∧ mark ∈ s := by
  refine revInd (p := fun L => (mark :: L).Nodup → ∀ s ∈ L.foldl stepA [[mark]], s ≠ [] ∧ s.Nodup ∧ (∀ x ∈ s, x ∈ mark :: L) ∧ mark ∈ s) ?_ ?_ L
  · intro _ s hs; rw [List.mem_singleton.mp hs]; exact ⟨by simp, List.nodup_cons.mpr ⟨List.not_mem_nil, List.nodup_nil⟩, fun x hx => hx, List.mem_cons_self⟩
  · intro L x ih nd s hs
    have nd' : (mark :: L).Nodup := nd.sublist (by simp)
    have hx : x ∉ mark :: L := fun h => by
      rw [← List.cons_append] at nd
      exact (List.nodup_append.mp nd).2.2 x h x List.mem_cons_self rfl
    rw [List.foldl_append, List.foldl_cons, List.foldl_nil] at hs
    rcases List.mem_append.mp hs with z | z
    · obtain ⟨a, b, c, d⟩ := ih nd' s z
      exact ⟨a, b, fun y hy => mem_snoc' (c y hy), d⟩
    · obtain ⟨s0, hs0, rfl⟩ := List.mem_map.mp z
      obtain ⟨a, b, c, d⟩ := ih nd' s0 hs0
      refine ⟨by simp, List.nodup_append.mpr ⟨b, List.nodup_cons.mpr ⟨List.not_mem_nil, List.nodup_nil⟩, fun y hy z hz e => hx ?_⟩, fun y hy => ?_, List.mem_append_left _ d⟩
      · rw [List.mem_singleton.mp hz] at e; exact e ▸ c y hy
      · rcases List.mem_append.mp hy with q | q
        · exact mem_snoc' (c y q)
        · rw [List.mem_singleton.mp q]; simp
theorem stepA_len {mark : Nat} (L : List Nat) : (L.foldl stepA [[mark]]).length = 2 ^ L.length := by
  refine revInd (p := fun L => (L.foldl stepA [[mark]]).length = 2 ^ L.length) rfl (fun L x ih => ?_) L
  rw [List.foldl_append, List.foldl_cons, List.foldl_nil]; unfold stepA at ih ⊢; rw [List.length_append, List.length_map, ih, List.length_append, List.length_singleton, Nat.pow_succ]; omega
theorem drop_nodup {n mark : Nat} (h : mark < n) : (mark :: (List.range n).drop (mark + 1)).Nodup := by
  refine List.nodup_cons.mpr ⟨fun hm => ?_, List.nodup_range.sublist (List.drop_sublist _ _)⟩
  obtain ⟨i, hi⟩ := List.getElem?_of_mem hm
  have := drop_range hi
  omega
theorem allSets_ok {n mark : Nat} (h : mark < n) : ∀ s ∈ allSets n mark, s ≠ [] ∧ s.Nodup ∧ (∀ x ∈ s, x < n) ∧ mark ∈ s := fun s hs => by
  obtain ⟨a, b, c, d⟩ := stepA_ok _ (drop_nodup h) s hs
  refine ⟨a, b, fun x hx => ?_, d⟩
  rcases List.mem_cons.mp (c x hx) with z | z
  · omega
  · exact List.mem_range.mp ((List.drop_sublist _ _).subset z)
theorem allSets_len {n mark : Nat} (h6 : n ≤ 6) : (allSets n mark).length ≤ 32 := by
  rw [allSets_eq, stepA_len, List.length_drop, List.length_range]
  exact Nat.le_trans (Nat.pow_le_pow_right (by decide) (by omega : n - (mark + 1) ≤ 5)) (by decide)
def spSets (C CB : Addr) : ASp := fun ds μ R => ∃ t kind mark k, ds = [.pr k] ∧ AAt C CB t kind mark k μ ∧ t.n ≤ 6 ∧ R (.lst ((setsM t kind mark).map encS)) μ
theorem ok_aSets (G : Facts K mg) : AOk P w K mg base 5 G.aSets.f G.aSets.fd ["self"] (spSets G.CAudience G.CBonds) := by
  refine fnA G.aSets.F sc_aSets (fun ds μ R h => ?_) fun cdv Ar outer s H E ds μ R hr h => ?_
  · obtain ⟨t, kind, mark, k, rfl, _⟩ := h
    rfl
  · obtain ⟨t, kind, mark, k, rfl, b, h6, q⟩ := h
    have nd := sc_aSets.nd
    have hmark := b.mark
    refine aSs_cons (aS_set (i := 1) (aE_ev (d := .lst (([[mark]] : List (List Nat)).map encS)) ?_ ?_) nd)
    · exact ev_lst (va_cons (ev_tup (va_cons (ev_fld (d := nD mark) G.clsAudience G.naA_own_mark (ev_v 0) b.own rfl) va_nil)) va_nil)
    refine aSs_cons (aS_forL (L := (List.range t.n).drop (mark + 1)) (enc := nD) (wi_list (ev_cast (ev_slN (lo := some (((mark + 1 : Nat)) : Int)) (hi := none) (ev_numbers (kind := kind) (mark := mark) G (hr.mono (by decide)) b (ev_v 0)) .l (ev_cast (ev_addN (i := mark) (j := 1) (ev_fld (d := nD mark) G.clsAudience G.naA_own_mark (ev_v 0) b.own rfl) ev_1) rfl) trivial) (by rw [cutD_from])))
      (fun L ρ μ' => ∃ o2, ρ = [some (.pr k), some (.lst ((L.foldl stepA [[mark]]).map encS)), o2, none] ∧ μ' = μ) ⟨none, rfl, rfl⟩ (fun L x rest ρ' μ' hL ⟨o2, h1, h2⟩ => ?_) (fun ρ' μ' ⟨o2, h1, h2⟩ => ?_))
    · subst h1 h2
      have hLl : L.length + 1 ≤ 6 := by
        have := congrArg List.length hL
        rw [List.length_drop, List.length_range, List.length_append, List.length_cons] at this
        omega
      have hLn : (mark :: L).Nodup := by
        have := drop_nodup hmark
        rw [hL] at this
        exact this.sublist (by simp)
      have hpow : (L.foldl stepA [[mark]]).length ≤ 32 := by
        rw [stepA_len]
        exact Nat.le_trans (Nat.pow_le_pow_right (by decide) (by omega : L.length ≤ 5)) (by decide)
      have hok := stepA_ok L hLn
      generalize hF : L.foldl stepA [[mark]] = F at hpow hok
      refine aG_name (i := 2) ?_ nd
      refine aSs_one (aS_set (i := 1) (aE_ev (ev_cat (ev_v 1) (aE_lc (c := false) (own := [("shown", 3)]) (lcm (L := F) (enc := encS) (g := fun s => encS (s ++ [x])) (env := fun s => [some (.pr k), some (.lst (F.map encS)), some (nD x), some (encS s)]) ?_ ?_ ?_ ?_ ⟨rfl, rfl⟩) (blkOk_by (by kernel_rfl)) nd) .l .l ?_) ?_) nd)
      · exact vi_list (ev_v 1)
      · exact small1000 (by omega)
      · intro o _ s H C cl fp
        exact aGc_name (i := 3) ⟨rfl, rfl⟩ nd
      · intro o ho s H C cl fp
        obtain ⟨ne, ndo, sub, _⟩ := hok o ho
        have hol := nodup_len ndo sub
        rw [List.length_cons] at hol
        refine ev_cast (ev_catT (xs := o.map nD) (ys := [nD x]) (ev_v 3) (ev_tup (va_cons (ev_v 2) va_nil)) (by simpa using ne) ?_) (by unfold encS; rw [List.map_append]; rfl)
        rw [List.length_map, List.length_singleton, sizeLine_eq]
        omega
      · rw [List.length_map, List.length_map, sizeLine_eq]
        omega
      · refine ⟨some (nD x), ?_, rfl⟩
        rw [List.foldl_append, hF, List.foldl_cons, List.foldl_nil]
        unfold stepA
        rw [List.map_append, List.map_map]
        rfl
    · subst h1 h2
      have hok := allSets_ok hmark
      have hlen := allSets_len (mark := mark) h6
      rw [← allSets_eq]
      refine aSs_one (aS_ret (aE_ev (aE_lc (c := false) (own := [("shown", 3)]) (lcp (L := allSets t.n mark) (enc := encS) (pr := possM t kind) (g := encS) (env := fun s => [some (.pr k), some (.lst ((allSets t.n mark).map encS)), o2, some (encS s)]) ?_ ?_ ?_ ?_ ?_ ⟨rfl, rfl⟩) (blkOk_by (by kernel_rfl)) nd) (endR q)))
      · exact vi_list (ev_v 1)
      · exact small1000 (by omega)
      · intro o _ s H C cl fp
        exact aGc_name (i := 3) ⟨rfl, rfl⟩ nd
      · intro o ho s H C cl fp
        obtain ⟨ne, ndo, sub, _⟩ := hok o ho
        have hol : o.length ≤ t.n := by
          have := nodup_len ndo (m := List.range t.n) fun x hx => List.mem_range.mpr (sub x hx)
          rw [List.length_range] at this
          exact this
        exact tvs_one (tv_val (aE_met G.aIsPossible G.clsAudience (ok_aIsPossible G) hr (aE_ev (ev_v 0) ⟨_, b.own, rfl, aA_ev (va_cons (ev_v 3) va_nil) ⟨t, kind, mark, k, o, rfl, b, ndo, by omega, sub, rfl, rfl⟩⟩)))
      · intro o _ _ s H C cl fp
        exact ev_v 3
end HF

/-! ## P23 -/
namespace HF
open PySem PySem.Spec PyProof.Rows L2 NdefX
variable {P : Program} {w : World} {K : PySem.W.Frag} {mg : Str → Option Value} {base : Heap}
def natI (l : List Nat) : List Int := l.map fun x : Nat => (x : Int)
theorem encI_nat (l : List Nat) : encI (natI l) = .tup (l.map nD) := by unfold encI natI; rw [nD_map]
theorem natI_inj : ∀ {a b : List Nat}, natI a = natI b → a = b
  | [], [], _ => rfl
  | [], _ :: _, h => by cases h
  | _ :: _, [], h => by cases h
  | x :: a, y :: b, h => by
    have h1 : (x : Int) :: natI a = (y : Int) :: natI b := h
    injection h1 with h1 h2
    rw [Int.ofNat_inj.mp h1, natI_inj h2]
theorem clo_encI {n : Nat} (k : List Int) : (encI k).clo n = true := by
  show cloL n _ = true
  exact cloL_map fun _ _ => clo_int
def spAudiences : ASp := fun ds μ R => ∃ t kind, ∃ i : Nat, ds = [Tab.enc t, .str kind, nD i] ∧ t.Ok ∧ i < t.n ∧ t.n ≤ 6 ∧ (∀ s ∈ setsM t kind i, peopleM t kind s ≠ []) ∧
  ∀ ks : List (List Int), ks.Nodup → ks.Pairwise (fun a b => tLt b a = false) → (∀ k, k ∈ ks ↔ ∃ s ∈ setsM t kind i, k = natI (peopleM t kind s)) → R (.lst (ks.map encI)) μ
theorem ok_audiences (G : Facts K mg) : AOk P w K mg base 10 G.audiences.f G.audiences.fd ["timetable", "kind", "i"] spAudiences := by
  refine fnA G.audiences.F sc_audiences (fun ds μ R h => ?_) fun cdv Ar outer s H E ds μ R hr h => ?_
  · obtain ⟨t, kind, i, rfl, _⟩ := h
    rfl
  · obtain ⟨t, kind, i, rfl, ok, hi, h6, hne, q⟩ := h
    have nd := sc_audiences.nd
    have hu : (Ar.deeper (envOfC "audiences" (defScope s_audiences) s.heap.objs.size G.audiences.f cdv)).units + 64 < cLine := by have := hr.un; omega
    refine aSs_cons (aS_set (i := 3) (aE_ev (aE_own G (hr.mono (by decide)) (ev_v 0) ok) ?_) nd)
    refine aSs_cons (aS_expr (aE_def G.checkLook (ok_checkLook G) (hr.mono (by decide)) (aA_ev (va_cons (ev_v 3) (va_cons (ev_v 2) va_nil)) ⟨t, i, rfl, Nat.le_trans ok.len (by decide), hi, ?_⟩)))
    refine aSs_cons (aS_set (i := 4) (aE_mk G.aInit (ok_aInit G) (hr.mono (by decide)) G.mAudience (aA_ev (va_cons (ev_v 3) (va_cons (ev_v 1) (va_cons (ev_v 2) va_nil))) ⟨t, kind, μ, _, i, rfl, rfl, rfl, ok, hi, fun cs b => ⟨rfl, ?_⟩⟩)) nd)
    have hso := allSets_ok hi
    have hsl : (setsM t kind i).length ≤ 32 := Nat.le_trans (List.length_filter_le _ _) (allSets_len h6)
    refine aSs_one (aS_ret (aE_sortedSetT (ks := (setsM t kind i).map fun s => natI (peopleM t kind s)) (d := .lst ((setsM t kind i).map fun s => encI (natI (peopleM t kind s)))) ?_ ?_ ?_ ?_ hu (fun ks h1 h2 h3 => ?_) G.n_sorted G.n_set))
    · refine aE_lc (c := false) (own := [("shown", 5)]) (lcm (L := setsM t kind i) (enc := encS) (g := fun s => encI (natI (peopleM t kind s))) (env := fun s => [some t.enc, some (.str kind), some (nD i), some t.enc, some (.pr μ.length), some (encS s)]) ?_ ?_ ?_ ?_ ⟨rfl, rfl⟩) (blkOk_by (by kernel_rfl)) nd
      · exact vi_list (aE_met0 G.aSets G.clsAudience (ok_aSets G) (hr.mono (by decide)) (aE_ev (ev_v 4) ⟨_, b.own, rfl, ⟨t, kind, i, μ.length, rfl, b, h6, rfl, rfl⟩⟩))
      · exact small1000 (by omega)
      · intro o _ s H C cl fp
        exact aGc_name (i := 5) ⟨rfl, rfl⟩ nd
      · intro o _ s H C cl fp
        exact aE_met G.aPeople G.clsAudience (ok_aPeople G) (hr.mono (by decide)) (aE_ev (ev_v 4) ⟨_, b.own, rfl, aA_ev (va_cons (ev_v 5) va_nil) ⟨t, kind, i, μ.length, o, rfl, b, (encI_nat _).symm, rfl⟩⟩)
    · rw [List.map_map]; exact .l .l
    · rw [List.length_map]; omega
    · intro k hk
      obtain ⟨s, hs, rfl⟩ := List.mem_map.mp hk
      intro z
      exact hne s hs (List.map_eq_nil_iff.mp z)
    · refine ⟨_, _, Exit.drop (cloL_map fun k _ => clo_encI k), q ks h1 h2 fun k => ?_⟩
      rw [h3]
      constructor
      · intro z
        obtain ⟨s, hs, e⟩ := List.mem_map.mp z
        exact ⟨s, hs, e.symm⟩
      · intro ⟨s, hs, e⟩
        exact List.mem_map.mpr ⟨s, hs, e.symm⟩
end HF

/-! ## P24 -/
namespace HF
open PySem PySem.Spec PyProof.Rows L2 NdefX
variable {P : Program} {w : World} {K : PySem.W.Frag} {mg : Str → Option Value} {base : Heap}
theorem cutD_fromE {τ : Type} (enc : τ → D) (l : List τ) (i : Nat) : cutD (l.map enc) (some ((i : Nat) : Int)) none = (l.drop i).map enc := by
  unfold cutD
  rw [show HT.sIx (l.map enc).length (l.map enc).length none = (l.map enc).length from rfl, HT.sIx_nat, List.length_map, ← List.map_drop, ← List.map_take]
  congr 1
  rcases Nat.le_total i l.length with h | h
  · rw [Nat.min_eq_left h, List.take_of_length_le (by rw [List.length_drop]; exact Nat.le_refl _)]
  · rw [Nat.min_eq_right h, List.drop_eq_nil_of_le (Nat.le_refl _), List.drop_eq_nil_of_le h, List.take_nil]
def choiceM : Nat → Ps → List Ps
  | 0, _ => [[]]
  | _ + 1, [] => []
  | n + 1, x :: xs => (choiceM n xs).map (x :: ·) ++ choiceM (n + 1) xs
def encC (c : Ps) : D := .tup (c.map pD)
theorem choiceM_len : ∀ (n : Nat) (l : Ps), (choiceM n l).length ≤ 2 ^ l.length
  | 0, l => by unfold choiceM; exact Nat.one_le_two_pow
  | n + 1, [] => by unfold choiceM; exact Nat.zero_le _
  | n + 1, x :: xs => by
    unfold choiceM
    have h1 := choiceM_len n xs
    have h2 := choiceM_len (n + 1) xs
    rw [List.length_append, List.length_map, List.length_cons, Nat.pow_succ]
    omega
theorem choiceM_sub : ∀ (n : Nat) (l : Ps), ∀ c ∈ choiceM n l, c.length = n ∧ c.Sublist l
  | 0, l, c, h => by unfold choiceM at h; rw [List.mem_singleton.mp h]; exact ⟨rfl, List.nil_sublist _⟩
  | n + 1, [], c, h => by unfold choiceM at h; cases h
  | n + 1, x :: xs, c, h => by
    unfold choiceM at h
    rcases List.mem_append.mp h with z | z
    · obtain ⟨d, hd, rfl⟩ := List.mem_map.mp z
      obtain ⟨a, b⟩ := choiceM_sub n xs d hd
      exact ⟨by rw [List.length_cons, a], b.cons₂ x⟩
    · obtain ⟨a, b⟩ := choiceM_sub (n + 1) xs c z
      exact ⟨a, b.cons x⟩
def spChoices (n : Nat) : ASp := fun ds μ R => ∃ l : Ps, ds = [.lst (l.map pD), nD n] ∧ l.length ≤ 5 ∧ R (.lst ((choiceM n l).map encC)) μ
theorem ok_choices (G : Facts K mg) : ∀ n, AOk P w K mg base (n + 1) G.choices.f G.choices.fd ["some", "size"] (spChoices n) := fun n => by
  induction n with
  | zero =>
    refine fnA G.choices.F sc_choices (fun ds μ R h => ?_) fun cdv Ar outer s H E ds μ R hr h => ?_
    · obtain ⟨l, rfl, _⟩ := h
      rfl
    · obtain ⟨l, rfl, hl, q⟩ := h
      rw [show choiceM 0 l = [[]] from by unfold choiceM; rfl] at q
      refine aSs_cons (aS_if (aT_ev (tv_eqN (ev_v 1) ev_0) ?_))
      rw [if_pos (by decide)]
      exact aSs_one (aS_ret (aE_ev (ev_lst (va_cons (ev_tup va_nil) va_nil)) (endR q)))
  | succ n ih =>
    refine fnA G.choices.F sc_choices (fun ds μ R h => ?_) fun cdv Ar outer s H E ds μ R hr h => ?_
    · obtain ⟨l, rfl, _⟩ := h
      rfl
    · obtain ⟨l, rfl, hl, q⟩ := h
      have nd := sc_choices.nd
      refine aSs_cons (aS_if (aT_ev (tv_eqN (i := n + 1) (ev_v 1) ev_0) ?_))
      rw [if_neg (by simp)]
      refine aSs_nil ?_
      refine aSs_cons (aS_set (i := 2) (aE_lstC (aA_nil ⟨Nat.zero_le _, ?_⟩)) nd)
      have hgo : ∃ fin, choiceM (n + 1) l = fin := ⟨_, rfl⟩
      obtain ⟨fin, hfin⟩ := hgo
      rw [hfin] at q
      refine aSs_cons (aS_forL (L := l.zipIdx) (enc := fun e => .tup [.int (e.2 : Nat), pD e.1]) (by
          rw [← enumD_map]
          exact wi_enum G.n_enumerate (ev_v 0))
        (fun L ρ μ' => ∃ o3 o4 acc, ρ = [some (.lst (l.map pD)), some (nD (n + 1)), some (.pr μ.length), o3, o4, none] ∧ acc ++ choiceM (n + 1) (l.drop L.length) = fin ∧ acc.length ≤ 32 * L.length ∧ L.length ≤ 5 ∧ μ' = μ ++ [.lst (acc.map encC)])
        ⟨none, none, [], rfl, hfin, Nat.zero_le _, Nat.zero_le _, rfl⟩ (fun L x rest ρ' μ' hL ⟨o3, o4, acc, h1, hacc, hal, hL5, h2⟩ => ?_) (fun ρ' μ' ⟨o3, o4, acc, h1, hacc, hal, hL5, h2⟩ => ?_))
      · subst h1 h2
        have hxi : x.2 = L.length ∧ l.drop L.length = x.1 :: l.drop (L.length + 1) := by
          have e1 : l.zipIdx[L.length]? = some x := by rw [hL, List.getElem?_append_right (Nat.le_refl _)]; simp
          rw [List.getElem?_zipIdx] at e1
          cases e2 : l[L.length]? with
          | none => rw [e2] at e1; cases e1
          | some y =>
            rw [e2] at e1
            cases e1
            obtain ⟨hlt, e3⟩ := List.getElem?_eq_some_iff.mp e2
            exact ⟨Nat.zero_add _, by rw [← e3, List.getElem_cons_drop]⟩
        have hL6 : L.length + 1 ≤ 5 := by
          have := congrArg List.length hL
          rw [List.length_zipIdx, List.length_append, List.length_cons] at this
          omega
        rw [hxi.2] at hacc
        unfold choiceM at hacc
        have hc32 : (choiceM n (l.drop (L.length + 1))).length ≤ 32 := by
          refine Nat.le_trans (choiceM_len _ _) (Nat.le_trans (Nat.pow_le_pow_right (by decide) (?_ : _ ≤ 5)) (by decide))
          rw [List.length_drop]
          omega
        have hcs := choiceM_sub n (l.drop (L.length + 1))
        generalize hch : choiceM n (l.drop (L.length + 1)) = ch at hacc hc32 hcs
        refine aG_pair 3 4 nd ?_
        refine aSs_one (aS_expr (aE_lm PySem.F.plainAttrs_list PySem.F.slot_list_extend PySem.F.type_list_extend (aE_ev (ev_v 2) ⟨⟨_, .p last_get⟩, aA_ev (va_cons (aE_lc (c := false) (own := [("rest", 5)]) (lcm (L := ch) (enc := encC) (g := fun c => encC (x.1 :: c)) (env := fun c => [some (.lst (l.map pD)), some (nD (n + 1)), some (.pr μ.length), some (.int (x.2 : Nat)), some (pD x.1), some (encC c)]) ?_ ?_ ?_ ?_ ⟨rfl, rfl⟩) (blkOk_by (by kernel_rfl)) nd) va_nil) (amt_extend last_get .l ?_ ?_)⟩)))
        · refine vi_list (aE_def G.choices ih hr (aA_ev (va_cons (ev_cast (ev_slN (lo := some (((x.2 + 1 : Nat)) : Int)) (hi := none) (ev_v 0) .l (ev_addN (i := x.2) (j := 1) (ev_v 3) ev_1) trivial) (congrArg D.lst (cutD_fromE pD l _))) (va_cons (ev_cast (ev_sub (i := ((n + 1 : Nat) : Int)) (j := 1) (ev_v 1) ev_int) (y := nD n) ?_) va_nil)) ⟨l.drop (x.2 + 1), rfl, by rw [List.length_drop]; omega, ?_, rfl⟩))
          · show D.int _ = D.int _
            congr 1
            omega
          · rw [hxi.1, hch]
        · exact small1000 (by omega)
        · intro c _ s H C cl fp
          exact aGc_name (i := 5) ⟨rfl, rfl⟩ nd
        · intro c hc s H C cl fp
          refine ev_cast (ev_catT (xs := [pD x.1]) (ys := c.map pD) (ev_tup (va_cons (ev_v 4) va_nil)) (ev_v 5) (by simp) ?_) rfl
          have := (hcs c hc).2.length_le
          rw [List.length_drop] at this
          rw [List.length_map, List.length_singleton, sizeLine_eq]
          omega
        · rw [List.length_map, List.length_map, sizeLine_eq]
          omega
        · rw [last_set]
          refine ⟨_, _, acc ++ ch.map (x.1 :: ·), rfl, by rw [List.length_append, List.append_assoc]; exact hacc, by rw [List.length_append, List.length_append, List.length_map, List.length_singleton]; omega, by rw [List.length_append]; exact hL6, ?_⟩
          rw [List.map_append, List.map_map]
          rfl
      · subst h1 h2
        rw [List.length_zipIdx, List.drop_length] at hacc
        unfold choiceM at hacc
        rw [List.append_nil] at hacc
        subst hacc
        exact aSs_one (aS_ret (aE_ev (ev_v 2) ⟨_, _, Exit.list (Nat.le_refl _) last_get (cloL_map fun c _ => cloL_map fun p _ => by rfl), q⟩))
end HF

/-! ## P25 -/
namespace HF
open PySem PySem.Spec PyProof.Rows L2 NdefX
variable {P : Program} {w : World} {K : PySem.W.Frag} {mg : Str → Option Value} {base : Heap}
def pI (p : Nat × Nat) : List Int := [(p.1 : Int), (p.2 : Int)]
theorem encI_pI (p : Nat × Nat) : encI (pI p) = pD p := rfl
theorem pI_inj {p q : Nat × Nat} (h : pI p = pI q) : p = q := by
  unfold pI at h
  injection h with h1 h2
  injection h2 with h2 _
  exact Prod.ext (Int.ofNat_inj.mp h1) (Int.ofNat_inj.mp h2)
theorem pI_of {ws : Ps} : ∀ {ks : List (List Int)}, (∀ k ∈ ks, k ∈ ws.map pI) → ∃ l : Ps, ks = l.map pI ∧ ∀ p ∈ l, p ∈ ws
  | [], _ => ⟨[], rfl, fun _ h => by cases h⟩
  | k :: ks, h => by
    obtain ⟨p, hp, e⟩ := List.mem_map.mp (h k List.mem_cons_self)
    obtain ⟨l, e1, e2⟩ := pI_of (ks := ks) fun k hk => h k (List.mem_cons_of_mem _ hk)
    exact ⟨p :: l, by rw [e1, ← e]; rfl, fun q hq => by
      rcases List.mem_cons.mp hq with z | z
      · rw [z]; exact hp
      · exact e2 q z⟩
noncomputable def clashM (t : Tab) (kind : Str) (l : Ps) : Option Ps := ((List.range l.length).flatMap fun s => choiceM (s + 1) l).find? fun c => !fineM t kind false c
def optC : Option Ps → D
  | none => .non
  | some c => encC c
theorem find_here {τ : Type} {p : τ → Bool} {l pre post : List τ} {x : τ} (e : l = pre ++ x :: post) (h : ∀ y ∈ pre, p y = false) (hx : p x = true) : l.find? p = some x := by
  rw [e, List.find?_append, List.find?_eq_none.mpr fun y hy => by rw [h y hy]; exact Bool.false_ne_true]
  rw [Option.none_or, List.find?_cons_of_pos hx]
theorem wi_range2 {X : Cx} {a b tg : Expr} {ρ : AEnv} {μ : Sto} {p pos : Pos} {n : Nat} (hm : X.mg "range" = none) (ha : EV X a ρ μ (.int 1)) (hb : EV X b ρ μ (.int ((n : Int) + 1))) (hn : n ≤ 100000) (hg : Gl X "range" := by rfl)
    (hs : starEach [a, b] X.env = [(false, eval a X.env), (false, eval b X.env)] := by rfl) (hs2 : starEach [b] X.env = [(false, eval b X.env)] := by rfl)
    (s1 : starEach [a, b] X.env = (false, eval a X.env) :: starEach [b] X.env := by rfl) (s2 : starEach [b] X.env = (false, eval b X.env) :: starEach [] X.env := by rfl) :
    EVL X tg (.Call (.Name "range" p) [a, b] [] pos) ρ μ ((List.range n).map fun s => nD (s + 1)) := by
  refine aI_range2 ha hb (by decide) (by decide) (by omega) (by omega) ⟨rfl, ?_, fun _ => trivial⟩ hm hg hs hs2 s1 s2
  have : ((n : Int) + 1 - 1).toNat = n := by omega
  rw [this]
  show (List.range n).map _ = _
  exact List.map_congr_left fun i _ => by
    show D.int _ = D.int _
    congr 1
    show (1 : Int) + (i : Int) = ((i + 1 : Nat) : Int)
    omega
theorem clo_encC {n : Nat} (c : Ps) : (encC c).clo n = true := by
  show cloL n (c.map pD) = true
  exact cloL_map fun p _ => by rfl
def spClash : ASp := fun ds μ R => ∃ t kind, ∃ ws : Ps, ds = [Tab.enc t, .str kind, .lst (ws.map pD)] ∧ t.Ok ∧ (∀ q ∈ ws, q.1 < t.n ∧ q.2 < t.folk) ∧ ws.length ≤ 5 ∧ ∀ l : Ps, l.Nodup → (∀ p, p ∈ l ↔ p ∈ ws) → R (optC (clashM t kind l)) μ
theorem ok_clash (G : Facts K mg) (U : SupF P K mg G) : AOk P w K mg base 39 G.clash.f G.clash.fd ["timetable", "kind", "wishes"] spClash := by
  refine fnA G.clash.F sc_clash (fun ds μ R h => ?_) fun cdv Ar outer s H E ds μ R hr h => ?_
  · obtain ⟨t, kind, ws, rfl, _⟩ := h
    rfl
  · obtain ⟨t, kind, ws, rfl, ok, hws, hwl, q⟩ := h
    have nd := sc_clash.nd
    have hu : (Ar.deeper (envOfC "clash" (defScope s_clash) s.heap.objs.size G.clash.f cdv)).units + 64 < cLine := by have := hr.un; omega
    obtain ⟨dvs, dv, hd, hb⟩ := U.iB0
    refine aSs_cons (aS_par (i := 3) (j := 4) (aE_ev (aE_own G (hr.mono (by decide)) (ev_v 0) ok) (aE_def G.asTuples (ok_asTuples G 2) (hr.mono (by decide)) (aA_ev (va_cons (ev_v 2) va_nil) ⟨_, rfl, ps_fl (Nat.lt_of_le_of_lt hwl (by decide)), ?_⟩))) nd)
    rw [ps_tt]
    refine aSs_cons (aS_expr (aE_def G.checkWishes (ok_checkWishes G) (hr.mono (by decide)) (aA_ev (va_cons (ev_v 3) (va_cons (ev_v 4) va_nil)) ⟨t, ws, rfl, Nat.le_trans ok.len (by decide), hws, ?_⟩)))
    refine aSs_cons (aS_set (i := 5) (aE_sortedSetT (ks := ws.map pI) (d := .tup (ws.map pD)) (ev_v 4) (by rw [List.map_map]; exact .t) (by rw [List.length_map]; omega) (fun k hk => ?_) hu (fun ks h1 h2 h3 => ?_) G.n_sorted G.n_set) nd)
    · obtain ⟨p, _, rfl⟩ := List.mem_map.mp hk
      exact List.cons_ne_nil _ _
    obtain ⟨l, rfl, hl⟩ := pI_of (ws := ws) fun k hk => (h3 k).mp hk
    have hnd : l.Nodup := nodup_of_map h1
    have hll : l.length ≤ 5 := Nat.le_trans (nodup_len hnd hl) hwl
    have hmem : ∀ p, p ∈ l ↔ p ∈ ws := fun p => ⟨hl p, fun hp => by
      obtain ⟨p', hp', e⟩ := List.mem_map.mp ((h3 (pI p)).mpr (List.mem_map.mpr ⟨p, hp, rfl⟩))
      rw [← pI_inj e]; exact hp'⟩
    have q := q l hnd hmem
    rw [List.map_map]
    have hlm : (l.map (encI ∘ pI)) = l.map pD := rfl
    rw [hlm]
    generalize hfin : clashM t kind l = fin at q
    unfold clashM at hfin
    refine aSs_cons (aS_forL (L := List.range l.length) (enc := fun s => nD (s + 1)) (wi_range2 (n := l.length) G.n_range ev_int (ev_add (ev_cast (ev_len G.n_len (ev_v 5) isl) (by rw [List.length_map])) ev_int) (by omega))
      (fun L ρ μ' => ∃ o6 o7 cs, ρ = [some t.enc, some (.str kind), some (.lst (ws.map pD)), some t.enc, some (.tup (ws.map pD)), some (.lst (l.map pD)), o6, o7] ∧ μ' = μ ++ cs ∧ ∀ c ∈ L.flatMap (fun s => choiceM (s + 1) l), (!fineM t kind false c) = false)
      ⟨none, none, [], rfl, (List.append_nil _).symm, fun c hc => by cases hc⟩ (fun L s rest ρ' μ' hL ⟨o6, o7, cs, h1, h2, h3⟩ => ?_) (fun ρ' μ' ⟨o6, o7, cs, h1, h2, h3⟩ => ?_))
    · subst h1 h2
      have hsl : s < l.length := List.mem_range.mp (by rw [hL]; simp)
      refine aG_name (i := 6) ?_ nd
      refine aSs_one (aS_forL (L := choiceM (s + 1) l) (enc := encC) (wi_list (aE_def G.choices (ok_choices G (s + 1)) (hr.mono (by omega)) (aA_ev (va_cons (ev_v 5) (va_cons (ev_v 6) va_nil)) ⟨l, rfl, hll, rfl, rfl⟩)))
        (fun L1 ρ μ' => ∃ o7 cs, ρ = [some t.enc, some (.str kind), some (.lst (ws.map pD)), some t.enc, some (.tup (ws.map pD)), some (.lst (l.map pD)), some (nD (s + 1)), o7] ∧ μ' = μ ++ cs ∧ ∀ c ∈ L1, (!fineM t kind false c) = false)
        ⟨o7, cs, rfl, rfl, fun c hc => by cases hc⟩ (fun L1 c rest1 ρ' μ' hL1 ⟨o7, cs1, h1, h2, h4⟩ => ?_) (fun ρ' μ' ⟨o7, cs1, h1, h2, h4⟩ => ?_))
      · subst h1 h2
        have hcm : c ∈ choiceM (s + 1) l := by rw [hL1]; simp
        obtain ⟨hc1, hc2⟩ := choiceM_sub _ _ c hcm
        refine aG_name (i := 7) ?_ nd
        refine aSs_one (aS_if (aT_not (aT_val (ev_fine (c := false) G U (hr.mono (by decide)) hb hd (va_cons (ev_v 3) (va_cons (ev_v 1) (va_cons (ev_v 7) va_nil))) rfl ok (.inr rfl) (fun x hx => hws x (hl x (hc2.subset hx))) (by omega) fun cs => ⟨_, rfl, ?_⟩))))
        cases hf : fineM t kind false c with
        | false =>
          rw [if_pos (by decide)]
          have hfd : ((List.range l.length).flatMap fun s => choiceM (s + 1) l).find? (fun c => !fineM t kind false c) = some c := by
            refine find_here (pre := (L.flatMap fun s => choiceM (s + 1) l) ++ L1) (post := rest1 ++ rest.flatMap fun s => choiceM (s + 1) l) ?_ (fun y hy => ?_) (by rw [hf]; rfl)
            · rw [hL, List.flatMap_append, List.flatMap_cons, hL1]
              simp only [List.append_assoc, List.cons_append]
            · rcases List.mem_append.mp hy with z | z
              · exact h3 y z
              · exact h4 y z
          rw [hfd] at hfin
          subst hfin
          rw [List.append_assoc]
          exact aSs_one (aS_ret (aE_ev (ev_v 7) ⟨_, _, Exit.drop (clo_encC c), q⟩))
        | true =>
          rw [if_neg (by decide)]
          refine aSs_nil ⟨_, cs1 ++ cs, rfl, by rw [List.append_assoc], fun y hy => ?_⟩
          rcases List.mem_append.mp hy with z | z
          · exact h4 y z
          · rw [List.mem_singleton.mp z, hf]; rfl
      · subst h1 h2
        refine ⟨_, _, cs1, rfl, rfl, fun c hc => ?_⟩
        rw [List.flatMap_append] at hc
        rcases List.mem_append.mp hc with z | z
        · exact h3 c z
        · rw [List.flatMap_cons, List.flatMap_nil, List.append_nil] at z
          exact h4 c z
    · subst h1 h2
      rw [List.find?_eq_none.mpr fun c hc => by rw [h3 c hc]; exact Bool.false_ne_true] at hfin
      subst hfin
      exact aSs_one (aS_ret (aE_ev ev_non ⟨_, _, Exit.drop (by rfl), q⟩))
end HF

/-! ## Q1 -/
namespace HF
open PySem PySem.Spec PyProof.Rows L2 NdefX
section
variable {X : Cx} {a b e : Expr} {ρ : AEnv} {μ : Sto} {pos p : Pos}
theorem ev_mod {i j : Int} (ha : EV X a ρ μ (.int i)) (hb : EV X b ρ μ (.int j)) (h : 0 < j) : EV X (.BinOp a .Mod b pos) ρ μ (.int (i % j)) := ev_bin ha hb (aop_modI h ⟨rfl, rfl⟩)
theorem ev_div {i j : Int} (ha : EV X a ρ μ (.int i)) (hb : EV X b ρ μ (.int j)) (h : CDiv i j) : EV X (.BinOp a .FloorDiv b pos) ρ μ (.int (i / j)) := ev_bin ha hb (aop_divI h ⟨rfl, rfl⟩)
theorem ev_pow {i j : Int} (ha : EV X a ρ μ (.int i)) (hb : EV X b ρ μ (.int j)) (h : CPow i j) : EV X (.BinOp a .Pow b pos) ρ μ (.int (i ^ j.toNat)) := ev_bin ha hb (aop_powI h ⟨rfl, rfl⟩)
theorem ev_mul {i j : Int} (ha : EV X a ρ μ (.int i)) (hb : EV X b ρ μ (.int j)) (h : CMul i j) : EV X (.BinOp a .Mult b pos) ρ μ (.int (i * j)) := ev_bin ha hb (aop_mulI h ⟨rfl, rfl⟩)
theorem ev_toInt {i : Int} (hm : X.mg "int" = none) (h : EV X e ρ μ (.int i)) (hg : Gl X "int" := by rfl) (he : starEach [e] X.env = (false, eval e X.env) :: starEach [] X.env := by rfl) (hpl : (backTo pos (starEach [] X.env)).any (·.1) = false := by rfl) :
    EV X (.Call (.Name "int" p) [e] [] pos) ρ μ (.int i) := ev_callTy (va_cons h va_nil he) (acall_int ⟨rfl, rfl⟩) hm (by rfl) hg (by decide) (by decide) he hpl
end
structure BOk (c : Nat) (b : Int × Int × Int) : Prop where
  a0 : 0 ≤ b.1
  a1 : 0 ≤ b.2.1
  a2 : b.2.1 < 2147483648
  a3 : 0 ≤ b.2.2
  a4 : b.2.2 ≤ c
theorem BOk.mono {c d : Nat} {b : Int × Int × Int} (h : BOk c b) (l : c ≤ d) : BOk d b := ⟨h.a0, h.a1, h.a2, h.a3, Int.le_trans h.a4 (Int.ofNat_le.mpr l)⟩
def bx (b : Int × Int × Int) : Cell := .lst [.int b.1, .int b.2.1, .int b.2.2]
variable {P : Program} {w : World} {K : PySem.W.Frag} {mg : Str → Option Value} {base : Heap}
/-- a drawn number below n; the box moves on -/
def spTake : ASp := fun ds μ R => ∃ pre post k b c, ∃ n : Nat, ds = [.pr k, nD n] ∧ pre.length = k ∧ μ = pre ++ bx b :: post ∧ BOk c b ∧ c < 100000 ∧ 0 < n ∧ n < 1000000 ∧ ∀ (r : Nat) b', r < n → BOk (c + 1) b' → R (nD r) (pre ++ bx b' :: post)
theorem ok_take (G : Facts K mg) : AOk P w K mg base 1 G.lawTake.f G.lawTake.fd ["_law_box_here", "_law_below"] spTake := by
  refine fnA G.lawTake.F sc_lawTake (fun ds μ R h => ?_) fun cdv Ar outer s H E ds μ R hr h => ?_
  · obtain ⟨pre, post, k, b, c, n, rfl, _⟩ := h
    rfl
  · obtain ⟨pre, post, k, ⟨b0, b1, b2⟩, c, n, rfl, hk, rfl, ok, hc, hn, hn2, q⟩ := h
    obtain ⟨h0, h1, h2, h3, h4⟩ := ok
    simp only at h0 h1 h2 h3 h4
    have nd := sc_lawTake.nd
    have hL : ∀ b, IsS (pre ++ bx b :: post) (.pr k) [.int b.1, .int b.2.1, .int b.2.2] := fun b => .l (.p (get0 hk))
    have key : ∀ i : Int, 0 ≤ i % (n : Int) ∧ i % (n : Int) < (n : Int) := fun i => ⟨Int.emod_nonneg _ (by omega), Int.emod_lt_of_pos _ (by omega)⟩
    refine aSs_cons (aS_if (aT_ev (tv_gt (ev_ix (ev_v 0) ev_0 (hL _) (atI_nat rfl)) ev_int) ?_))
    by_cases hp : 0 < b0
    · rw [if_pos (decide_eq_true hp)]
      refine aSs_cons (aS_set (i := 2) (aE_ev (ev_mod (i := b0) (j := (n : Int)) (ev_toInt G.n_int (ev_ix (ev_v 0) ev_0 (hL _) (atI_nat rfl))) (ev_v 1) (by omega)) ?_) nd)
      refine aSs_cons (aS_setL (k := k) (j := 0) (i := 0) (xs := [.int b0, .int b1, .int b2]) (x := .int (b0 / (n : Int))) (ev_v 0) ev_int (ev_div (i := b0) (j := (n : Int)) (ev_ix (ev_v 0) ev_0 (hL _) (atI_nat rfl)) (ev_v 1) ⟨by omega, by omega⟩) (get0 hk) rfl (by simp) ?_)
      rw [set0 hk]
      obtain ⟨r1, r2⟩ := key b0
      have hr : b0 % (n : Int) = ((b0 % (n : Int)).toNat : Int) := (Int.toNat_of_nonneg r1).symm
      refine aSs_one (aS_ret (aE_ev (ev_v 2) (endR ?_)))
      have := q (b0 % (n : Int)).toNat (b0 / (n : Int), b1, b2) (by omega) ⟨Int.ediv_nonneg h0 (by omega), h1, h2, h3, by simp only; omega⟩
      rw [show nD (b0 % (n : Int)).toNat = .int (b0 % (n : Int)) from by show D.int _ = _; rw [← hr]] at this
      exact this
    · rw [if_neg (by rw [decide_eq_false hp]; decide)]
      refine aSs_nil ?_
      refine aSs_cons (aS_setL (k := k) (j := 2) (i := 2) (xs := [.int b0, .int b1, .int b2]) (x := .int (b2 + 1)) (ev_v 0) ev_int (ev_add (i := b2) (j := 1) (ev_ix (ev_v 0) ev_2 (hL _) (atI_nat rfl)) ev_int) (get0 hk) rfl (by simp) ?_)
      rw [set0 hk]
      have hL2 : IsS (pre ++ Cell.lst ([D.int b0, .int b1, .int b2].set 2 (.int (b2 + 1))) :: post) (.pr k) [.int b0, .int b1, .int (b2 + 1)] := .l (.p (get0 hk))
      have hb : (b1 + 51749 * (b2 + 1)).natAbs < 2 ^ 64 := by omega
      refine aSs_cons (aS_set (i := 3) (aE_ev (ev_mod (i := (b1 + 51749 * (b2 + 1)) ^ (3 : Int).toNat) (j := 2147483549) (ev_toInt G.n_int (ev_pow (i := b1 + 51749 * (b2 + 1)) (j := 3) (ev_add (i := b1) (j := 51749 * (b2 + 1)) (ev_ix (ev_v 0) ev_1 hL2 (atI_nat rfl)) (ev_mul (i := 51749) (j := b2 + 1) ev_int (ev_ix (ev_v 0) ev_2 hL2 (atI_nat rfl)) (.inl ⟨by decide, by decide⟩))) ev_int ⟨by decide, by decide, hb⟩)) ev_int (by decide)) ?_) nd)
      have ho : 0 ≤ (b1 + 51749 * (b2 + 1)) ^ (3 : Int).toNat % 2147483549 ∧ (b1 + 51749 * (b2 + 1)) ^ (3 : Int).toNat % 2147483549 < 2147483549 := ⟨Int.emod_nonneg _ (by decide), Int.emod_lt_of_pos _ (by decide)⟩
      generalize (b1 + 51749 * (b2 + 1)) ^ (3 : Int).toNat % 2147483549 = once at ho
      refine aSs_cons (aS_set (i := 4) (aE_ev (ev_add (i := once % 30011) (j := 17) (ev_mod (i := once) (j := 30011) (ev_toInt G.n_int (ev_v 3)) ev_int (by decide)) ev_int) ?_) nd)
      generalize once % 30011 + 17 = odd
      refine aSs_one (aS_ret (aE_ev (ev_mod (i := ((once * odd + (b2 + 1) * 7039) % 2147483629) / 32) (j := (n : Int)) (ev_toInt G.n_int (ev_div (i := (once * odd + (b2 + 1) * 7039) % 2147483629) (j := 32) (ev_mod (i := once * odd + (b2 + 1) * 7039) (j := 2147483629) (ev_toInt G.n_int (ev_add (ev_mul (i := once) (j := odd) (ev_v 3) (ev_v 4) (.inl ⟨by omega, by omega⟩)) (ev_mul (i := b2 + 1) (j := 7039) (ev_ix (ev_v 0) ev_2 hL2 (atI_nat rfl)) ev_int (.inr ⟨by decide, by decide⟩)))) ev_int (by decide)) ev_int ⟨by decide, by decide⟩)) (ev_v 1) (by omega)) (endR ?_)))
      generalize ((once * odd + (b2 + 1) * 7039) % 2147483629) / 32 = z
      obtain ⟨r1, r2⟩ := key z
      have hr : z % (n : Int) = ((z % (n : Int)).toNat : Int) := (Int.toNat_of_nonneg r1).symm
      have := q (z % (n : Int)).toNat (b0, b1, b2 + 1) (by omega) ⟨h0, h1, h2, by simp only; omega, by simp only; omega⟩
      rw [show nD (z % (n : Int)).toNat = .int (z % (n : Int)) from by show D.int _ = _; rw [← hr]] at this
      exact this
end HF

/-! ## Q2 -/
namespace HF
open PySem PySem.Spec PyProof.Rows L2 NdefX
variable {P : Program} {w : World} {K : PySem.W.Frag} {mg : Str → Option Value} {base : Heap}
theorem aE_take {X : Cx} {e1 e2 : Expr} {ρ : AEnv} {pre post : Sto} {Q : DK} {p pos : Pos} {k c n : Nat} {b : Int × Int × Int} (G : Facts X.K X.mg) (hr : Room 1 X.A) (h1 : EV X e1 ρ (pre ++ bx b :: post) (.pr k)) (h2 : EV X e2 ρ (pre ++ bx b :: post) (nD n)) (hk : pre.length = k) (ok : BOk c b) (hc : c < 100000) (hn : 0 < n) (hn2 : n < 1000000)
    (h : ∀ (r : Nat) b', r < n → BOk (c + 1) b' → Q (nD r) (pre ++ bx b' :: post))
    (hg : Gl X "_law_take" := by rfl) (s1 : starEach [e1, e2] X.env = (false, eval e1 X.env) :: starEach [e2] X.env := by rfl) (s2 : starEach [e2] X.env = (false, eval e2 X.env) :: starEach [] X.env := by rfl) (hpl : (backTo pos (starEach [e2] X.env)).any (·.1) = false := by rfl) :
    aE X (.Call (.Name "_law_take" p) [e1, e2] [] pos) ρ (pre ++ bx b :: post) Q :=
  aE_def G.lawTake (ok_take G) hr (aA_ev (va_cons h1 (va_cons h2 va_nil s2) s1) ⟨pre, post, k, b, c, n, rfl, hk, rfl, ok, hc, hn, hn2, h⟩) hg (by decide) s1 hpl
def spEvent : ASp := fun ds μ R => ∃ pre post k b c, ∃ f : Nat, ds = [.pr k, nD f, .str "llaammtt"] ∧ pre.length = k ∧ μ = pre ++ bx b :: post ∧ BOk c b ∧ c < 90000 ∧ 2 ≤ f ∧ f < 1000 ∧ ∀ (e : Ev) b', e.Ok f → BOk (c + 3) b' → R e.enc (pre ++ bx b' :: post)
theorem ok_event (G : Facts K mg) : AOk P w K mg base 2 G.lawEvent.f G.lawEvent.fd ["_law_box_here", "_law_folk", "_law_words"] spEvent := by
  refine fnA G.lawEvent.F sc_lawEvent (fun ds μ R h => ?_) fun cdv Ar outer s H E ds μ R hr h => ?_
  · obtain ⟨pre, post, k, b, c, f, rfl, _⟩ := h
    rfl
  · obtain ⟨pre, post, k, b, c, f, rfl, hk, rfl, ok, hc, hf, hf2, q⟩ := h
    have nd := sc_lawEvent.nd
    refine aSs_cons (aS_par (i := 3) (j := 4) (aE_take G hr (ev_v 0) (ev_v 1) hk ok (by omega) (by omega) (by omega) fun r b1 hr1 ok1 => ?_) nd)
    refine aE_ix (aE_ev (ev_v 2) (aE_take G hr (ev_v 0) (n := 8) (ev_callB (va_cons (ev_v 2) va_nil) (acall_lenS (by decide) ⟨rfl, rfl⟩) G.n_len PySem.boot_len) hk ok1 (by omega) (by omega) (by omega) fun j b2 hj ok2 => ?_))
    have hch : ∃ c, (("llaammtt" : Str).cps.toList)[j]? = some c := by
      have : (("llaammtt" : Str).cps.toList).length = 8 := by decide +kernel
      exact ⟨_, List.getElem?_eq_getElem (by omega)⟩
    obtain ⟨ch, hch⟩ := hch
    refine aix_str (k := ch) (by decide) (atI_nat hch) ?_
    have look : R (Ev.look r).enc (pre ++ bx b2 :: post) := q (.look r) b2 hr1 (ok2.mono (by omega))
    have add : R (Ev.add r).enc (pre ++ bx b2 :: post) := q (.add r) b2 hr1 (ok2.mono (by omega))
    refine aSs_cons (aS_if (aT_ev (tv_or (tv_eqS (ev_v 4) ev_str) fun _ => tv_and (tv_eqN (i := f) (j := 1) (ev_v 1) ev_1) fun _ => tv_neS (ev_v 4) ev_str) ?_))
    by_cases hl : (⟨#[ch]⟩ : Str) = ("l" : Str)
    · rw [decide_eq_true hl, Bool.true_or, if_pos rfl]
      exact aSs_one (aS_ret (aE_ev (ev_tup (va_cons ev_str (va_cons (ev_v 3) va_nil))) (endR look)))
    · rw [decide_eq_false hl, Bool.false_or, decide_eq_false (by omega : ¬ f = 1), Bool.false_and, if_neg Bool.false_ne_true]
      refine aSs_nil (aSs_cons (aS_if (aT_ev (tv_eqS (ev_v 4) ev_str) ?_)))
      by_cases ha : (⟨#[ch]⟩ : Str) = ("a" : Str)
      · rw [decide_eq_true ha, if_pos rfl]
        exact aSs_one (aS_ret (aE_ev (ev_tup (va_cons ev_str (va_cons (ev_v 3) va_nil))) (endR add)))
      · rw [decide_eq_false ha, if_neg Bool.false_ne_true]
        refine aSs_nil (aSs_one (aS_ret (aE_tup ?_)))
        refine aA_cons (aE_ev (ev_ite (k := decide ((⟨#[ch]⟩ : Str) = ("m" : Str))) (x := .str "meet") (y := .str "tell") (tv_eqS (ev_v 4) ev_str) (fun _ => ev_str) (fun _ => ev_str)) ?_)
        refine aA_cons (aE_ev (ev_v 3) ?_)
        refine aA_cons (aE_op (aE_op (aE_ev (ev_addN (i := r) (j := 1) (ev_v 3) ev_1) ?_)) )
        refine aE_take G hr (ev_v 0) (n := f - 1) (ev_cast (ev_sub (i := (f : Int)) (j := 1) (ev_v 1) ev_int) (by show D.int _ = D.int _; congr 1; omega)) hk ok2 (by omega) (by omega) (by omega) fun z b3 hz ok3 => ?_
        refine aop_addI (i := ((r + 1 : Nat) : Int)) (j := ((z : Nat) : Int)) (aE_ev (ev_v 1) (aop_modI (by omega) (aA_nil ⟨by show 3 ≤ sizeLine; decide, ?_⟩)))
        have hz2 : ((r + 1 : Nat) : Int) + ((z : Nat) : Int) = ((r + 1 + z : Nat) : Int) := by omega
        rw [hz2]
        have hm : (((r + 1 + z : Nat) : Int) % (f : Int)) = (((r + 1 + z) % f : Nat) : Int) := rfl
        rw [hm]
        have hq : (r + 1 + z) % f < f := Nat.mod_lt _ (by omega)
        by_cases hmt : (⟨#[ch]⟩ : Str) = ("m" : Str)
        · rw [decide_eq_true hmt, if_pos rfl]
          exact endR (q (.meet r ((r + 1 + z) % f)) b3 ⟨hr1, hq⟩ ok3)
        · rw [decide_eq_false hmt, if_neg Bool.false_ne_true]
          exact endR (q (.tell r ((r + 1 + z) % f)) b3 ⟨hr1, hq⟩ ok3)
end HF

/-! ## Q3 -/
namespace HF
open PySem PySem.Spec PyProof.Rows L2 NdefX
variable {P : Program} {w : World} {K : PySem.W.Frag} {mg : Str → Option Value} {base : Heap}
theorem Exit.box {pre post ext : Sto} {b b' : Int × Int × Int} {d : D} (hd : d.clo 0 = true) : Exit (pre ++ bx b :: post) d (pre ++ bx b' :: (post ++ ext)) d (pre ++ bx b' :: post) := by
  refine .inr ⟨⟨ext, by rw [List.append_assoc, List.cons_append]⟩, by rw [List.length_append, List.length_append, List.length_cons, List.length_cons]; exact Nat.le_refl _, fun m c e => ?_, .inl ⟨rfl, D.clo_mono (Nat.zero_le _) hd⟩⟩
  by_cases h : m < pre.length
  · rw [List.getElem?_append_left h] at e ⊢
    exact .inl e
  · have hm : m = pre.length + (m - pre.length) := by omega
    rw [hm, get_at rfl] at e ⊢
    match hj : m - pre.length, e with
    | 0, e =>
      cases e
      exact .inr rfl
    | j + 1, e =>
      rw [List.getElem?_cons_succ] at e ⊢
      exact .inl e
def encCnt (a b c d : Nat) : List (Key × D) := [(.inr "look", nD a), (.inr "add", nD b), (.inr "meet", nD c), (.inr "tell", nD d)]
def looksN (fs : List Ev) : Nat := (fs.filter Ev.isLook).length
theorem isLook_eq (e : Ev) : e.isLook = decide (e.word = ("look" : Str)) := by cases e <;> kernel_rfl
theorem looksN_eq (f : Nat) (fs : List Ev) : (⟨f, fs⟩ : Tab).n = looksN fs := by
  show (evsOf _ _).length = _
  unfold evsOf looksN
  rw [List.length_map]
  have h : ∀ (l : List Ev) (k : Nat), ((l.zipIdx k).filter fun e => decide (e.1.word = ("look" : Str))).length = (l.filter Ev.isLook).length := fun l => by
    induction l with
    | nil => intro k; rfl
    | cons e l ih =>
      intro k
      rw [List.zipIdx_cons, List.filter_cons, List.filter_cons, isLook_eq e]
      by_cases hw : e.word = ("look" : Str)
      · rw [decide_eq_true hw, if_pos rfl, if_pos rfl, List.length_cons, List.length_cons, ih]
      · rw [decide_eq_false hw, if_neg Bool.false_ne_true, if_neg Bool.false_ne_true, ih]
  exact h _ _
theorem enc_ix0 (e : Ev) : ∃ xs, e.enc = .tup xs ∧ xs[0]? = some (.str e.word) := by cases e <;> exact ⟨_, rfl, rfl⟩
def Ev.size : Ev → Nat
  | .look _ => 2
  | .add _ => 2
  | .meet _ _ => 3
  | .tell _ _ => 3
theorem enc_len (e : Ev) : ∃ xs, e.enc = .tup xs ∧ xs.length = e.size ∧ xs[0]? = some (.str e.word) := by cases e <;> exact ⟨_, rfl, rfl, rfl⟩
/-- the counts after one more event -/
def cntUp (e : Ev) (x : Nat × Nat × Nat × Nat) : Nat × Nat × Nat × Nat := match e with
  | .look _ => (x.1 + 1, x.2.1, x.2.2.1, x.2.2.2)
  | .add _ => (x.1, x.2.1 + 1, x.2.2.1, x.2.2.2)
  | .meet _ _ => (x.1, x.2.1, x.2.2.1 + 1, x.2.2.2)
  | .tell _ _ => (x.1, x.2.1, x.2.2.1, x.2.2.2 + 1)
def cntD (x : Nat × Nat × Nat × Nat) : List (Key × D) := encCnt x.1 x.2.1 x.2.2.1 x.2.2.2
theorem cnt_val (e : Ev) (x : Nat × Nat × Nat × Nat) : ∃ n : Nat, valD (cntD x) (.inr e.word) = some (nD n) ∧ putD (cntD x) (.inr e.word) (nD (n + 1)) = cntD (cntUp e x) := by
  cases e with
  | look p => exact ⟨x.1, by kernel_rfl, by kernel_rfl⟩
  | add p => exact ⟨x.2.1, by kernel_rfl, by kernel_rfl⟩
  | meet p q => exact ⟨x.2.2.1, by kernel_rfl, by kernel_rfl⟩
  | tell p q => exact ⟨x.2.2.2, by kernel_rfl, by kernel_rfl⟩
theorem clo_ev {n : Nat} (e : Ev) : e.enc.clo n = true := by cases e <;> rfl
theorem clo_enc {n : Nat} (t : Tab) : t.enc.clo n = true := by
  show cloL n [nD t.folk, .tup (t.evs.map Ev.enc)] = true
  have h : (D.tup (t.evs.map Ev.enc)).clo n = true := cloL_map fun e _ => clo_ev e
  unfold cloL
  rw [Bool.and_eq_true]
  refine ⟨rfl, ?_⟩
  unfold cloL
  rw [h]
  rfl
theorem cntUp_look (e : Ev) (x : Nat × Nat × Nat × Nat) (fs : List Ev) (h : looksN fs = x.1) : looksN (fs ++ [e]) = (cntUp e x).1 ∧ ∀ (most : Nat) {n : Nat}, x.1 ≤ most → (decide (e.word = ("add" : Str)) || (decide (e.word = ("look" : Str)) && decide (x.1 < most)) || (decide (2 < e.size) && decide (n < 8))) = true → (cntUp e x).1 ≤ most := by
  have hx : ∀ e : Ev, looksN (fs ++ [e]) = looksN fs + if e.isLook = true then 1 else 0 := fun e => by
    unfold looksN
    rw [List.filter_append, List.length_append, List.filter_cons]
    split <;> rfl
  refine ⟨?_, fun most n h1 h2 => ?_⟩
  · rw [hx, h]
    cases e with
    | look p => rw [if_pos (by kernel_rfl)]; rfl
    | add p => rw [if_neg (by rw [show Ev.isLook (.add p) = false from by kernel_rfl]; decide)]; rfl
    | meet p q => rw [if_neg (by rw [show Ev.isLook (.meet p q) = false from by kernel_rfl]; decide)]; rfl
    | tell p q => rw [if_neg (by rw [show Ev.isLook (.tell p q) = false from by kernel_rfl]; decide)]; rfl
  · cases e with
    | look p =>
      rw [show decide ((Ev.look p).word = ("add" : Str)) = false from by kernel_rfl, show decide (2 < (Ev.look p).size) = false from rfl, Bool.false_and, Bool.or_false, Bool.false_or, Bool.and_eq_true] at h2
      exact of_decide_eq_true h2.2
    | add p => exact h1
    | meet p q => exact h1
    | tell p q => exact h1
theorem cntUp_sum (e : Ev) (x : Nat × Nat × Nat × Nat) : (cntUp e x).1 + (cntUp e x).2.1 + (cntUp e x).2.2.1 + (cntUp e x).2.2.2 = x.1 + x.2.1 + x.2.2.1 + x.2.2.2 + [e].length := by
  cases e <;> simp only [cntUp, List.length_singleton] <;> omega
theorem cnt_first (e : Ev) (x : Nat × Nat × Nat × Nat) (h : x.1 + x.2.1 + x.2.2.1 + x.2.2.2 = ([] : List Ev).length) {most : Nat} (hm : 1 ≤ most) : (decide (e.word = ("add" : Str)) || (decide (e.word = ("look" : Str)) && decide (x.1 < most)) || (decide (2 < e.size) && decide (x.2.2.1 + x.2.2.2 < 8))) = true := by
  rw [List.length_nil] at h
  cases e with
  | look p => rw [show decide ((Ev.look p).word = ("look" : Str)) = true from by kernel_rfl, decide_eq_true (by omega : x.1 < most), Bool.and_true, Bool.or_true, Bool.true_or]
  | add p => rw [show decide ((Ev.add p).word = ("add" : Str)) = true from by kernel_rfl, Bool.true_or, Bool.true_or]
  | meet p q => rw [show decide (2 < (Ev.meet p q).size) = true from rfl, decide_eq_true (by omega : x.2.2.1 + x.2.2.2 < 8), Bool.and_true, Bool.or_true]
  | tell p q => rw [show decide (2 < (Ev.tell p q).size) = true from rfl, decide_eq_true (by omega : x.2.2.1 + x.2.2.2 < 8), Bool.and_true, Bool.or_true]
def spTable : ASp := fun ds μ R => ∃ pre post k b c, ∃ f laps most : Nat, ds = [.pr k, nD f, nD laps, .str "llaammtt", nD most] ∧ pre.length = k ∧ μ = pre ++ bx b :: post ∧ BOk c b ∧ c < 80000 ∧ 2 ≤ f ∧ f < 1000 ∧ laps ≤ 50 ∧ ∀ (fs : List Ev) b', (∀ e ∈ fs, e.Ok f) → fs.length ≤ laps → looksN fs ≤ most → (1 ≤ laps → 1 ≤ most → fs ≠ []) → BOk (c + 3 * laps) b' → R (Tab.enc ⟨f, fs⟩) (pre ++ bx b' :: post)
theorem ok_table (G : Facts K mg) : AOk P w K mg base 3 G.lawTable.f G.lawTable.fd ["_law_box_here", "_law_folk", "_law_laps", "_law_words", "_law_most"] spTable := by
  refine fnA G.lawTable.F sc_lawTable (fun ds μ R h => ?_) fun cdv Ar outer s H E ds μ R hr h => ?_
  · obtain ⟨pre, post, k, b, c, f, laps, most, rfl, _⟩ := h
    rfl
  · obtain ⟨pre, post, k, b, c, f, laps, most, rfl, hk, rfl, ok, hc, hf, hf2, hlp, q⟩ := h
    have nd := sc_lawTable.nd
    have hu := hu_of hr
    have hm : ∀ b, (pre ++ bx b :: post).length = (pre ++ bx b :: post).length := fun _ => rfl
    have hlen : ∀ b' : Int × Int × Int, (pre ++ bx b' :: post).length = (pre ++ bx b :: post).length := fun b' => by rw [List.length_append, List.length_append]; rfl
    generalize hM : (pre ++ bx b :: post).length = m at hlen
    have g1 : ∀ b' x y, (pre ++ bx b' :: (post ++ [x, y]))[m]? = some x := fun b' x y => by
      rw [← hlen b', ← List.cons_append, ← List.append_assoc]; exact get_at (i := 0) rfl
    have g2 : ∀ b' x y, (pre ++ bx b' :: (post ++ [x, y]))[m + 1]? = some y := fun b' x y => by
      rw [← hlen b', ← List.cons_append, ← List.append_assoc]; exact get_at (i := 1) rfl
    have s1 : ∀ b' x y z, (pre ++ bx b' :: (post ++ [x, y])).set m z = pre ++ bx b' :: (post ++ [z, y]) := fun b' x y z => by
      rw [← hlen b', ← List.cons_append, ← List.append_assoc]; exact (set_at (i := 0) rfl).trans (by rw [List.append_assoc, List.cons_append]; rfl)
    have s2 : ∀ b' x y z, (pre ++ bx b' :: (post ++ [x, y])).set (m + 1) z = pre ++ bx b' :: (post ++ [x, z]) := fun b' x y z => by
      rw [← hlen b', ← List.cons_append, ← List.append_assoc]; exact (set_at (i := 1) rfl).trans (by rw [List.append_assoc, List.cons_append]; rfl)
    refine aSs_cons ?_
    refine aS_par (i := 5) (j := 6) ?_ ?_ ?_ ?_ ?_ ?_ ?_ ?_ ?_ ?_ ?_ ?_
    rotate_left
    · exact nd
    · rfl
    · rfl
    · decide
    · rfl
    · rfl
    · rfl
    · rfl
    · rfl
    · rfl
    · rfl
    refine aE_lstC (aA_nil ⟨Nat.zero_le _, ?_⟩)
    refine aE_disp4 ?_
    refine aPs_cons (key := .inr "look") ev_str rfl (aE_ev ev_0 ?_)
    refine aPs_cons (key := .inr "add") ev_str rfl (aE_ev ev_0 ?_)
    refine aPs_cons (key := .inr "meet") ev_str rfl (aE_ev ev_0 ?_)
    refine aPs_cons (key := .inr "tell") ev_str rfl (aE_ev ev_0 (aPs_nil ⟨get_at (i := 0) rfl, ?_⟩))
    have e0 : ((pre ++ bx b :: post ++ [Cell.lst []]) ++ [Cell.dK []]).set (pre ++ bx b :: post ++ [Cell.lst []]).length (.dK (cntD (0, 0, 0, 0))) = pre ++ bx b :: (post ++ [.lst ((([] : List Ev)).map Ev.enc), .dK (cntD (0, 0, 0, 0))]) := by
      exact (set0 (pre := pre ++ bx b :: post ++ [Cell.lst []]) (post := []) rfl).trans (by simp)
    have e1 : (pre ++ bx b :: post ++ [Cell.lst []]).length = m + 1 := by rw [List.length_append, hM]; rfl
    refine aSs_cons (aS_forL (L := List.range laps) (enc := nD) (wi_range (n := laps) G.n_range (ev_v 2) (by omega))
      (fun L ρ μ' => ∃ o7 o8 o9, ∃ (fs : List Ev) (x : Nat × Nat × Nat × Nat) (b' : Int × Int × Int), ρ = [some (.pr k), some (nD f), some (nD laps), some (.str "llaammtt"), some (nD most), some (.pr m), some (.pr (m + 1)), o7, o8, o9] ∧ (∀ e ∈ fs, e.Ok f) ∧ fs.length ≤ L.length ∧ looksN fs = x.1 ∧ x.1 ≤ most ∧ L.length ≤ laps ∧ BOk (c + 3 * L.length) b' ∧ (x.1 + x.2.1 + x.2.2.1 + x.2.2.2 = fs.length ∧ (L ≠ [] → 1 ≤ most → fs ≠ [])) ∧ μ' = pre ++ bx b' :: (post ++ [Cell.lst (fs.map Ev.enc), Cell.dK (cntD x)]))
      ⟨none, none, none, [], (0, 0, 0, 0), b, ?_, (fun e he => (by cases he)), Nat.le_refl _, rfl, Nat.zero_le _, Nat.zero_le _, ok.mono (by omega), ⟨rfl, fun z => absurd rfl z⟩, e0⟩ (fun L x rest ρ' μ' hL ⟨o7, o8, o9, fs, cx, b', h1, h2, h3, h4, h5, h6, h7, ⟨h9, h10⟩, h8⟩ => ?_) (fun ρ' μ' ⟨o7, o8, o9, fs, cx, b', h1, h2, h3, h4, h5, h6, h7, ⟨h9, h10⟩, h8⟩ => ?_))
    · rw [e1, hM]; rfl
    · subst h1 h8
      have hLl : L.length + 1 ≤ laps := by
        have := congrArg List.length hL
        rw [List.length_range, List.length_append, List.length_cons] at this
        omega
      refine aG_name (i := 7) ?_ nd
      refine aSs_cons (aS_set (i := 8) (aE_def G.lawEvent (ok_event G) hr (aA_ev (va_cons (ev_v 0) (va_cons (ev_v 1) (va_cons (ev_v 3) va_nil))) ⟨pre, _, k, b', c + 3 * L.length, f, rfl, hk, rfl, h7, by omega, hf, hf2, fun e b2 he ok2 => ?_⟩)) nd)
      have v1 : valD (cntD cx) (.inr ("meet" : Str)) = some (nD cx.2.2.1) := by kernel_rfl
      have v2 : valD (cntD cx) (.inr ("tell" : Str)) = some (nD cx.2.2.2) := by kernel_rfl
      refine aSs_cons (aS_set (i := 9) (aE_ev (ev_addN (i := cx.2.2.1) (j := cx.2.2.2) (aE_dget hu (ev_v 6) ev_str (g2 _ _ _) rfl v1 ⟨rfl, rfl⟩) (aE_dget hu (ev_v 6) ev_str (g2 _ _ _) rfl v2 ⟨rfl, rfl⟩)) ?_) nd)
      have hlook : valD (cntD cx) (.inr ("look" : Str)) = some (nD cx.1) := by kernel_rfl
      obtain ⟨xs, ee, el, e0⟩ := enc_len e
      obtain ⟨n3, v3, p3⟩ := cnt_val e cx
      rw [ee]
      refine aSs_one (aS_if (aT_ev (tv_or3 (k1 := decide (e.word = ("add" : Str))) (k2 := decide (e.word = ("look" : Str)) && decide (cx.1 < most)) (k3 := decide (2 < e.size) && decide (cx.2.2.1 + cx.2.2.2 < 8)) (tv_eqS (ev_t (i := 0) (ev_v 8) e0) ev_str) (fun _ => tv_and (tv_eqS (ev_t (i := 0) (ev_v 8) e0) ev_str) fun _ => tv_ltN (aE_dget hu (ev_v 6) ev_str (g2 _ _ _) rfl hlook ⟨rfl, rfl⟩) (ev_v 4)) (fun _ _ => tv_and (tv_gtN (i := e.size) (j := 2) (ev_cast (ev_len G.n_len (ev_v 8) .t) (by rw [el])) ev_2) fun _ => tv_ltN (i := cx.2.2.1 + cx.2.2.2) (j := 8) (ev_v 9) ev_int)) ?_))
      by_cases hc1 : (decide (e.word = ("add" : Str)) || (decide (e.word = ("look" : Str)) && decide (cx.1 < most)) || (decide (2 < e.size) && decide (cx.2.2.1 + cx.2.2.2 < 8))) = true
      · rw [if_pos hc1]
        refine aSs_cons (aS_dput hu (aE_ev (ev_addN (i := n3) (j := 1) (aE_dget hu (ev_v 6) (ev_t (i := 0) (ev_v 8) e0) (g2 _ _ _) rfl v3 ⟨rfl, rfl⟩) ev_1) ⟨ev_v 6, ev_t (i := 0) (ev_v 8) e0, _, _, g2 _ _ _, rfl, (by show 4 < sizeLine; decide), ?_⟩))
        rw [p3, s2]
        refine aSs_one (aS_expr (aE_append (ev_v 5) (g1 _ _ _) (aE_ev (ev_v 8) ⟨_, g1 _ _ _, ?_, ?_⟩)))
        · rw [List.length_map, sizeLine_eq]; omega
        · rw [s1, ← ee]
          have hcu := cntUp_look e cx fs h4
          refine ⟨_, _, _, fs ++ [e], cntUp e cx, b2, rfl, fun y hy => ?_, by rw [List.length_append, List.length_append]; exact Nat.add_le_add_right h3 1, hcu.1, hcu.2 most h5 hc1, by rw [List.length_append]; exact hLl, ok2.mono (by rw [List.length_append, List.length_singleton]; omega), ⟨by rw [List.length_append, ← h9]; exact cntUp_sum e cx, fun _ _ => by simp⟩, by rw [List.map_append]; rfl⟩
          rcases List.mem_append.mp hy with z | z
          · exact h2 y z
          · rw [List.mem_singleton.mp z]; exact he
      · rw [if_neg hc1]
        refine aSs_nil ⟨_, _, _, fs, cx, b2, rfl, h2, Nat.le_trans h3 (by rw [List.length_append]; omega), h4, h5, by rw [List.length_append]; exact hLl, ok2.mono (by rw [List.length_append, List.length_singleton]; omega), ⟨h9, fun _ hm1 z => hc1 ?_⟩, rfl⟩
        subst z
        exact cnt_first e cx h9 hm1
    · subst h1 h8
      rw [List.length_range] at h3 h7
      refine aSs_one (aS_ret (aE_ev (ev_tup (va_cons (ev_v 1) (va_cons (ev_tuple (xs := fs.map Ev.enc) G.n_tuple (ev_v 5) (.p (g1 _ _ _))) va_nil))) ⟨_, _, Exit.box (clo_enc ⟨f, fs⟩), q fs b' h2 h3 (by omega) (fun l1 => h10 (by intro z; rw [List.range_eq_nil] at z; omega)) h7⟩))
end HF

/-! ## Q4 -/
namespace HF
open PySem PySem.Spec PyProof.Rows L2 NdefX
variable {P : Program} {w : World} {K : PySem.W.Frag} {mg : Str → Option Value} {base : Heap}
def spLive : ASp := fun ds μ R => ∃ pre post k b c, ∃ f laps most : Nat, ds = [.pr k, nD f, nD laps, nD most] ∧ pre.length = k ∧ μ = pre ++ bx b :: post ∧ BOk c b ∧ c < 80000 ∧ 2 ≤ f ∧ f < 1000 ∧ 1 ≤ laps ∧ laps ≤ 50 ∧ 1 ≤ most ∧
  ∀ (fs : List Ev) b', (∀ e ∈ fs, e.Ok f) → fs.length ≤ laps + 1 → looksN fs ≤ most → 1 ≤ looksN fs → BOk (c + 3 * laps + 1) b' → R (Tab.enc ⟨f, fs⟩) (pre ++ bx b' :: post)
theorem ok_live (G : Facts K mg) : AOk P w K mg base 4 G.lawLive.f G.lawLive.fd ["_law_box_here", "_law_folk", "_law_laps", "_law_most"] spLive := by
  refine fnA G.lawLive.F sc_lawLive (fun ds μ R h => ?_) fun cdv Ar outer s H E ds μ R hr h => ?_
  · obtain ⟨pre, post, k, b, c, f, laps, most, rfl, _⟩ := h
    rfl
  · obtain ⟨pre, post, k, b, c, f, laps, most, rfl, hk, rfl, ok, hc, hf, hf2, hl1, hlp, hm1, q⟩ := h
    have nd := sc_lawLive.nd
    refine aSs_cons (aS_set (i := 4) (aE_def G.lawTable (ok_table G) hr (aA_ev (va_cons (ev_v 0) (va_cons (ev_v 1) (va_cons (ev_v 2) (va_cons ev_str (va_cons (ev_v 3) va_nil))))) ⟨pre, post, k, b, c, f, laps, most, rfl, hk, rfl, ok, hc, hf, hf2, hlp, fun fs b1 h1 h2 h3 h4 ok1 => ?_⟩)) nd)
    have hne := h4 hl1 hm1
    refine aSs_cons (aS_if (aT_ev (tv_cmp ev_str (aE_lc (c := false) (own := [("_law_deed", 5)]) (lcm (L := fs) (enc := Ev.enc) (g := fun e => .str e.word) (env := fun e => [some (.pr k), some (nD f), some (nD laps), some (nD most), some (Tab.enc ⟨f, fs⟩), some e.enc]) ?_ ?_ ?_ ?_ ⟨rfl, rfl⟩) (blkOk_by (by kernel_rfl)) nd) (aop_inS (ns := fs.map Ev.word) (by rw [List.map_map]; exact isl) ⟨rfl, rfl⟩)) ?_))
    · exact vi_tup (ev_t (i := 1) (ev_v 4))
    · exact small1000 (by omega)
    · intro e _ s H C cl fp
      exact aGc_name (i := 5) ⟨rfl, rfl⟩ nd
    · intro e _ s H C cl fp
      obtain ⟨xs, ee, _, e0⟩ := enc_len e
      rw [ee]
      exact ev_t (i := 0) (ev_v 5) e0
    · have hmem : ("look" : Str) ∈ fs.map Ev.word ↔ 1 ≤ looksN fs := by
        unfold looksN
        constructor
        · intro z
          obtain ⟨e, he, ew⟩ := List.mem_map.mp z
          exact List.length_pos_of_mem (List.mem_filter.mpr ⟨he, decide_eq_true ew⟩)
        · intro z
          obtain ⟨e, he⟩ := List.exists_mem_of_length_pos z
          obtain ⟨he1, he2⟩ := List.mem_filter.mp he
          exact List.mem_map.mpr ⟨e, he1, of_decide_eq_true he2⟩
      by_cases hz : ("look" : Str) ∈ fs.map Ev.word
      · rw [if_pos (decide_eq_true hz)]
        exact aSs_one (aS_ret (aE_ev (ev_v 4) (endR (q fs b1 h1 (by omega) h3 (hmem.mp hz) (ok1.mono (by omega))))))
      · rw [if_neg (by rw [decide_eq_false hz]; decide)]
        refine aSs_nil (aSs_one (aS_ret (aE_tup ?_)))
        refine aA_cons (aE_ev (ev_v 1) ?_)
        refine aA_cons ?_
        refine aE_op (aE_ev (ev_t (i := 1) (ev_v 4)) ?_)
        refine aE_tup (aA_cons (aE_tup (aA_cons (aE_ev ev_str (aA_cons (aE_take G (hr.mono (by decide)) (ev_v 0) (ev_v 1) hk ok1 (by omega) (by omega) (by omega) fun r b2 hr2 ok2 => ?_))))))
        refine aA_nil ⟨by show 2 ≤ sizeLine; decide, aA_nil ⟨by show 1 ≤ sizeLine; decide, ?_⟩⟩
        refine aop_catT (by simpa using hne) (by rw [List.length_map, List.length_singleton, sizeLine_eq]; show fs.length + 1 ≤ _; omega) (aA_nil ⟨by show 2 ≤ sizeLine; decide, ?_⟩)
        have h0 : looksN fs = 0 := by
          have := mt hmem.mpr hz
          omega
        have hl : looksN (fs ++ [Ev.look r]) = 1 := by
          have : looksN (fs ++ [Ev.look r]) = looksN fs + 1 := by
            unfold looksN
            rw [List.filter_append, List.length_append, List.filter_cons, if_pos (by kernel_rfl)]
            rfl
          rw [this, h0]
        have := q (fs ++ [Ev.look r]) b2 (fun e he => by
          rcases List.mem_append.mp he with z | z
          · exact h1 e z
          · rw [List.mem_singleton.mp z]; exact hr2) (by rw [List.length_append]; exact Nat.add_le_add_right h2 1) (by omega) (by omega) ok2
        refine endR ?_
        unfold Tab.enc at this
        rw [List.map_append] at this
        exact this
end HF

/-! ## Q5 -/
namespace HF
open PySem PySem.Spec PyProof.Rows L2 NdefX
variable {P : Program} {w : World} {K : PySem.W.Frag} {mg : Str → Option Value} {base : Heap}
def spOf : ASp := fun ds μ R => ∃ pre post k b c, ∃ l : List Nat, ds = [.pr k, .lst (l.map nD)] ∧ pre.length = k ∧ μ = pre ++ bx b :: post ∧ BOk c b ∧ c < 90000 ∧ l ≠ [] ∧ l.length < 1000 ∧ ∀ x b', x ∈ l → BOk (c + 1) b' → R (nD x) (pre ++ bx b' :: post)
theorem ok_of (G : Facts K mg) : AOk P w K mg base 2 G.lawOf.f G.lawOf.fd ["_law_box_here", "_law_some"] spOf := by
  refine fnA G.lawOf.F sc_lawOf (fun ds μ R h => ?_) fun cdv Ar outer s H E ds μ R hr h => ?_
  · obtain ⟨pre, post, k, b, c, l, rfl, _⟩ := h
    rfl
  · obtain ⟨pre, post, k, b, c, l, rfl, hk, rfl, ok, hc, hl, hl2, q⟩ := h
    have hlp : 0 < l.length := List.length_pos_iff.mpr hl
    refine aSs_one (aS_ret (aE_ix (aE_ev (ev_v 1) (aE_take G hr (ev_v 0) (n := l.length) (ev_cast (ev_len G.n_len (ev_v 1) isl) (by rw [List.length_map])) hk ok (by omega) hlp (by omega) fun r b1 hr1 ok1 => ?_))))
    exact aix isl (atI_nat (v := nD l[r]) (by rw [List.getElem?_map, List.getElem?_eq_getElem hr1]; rfl)) (endR (q _ b1 (List.getElem_mem _) ok1))
/-- the people's new names -/
def nm (ns : List Nat) (p : Nat) : Nat := ns.getD p 0
def moveE (ns : List Nat) : Ev → Ev
  | .look p => .look (nm ns p)
  | .add p => .add (nm ns p)
  | .meet p q => .meet (nm ns p) (nm ns q)
  | .tell p q => .tell (nm ns p) (nm ns q)
def Ev.args : Ev → List Nat
  | .look p => [p]
  | .add p => [p]
  | .meet p q => [p, q]
  | .tell p q => [p, q]
theorem enc_args (e : Ev) : e.enc = .tup (.str e.word :: e.args.map nD) := by cases e <;> rfl
theorem move_args (ns : List Nat) (e : Ev) : (moveE ns e).enc = .tup (.str e.word :: (e.args.map (nm ns)).map nD) := by cases e <;> rfl
theorem args_ok {f : Nat} {e : Ev} (h : e.Ok f) : ∀ p ∈ e.args, p < f := by
  cases e with
  | look p => intro q hq; rw [List.mem_singleton.mp hq]; exact h
  | add p => intro q hq; rw [List.mem_singleton.mp hq]; exact h
  | meet p q =>
    intro r hr
    rcases List.mem_cons.mp hr with z | z
    · rw [z]; exact h.1
    · rw [List.mem_singleton.mp z]; exact h.2
  | tell p q =>
    intro r hr
    rcases List.mem_cons.mp hr with z | z
    · rw [z]; exact h.1
    · rw [List.mem_singleton.mp z]; exact h.2
theorem args_len (e : Ev) : 1 ≤ e.args.length ∧ e.args.length ≤ 2 := by cases e <;> simp [Ev.args]
theorem sIx_one (n : Nat) : HT.sIx (n + 1) 0 (some 1) = 1 := by
  have := HT.sIx_nat (n + 1) 0 1
  exact this.trans (by omega)
theorem cutD_tail (x : D) (l : List D) : cutD (x :: l) (some 1) none = l := by
  unfold cutD
  rw [show HT.sIx (x :: l).length (x :: l).length none = (x :: l).length from rfl, List.length_cons, sIx_one]
  simp
def spMoved : ASp := fun ds μ R => ∃ e : Ev, ∃ ns : List Nat, ds = [e.enc, .lst (ns.map nD)] ∧ e.Ok ns.length ∧ R (moveE ns e).enc μ
theorem ok_moved (G : Facts K mg) : AOk P w K mg base 1 G.lawMoved.f G.lawMoved.fd ["_law_deed", "_law_names"] spMoved := by
  refine fnA G.lawMoved.F sc_lawMoved (fun ds μ R h => ?_) fun cdv Ar outer s H E ds μ R hr h => ?_
  · obtain ⟨e, ns, rfl, _⟩ := h
    rfl
  · obtain ⟨e, ns, rfl, ok, q⟩ := h
    have nd := sc_lawMoved.nd
    have hal := args_len e
    have hao := args_ok ok
    rw [move_args] at q
    rw [enc_args]
    generalize e.args = as at q hal hao
    refine aSs_one (aS_ret (aE_ev (ev_catT (xs := [.str e.word]) (ys := (as.map (nm ns)).map nD) (ev_tup (va_cons (ev_t (i := 0) (ev_v 0)) va_nil)) (ev_tuple (xs := (as.map (nm ns)).map nD) G.n_tuple (aE_lc (c := false) (own := [("_law_p", 2)]) (lcm (L := as) (enc := nD) (g := fun p => nD (nm ns p)) (env := fun p => [some (.tup (.str e.word :: as.map nD)), some (.lst (ns.map nD)), some (nD p)]) ?_ ?_ ?_ ?_ ⟨by rw [List.map_map]; rfl, rfl⟩) (blkOk_by (by kernel_rfl)) nd) .l) (by simp) ?_) (endR q)))
    · refine vi_tup (aE_sl (l := some 1) (u := none) (ev_v 0) ev_int trivial (asl_t ?_ ⟨?_, rfl⟩))
      · rintro ⟨h, _⟩
        rw [List.length_cons, sIx_one] at h
        exact absurd h (by decide)
      · rw [cutD_tail]
    · exact small1000 (by omega)
    · intro o _ s H C cl fp
      exact aGc_name (i := 2) ⟨rfl, rfl⟩ nd
    · intro p hp s H C cl fp
      exact ev_ixN (i := p) (ev_v 1) (ev_v 2) isl (by rw [List.getElem?_map, List.getElem?_eq_getElem (hao p hp)]; show some _ = some _; unfold nm; rw [List.getD_eq_getElem?_getD, List.getElem?_eq_getElem (hao p hp)]; rfl)
    · rw [List.length_map, List.length_map, List.length_singleton, sizeLine_eq]; omega
end HF

/-! ## Q6 -/
namespace HF
open PySem PySem.Spec PyProof.Rows L2 NdefX
variable {P : Program} {w : World} {K : PySem.W.Frag} {mg : Str → Option Value} {base : Heap}
theorem ev_abs {X : Cx} {e : Expr} {ρ : AEnv} {μ : Sto} {p pos : Pos} {i : Int} (hm : X.mg "abs" = none) (h : EV X e ρ μ (.int i)) (hg : Gl X "abs" := by rfl) (he : starEach [e] X.env = (false, eval e X.env) :: starEach [] X.env := by rfl) (hpl : (backTo pos (starEach [] X.env)).any (·.1) = false := by rfl) :
    EV X (.Call (.Name "abs" p) [e] [] pos) ρ μ (.int (if i < 0 then -i else i)) := ev_callB (va_cons h va_nil he) (acall_abs ⟨rfl, rfl⟩) hm (by rfl) hg (by decide) (by decide) he hpl
theorem ev_toIntB {X : Cx} {e : Expr} {ρ : AEnv} {μ : Sto} {p pos : Pos} {k : Bool} (hm : X.mg "int" = none) (h : EV X e ρ μ (.bl k)) (hg : Gl X "int" := by rfl) (he : starEach [e] X.env = (false, eval e X.env) :: starEach [] X.env := by rfl) (hpl : (backTo pos (starEach [] X.env)).any (·.1) = false := by rfl) :
    EV X (.Call (.Name "int" p) [e] [] pos) ρ μ (.int (if k then 1 else 0)) := ev_callTy (va_cons h va_nil he) (acall_intB ⟨rfl, rfl⟩) hm (by rfl) hg (by decide) (by decide) he hpl
def spBox : ASp := fun ds μ R => ∃ (ns : List Int) (lap : Nat), ds = [.scr (ns.map D.int), nD lap] ∧ lap < 100 ∧ ∀ b, BOk 0 b → R (.pr μ.length) (μ ++ [bx b])
theorem ok_box (G : Facts K mg) : AOk P w K mg base 1 G.lawBox.f G.lawBox.fd ["_law_script", "_law_lap"] spBox := by
  refine fnA G.lawBox.F sc_lawBox (fun ds μ R h => ?_) fun cdv Ar outer s H E ds μ R hr h => ?_
  · obtain ⟨ns, lap, rfl, _⟩ := h
    rfl
  · obtain ⟨ns, lap, rfl, hl, q⟩ := h
    have nd := sc_lawBox.nd
    refine aSs_cons (aS_set (i := 2) (aE_ev (d := .int (if decide (lap < ns.length) = true then ns.getD lap 0 else 0)) (ev_cast (ev_ite (k := decide (lap < ns.length)) (x := .int (ns.getD lap 0)) (y := .int 0) (tv_ltN (ev_v 1) (ev_cast (ev_len G.n_len (ev_v 0) .s) (by rw [List.length_map]))) (fun h => ?_) (fun _ => ev_int)) (by split <;> rfl)) ?_) nd)
    · have h' := of_decide_eq_true h
      exact ev_ixN (i := lap) (ev_v 0) (ev_v 1) .s (by rw [List.getElem?_map, List.getElem?_eq_getElem h', List.getD_eq_getElem?_getD, List.getElem?_eq_getElem h']; rfl)
    generalize (if decide (lap < ns.length) = true then ns.getD lap 0 else 0) = cell
    refine aSs_cons (aS_set (i := 3) (aE_ev (ev_mod (i := (cell % 2305843009213693921 + 41177 * (lap : Int) + 53) * 38923) (j := 2147483563) (ev_toInt G.n_int (ev_mul (i := cell % 2305843009213693921 + 41177 * (lap : Int) + 53) (j := 38923) (ev_add (ev_add (ev_mod (i := cell) (j := 2305843009213693921) (ev_toInt G.n_int (ev_v 2)) ev_int (by decide)) (ev_mul (i := 41177) (j := (lap : Int)) ev_int (ev_v 1) (.inl ⟨by decide, by decide⟩))) ev_int) ev_int (.inr ⟨by decide, by decide⟩))) ev_int (by decide)) ?_) nd)
    have ho : ∀ z : Int, 0 ≤ z % 2147483563 ∧ z % 2147483563 < 2147483563 := fun z => ⟨Int.emod_nonneg _ (by decide), Int.emod_lt_of_pos _ (by decide)⟩
    generalize (cell % 2305843009213693921 + 41177 * (lap : Int) + 53) * 38923 = z
    have ha : 0 ≤ (if cell < 0 then -cell else cell) := by split <;> omega
    have hB : ∀ k : Bool, -(2 ^ 64) < (if k = true then (1 : Int) else 0) ∧ (if k = true then (1 : Int) else 0) < 2 ^ 64 := fun k => by cases k <;> decide
    have hB2 : ∀ k : Bool, 0 ≤ (if k = true then (1 : Int) else 0) := fun k => by cases k <;> decide
    refine aSs_one (aS_ret (aE_lstC (aA_cons (aE_ev (ev_mul (i := if cell < 0 then -cell else cell) (j := if decide ((10 : Int) ^ (18 : Int).toNat ≤ (if cell < 0 then -cell else cell)) then 1 else 0) (ev_abs G.n_abs (ev_v 2)) (ev_toIntB G.n_int (ev_ge (ev_abs G.n_abs (ev_v 2)) (ev_pow (i := 10) (j := 18) ev_int ev_int ⟨by decide, by decide, by decide⟩))) (.inr ?_)) (aA_cons (aE_ev (ev_v 3) (aA_cons (aE_ev ev_0 (aA_nil ⟨by show 3 ≤ sizeLine; decide, ⟨_, _, Exit.same, q ((if cell < 0 then -cell else cell) * (if decide ((10 : Int) ^ (18 : Int).toNat ≤ (if cell < 0 then -cell else cell)) then 1 else 0), z % 2147483563, 0) ⟨?_, (ho z).1, ?_, Int.le_refl _, Int.le_refl _⟩⟩⟩)))))))))
    · exact hB _
    · exact Int.mul_nonneg ha (hB2 _)
    · have := (ho z).2
      show z % 2147483563 < 2147483648
      omega
end HF

/-! ## Q7 -/
namespace HF
open PySem PySem.Spec PyProof.Rows L2 NdefX
variable {P : Program} {w : World} {K : PySem.W.Frag} {mg : Str → Option Value} {base : Heap}
def crossedM (some more : List Nat) : Ps := some.flatMap fun one => ((more.filter fun t => !decide (t = one)).map fun t => (one, t)) ++ ((more.filter fun t => !decide (t = one)).map fun t => (t, one))
abbrev ktD (p : Nat × Nat) : D := .kt (pK p)
def spCrossed : ASp := fun ds μ R => ∃ some more : List Nat, ds = [.lst (some.map nD), .lst (more.map nD)] ∧ some.length ≤ 50 ∧ more.length ≤ 50 ∧ R (.lst ((crossedM some more).map ktD)) μ
theorem ok_crossed (G : Facts K mg) : AOk P w K mg base 1 G.lawCrossed.f G.lawCrossed.fd ["_law_some", "_law_more"] spCrossed := by
  refine fnA G.lawCrossed.F sc_lawCrossed (fun ds μ R h => ?_) fun cdv Ar outer s H E ds μ R hr h => ?_
  · obtain ⟨sm, mr, rfl, _⟩ := h
    rfl
  · obtain ⟨sm, mr, rfl, hs, hm, q⟩ := h
    have nd := sc_lawCrossed.nd
    refine aSs_cons (aS_set (i := 2) (aE_ev (d := .lst (([] : Ps).map ktD)) (ev_lst va_nil) ?_) nd)
    refine aSs_cons (aS_forL (L := sm) (enc := nD) (wi_list (ev_v 0))
      (fun L ρ μ' => ∃ o3, ρ = [some (.lst (sm.map nD)), some (.lst (mr.map nD)), some (.lst ((crossedM L mr).map ktD)), o3, none] ∧ μ' = μ ∧ (crossedM L mr).length ≤ 100 * L.length) ⟨none, rfl, rfl, Nat.zero_le _⟩ (fun L x rest ρ' μ' hL ⟨o3, h1, h2, h3⟩ => ?_) (fun ρ' μ' ⟨o3, h1, h2, h3⟩ => ?_))
    · subst h1 h2
      have hLl : L.length + 1 ≤ 50 := by
        have := congrArg List.length hL
        rw [List.length_append, List.length_cons] at this
        omega
      have hfl : (mr.filter fun t => !decide (t = x)).length ≤ 50 := Nat.le_trans (List.length_filter_le _ _) hm
      have hadd : crossedM (L ++ [x]) mr = crossedM L mr ++ (((mr.filter fun t => !decide (t = x)).map fun t => (x, t)) ++ ((mr.filter fun t => !decide (t = x)).map fun t => (t, x))) := by
        unfold crossedM
        rw [List.flatMap_append, List.flatMap_cons, List.flatMap_nil, List.append_nil]
      generalize hA : crossedM L mr = A at h3 hadd
      refine aG_name (i := 3) ?_ nd
      refine aSs_one (aS_set (i := 2) (aE_ev (ev_cat (ev_cat (ev_v 2) (aE_lc (c := false) (own := [("_law_two", 4)]) (lcp (L := mr) (enc := nD) (pr := fun t => !decide (t = x)) (g := fun t => ktD (x, t)) (env := fun t => [some (.lst (sm.map nD)), some (.lst (mr.map nD)), some (.lst (A.map ktD)), some (nD x), some (nD t)]) ?_ ?_ ?_ ?_ ?_ ⟨rfl, rfl⟩) (blkOk_by (by kernel_rfl)) nd) .l .l ?_) (aE_lc (c := false) (own := [("_law_two", 4)]) (lcp (L := mr) (enc := nD) (pr := fun t => !decide (t = x)) (g := fun t => ktD (t, x)) (env := fun t => [some (.lst (sm.map nD)), some (.lst (mr.map nD)), some (.lst (A.map ktD)), some (nD x), some (nD t)]) ?_ ?_ ?_ ?_ ?_ ⟨rfl, rfl⟩) (blkOk_by (by kernel_rfl)) nd) .l .l ?_) ?_) nd)
      · exact vi_list (ev_v 1)
      · exact small1000 (by omega)
      · intro o _ s H C cl fp
        exact aGc_name (i := 4) ⟨rfl, rfl⟩ nd
      · intro o _ s H C cl fp
        exact tvs_one (tv_neN (ev_v 4) (ev_v 3))
      · intro o _ _ s H C cl fp
        exact ev_kt (ks := pK (x, o)) (va_cons (ev_v 3) (va_cons (ev_v 4) va_nil)) (hz := by show 2 ≤ 100; decide)
      · rw [List.length_map, List.length_map, sizeLine_eq]; omega
      · exact vi_list (ev_v 1)
      · exact small1000 (by omega)
      · intro o _ s H C cl fp
        exact aGc_name (i := 4) ⟨rfl, rfl⟩ nd
      · intro o _ s H C cl fp
        exact tvs_one (tv_neN (ev_v 4) (ev_v 3))
      · intro o _ _ s H C cl fp
        exact ev_kt (ks := pK (o, x)) (va_cons (ev_v 4) (va_cons (ev_v 3) va_nil)) (hz := by show 2 ≤ 100; decide)
      · rw [List.length_append, List.length_map, List.length_map, List.length_map, sizeLine_eq]; omega
      · refine ⟨some (nD x), ?_, rfl, ?_⟩
        · rw [hadd]
          simp only [List.map_append, List.map_map, List.append_assoc]
          rfl
        · rw [hadd, List.length_append, List.length_append, List.length_append, List.length_map, List.length_map, List.length_singleton]
          omega
    · subst h1 h2
      exact aSs_one (aS_ret (aE_ev (ev_v 2) (endR q)))
end HF

/-! ## Q8 -/
namespace HF
open PySem PySem.Spec PyProof.Rows L2 NdefX
variable {P : Program} {w : World} {K : PySem.W.Frag} {mg : Str → Option Value} {base : Heap}
/-- what each person has seen: look numbers below n, each once -/
def Seen (n : Nat) (hs : List (List Nat)) : Prop := ∀ h ∈ hs, h.Nodup ∧ ∀ x ∈ h, x < n
theorem Seen.get {n : Nat} {hs : List (List Nat)} (s : Seen n hs) (p : Nat) : (hs.getD p []).Nodup ∧ ∀ x ∈ hs.getD p [], x < n := by
  rw [List.getD_eq_getElem?_getD]
  cases e : hs[p]? with
  | none => exact ⟨List.nodup_nil, fun x hx => (by cases hx)⟩
  | some h => exact s h (List.mem_of_getElem? e)
theorem Seen.set {n : Nat} {hs : List (List Nat)} (s : Seen n hs) {p : Nat} {l : List Nat} (h1 : l.Nodup) (h2 : ∀ x ∈ l, x < n) : Seen n (hs.set p l) := fun h hh => by
  rcases List.mem_or_eq_of_mem_set hh with z | z
  · exact s h z
  · rw [z]; exact ⟨h1, h2⟩
theorem crossed_bd {n : Nat} {a b : List Nat} (h1 : ∀ x ∈ a, x < n) (h2 : ∀ x ∈ b, x < n) : ∀ p ∈ crossedM a b, p.1 < n ∧ p.2 < n ∧ p.1 ≠ p.2 := fun p hp => by
  obtain ⟨x, hx, hp⟩ := List.mem_flatMap.mp hp
  rcases List.mem_append.mp hp with z | z
  · obtain ⟨y, hy, rfl⟩ := List.mem_map.mp z
    obtain ⟨hy1, hy2⟩ := List.mem_filter.mp hy
    have : y ≠ x := fun z => by rw [z] at hy2; simp at hy2
    exact ⟨h1 x hx, h2 y hy1, fun z => this z.symm⟩
  · obtain ⟨y, hy, rfl⟩ := List.mem_map.mp z
    obtain ⟨hy1, hy2⟩ := List.mem_filter.mp hy
    have : y ≠ x := fun z => by rw [z] at hy2; simp at hy2
    exact ⟨h2 y hy1, h1 x hx, this⟩
theorem crossed_len (b : List Nat) : ∀ a : List Nat, (crossedM a b).length ≤ a.length * (2 * b.length)
  | [] => Nat.zero_le _
  | x :: a => by
    have ih := crossed_len b a
    have hf := List.length_filter_le (fun t => !decide (t = x)) b
    have e : (crossedM (x :: a) b).length = (b.filter fun t => !decide (t = x)).length + (b.filter fun t => !decide (t = x)).length + (crossedM a b).length := by
      unfold crossedM
      rw [List.flatMap_cons, List.length_append, List.length_append, List.length_map, List.length_map]
    rw [e, List.length_cons, Nat.succ_mul]
    omega
def spPassed : ASp := fun ds μ R => ∃ (j n : Nat) (hs : List (List Nat)) (meet : Bool) (p r : Nat) (kind : Str), ds = [.pr j, .tup [.str (wordS meet), nD p, nD r], .str kind] ∧ μ[j]? = some (.dK (encH hs)) ∧ p < hs.length ∧ r < hs.length ∧ hs.length ≤ 100 ∧ n ≤ 20 ∧ Seen n hs ∧
  ∀ (l : Ps) (hs' : List (List Nat)), hs'.length = hs.length → Seen n hs' → (∀ q ∈ l, q.1 < n ∧ q.2 < n ∧ q.1 ≠ q.2) → l.length ≤ 2000 → R (.lst (l.map ktD)) (μ.set j (.dK (encH hs')))
theorem ok_passed (G : Facts K mg) : AOk P w K mg base 2 G.lawPassed.f G.lawPassed.fd ["_law_has", "_law_deed", "_law_sort_so"] spPassed := by
  refine fnA G.lawPassed.F sc_lawPassed (fun ds μ R h => ?_) fun cdv Ar outer s H E ds μ R hr h => ?_
  · obtain ⟨j, n, hs, meet, p, r, kind, rfl, _⟩ := h
    rfl
  · obtain ⟨j, n, hs, meet, p, r, kind, rfl, hj, hp, hq, hl, hn, hse, q⟩ := h
    have nd := sc_lawPassed.nd
    have hu := hu_of hr
    obtain ⟨n1, b1⟩ := hse.get p
    obtain ⟨n2, b2⟩ := hse.get r
    have l1 := nodup_bd n1 b1
    have l2 := nodup_bd n2 b2
    refine aSs_cons (aS_par (i := 3) (j := 4) (aE_ev (ev_ixH hu (ev_v 0) (ev_t (i := 1) (ev_v 1)) hj hp) (aE_ev (ev_ixH hu (ev_v 0) (ev_t (i := 2) (ev_v 1)) hj hq) ?_)) nd)
    have set_same : μ.set j (.dK (encH hs)) = μ := by
      refine List.ext_getElem? fun i => ?_
      rw [List.getElem?_set]
      split
      · rename_i e
        subst e
        rw [hj]
        rw [if_pos (List.getElem?_eq_some_iff.mp hj).1]
      · rfl
    have lastm : ∀ (l : List Nat) (x : Nat), x ∈ l.getLast?.toList → x ∈ l := fun l x hx => by
      cases e : l.getLast? with
      | none => rw [e] at hx; cases hx
      | some y => rw [e] at hx; rw [List.mem_singleton.mp hx]; exact List.mem_of_getLast? e
    have lastl : ∀ l : List Nat, l.getLast?.toList.length ≤ 1 := fun l => by cases l.getLast? <;> simp
    refine aSs_cons (aS_if (aT_ev (tv_neS (ev_v 2) ev_str) ?_))
    by_cases hk : kind = ("long" : Str)
    · rw [if_neg (by rw [decide_eq_true hk]; decide)]
      refine aSs_nil ?_
      refine aSs_cons (aS_set (i := 5) (aE_ev (aE_uni (l := hs.getD p [] ++ hs.getD r []) (ev_cast (ev_cat (ev_v 3) (ev_v 4) .l .l (by rw [List.length_map, List.length_map, sizeLine_eq]; omega)) (by rw [List.map_append])) (by rw [List.length_append]; omega) (fun x hx => by
        rcases List.mem_append.mp hx with z | z
        · have := b1 x z; omega
        · have := b2 x z; omega) G.n_sorted G.n_set) ?_) nd)
      have hund := uni_nodup (hs.getD p [] ++ hs.getD r [])
      have hub : ∀ x ∈ uni (hs.getD p [] ++ hs.getD r []), x < n := fun x hx => by
        rcases List.mem_append.mp (uni_mem.mp hx).2 with z | z
        · exact b1 x z
        · exact b2 x z
      have hul := nodup_bd hund hub
      generalize uni (hs.getD p [] ++ hs.getD r []) = U at hund hub hul
      have hjl := (List.getElem?_eq_some_iff.mp hj).1
      refine aSs_cons (aS_dput hu (aE_ev (ev_v 5) ⟨ev_v 0, ev_t (i := 2) (ev_v 1), _, _, hj, rfl, (by rw [encH_len, sizeLine_eq]; omega), ?_⟩))
      rw [putD_encH hq]
      have hlen : (crossedM U U).length ≤ 2000 := by
        have := crossed_len U U
        have h2 : U.length * (2 * U.length) ≤ 20 * (2 * 20) := Nat.mul_le_mul (by omega) (by omega)
        omega
      have fin : ∀ hs', hs'.length = hs.length → Seen n hs' → R (.lst ((crossedM U U).map ktD)) (μ.set j (.dK (encH hs'))) := fun hs' e1 e2 => q _ hs' e1 e2 (crossed_bd hub hub) hlen
      have hj2 : (μ.set j (.dK (encH (hs.set r U))))[j]? = some (.dK (encH (hs.set r U))) := by rw [List.getElem?_set_self hjl]
      refine aSs_cons (aS_if (aT_ev (tv_eqS (ev_t (i := 0) (ev_v 1)) ev_str) ?_))
      cases meet with
      | true =>
        rw [if_pos (by kernel_rfl)]
        refine aSs_one (aS_dput hu (aE_ev (ev_v 5) ⟨ev_v 0, ev_t (i := 1) (ev_v 1), _, _, hj2, rfl, (by rw [encH_len, List.length_set, sizeLine_eq]; omega), ?_⟩))
        rw [putD_encH (by rw [List.length_set]; exact hp), List.set_set]
        exact aSs_one (aS_ret (aE_def G.lawCrossed (ok_crossed G) hr (aA_ev (va_cons (ev_v 5) (va_cons (ev_v 5) va_nil)) ⟨U, U, rfl, by omega, by omega, ⟨_, _, Exit.same, fin _ (by rw [List.length_set, List.length_set]) ((hse.set hund hub).set hund hub)⟩⟩)))
      | false =>
        rw [if_neg (by decide +kernel)]
        refine aSs_nil ?_
        exact aSs_one (aS_ret (aE_def G.lawCrossed (ok_crossed G) hr (aA_ev (va_cons (ev_v 5) (va_cons (ev_v 5) va_nil)) ⟨U, U, rfl, by omega, by omega, ⟨_, _, Exit.same, fin _ (by rw [List.length_set]) (hse.set hund hub)⟩⟩)))
    · rw [if_pos (by rw [decide_eq_false hk]; rfl)]
      refine aSs_one (aS_ret (aE_def G.lawCrossed (ok_crossed G) hr (aA_ev (va_cons (ev_cast (ev_slN (lo := some (-1)) (hi := none) (ev_v 3) .l (ev_neg ev_int) trivial) (by rw [cutD_last])) (va_cons (ev_cast (ev_slN (lo := some (-1)) (hi := none) (ev_v 4) .l (ev_neg ev_int) trivial) (by rw [cutD_last])) va_nil)) ⟨(hs.getD p []).getLast?.toList, (hs.getD r []).getLast?.toList, rfl, Nat.le_trans (lastl _) (by decide), Nat.le_trans (lastl _) (by decide), endR ?_⟩)))
      have := q (crossedM (hs.getD p []).getLast?.toList (hs.getD r []).getLast?.toList) hs rfl hse (crossed_bd (fun x hx => b1 x (lastm _ x hx)) fun x hx => b2 x (lastm _ x hx)) ?_
      · rw [set_same] at this; exact this
      · refine Nat.le_trans (crossed_len _ _) ?_
        have h1 := lastl (hs.getD p [])
        have h2 := lastl (hs.getD r [])
        have := Nat.mul_le_mul h1 (Nat.mul_le_mul_left 2 h2)
        omega
end HF

/-! ## Q9 -/
namespace HF
open PySem PySem.Spec PyProof.Rows L2 NdefX
variable {P : Program} {w : World} {K : PySem.W.Frag} {mg : Str → Option Value} {base : Heap}
def webD (js jo jh jn jl : Nat) : List (Key × D) := [(.inr "spots", .pr js), (.inr "own", .pr jo), (.inr "has", .pr jh), (.inr "near", .pr jn), (.inr "low", .pr jl)]
def SL (μ : Sto) (jn jl : Nat) (N L : Ps) : Sto := (μ.set jn (.dT (encP N))).set jl (.dT (encP L))
structure NL (μ : Sto) (jn jl : Nat) : Prop where
  ne : jn ≠ jl
  n : jn < μ.length
  l : jl < μ.length
section
variable {μ : Sto} {jn jl : Nat} {N L N' L' : Ps}
theorem NL.gn (h : NL μ jn jl) : (SL μ jn jl N L)[jn]? = some (.dT (encP N)) := by
  unfold SL
  rw [List.getElem?_set_ne (Ne.symm h.ne), List.getElem?_set_self h.n]
theorem NL.gl (h : NL μ jn jl) : (SL μ jn jl N L)[jl]? = some (.dT (encP L)) := by
  unfold SL
  rw [List.getElem?_set_self (by rw [List.length_set]; exact h.l)]
theorem NL.go (h : NL μ jn jl) {i : Nat} (h1 : i ≠ jn) (h2 : i ≠ jl) : (SL μ jn jl N L)[i]? = μ[i]? := by
  unfold SL
  rw [List.getElem?_set_ne (Ne.symm h2), List.getElem?_set_ne (Ne.symm h1)]
theorem NL.sn (h : NL μ jn jl) : (SL μ jn jl N L).set jn (.dT (encP N')) = SL μ jn jl N' L := by
  unfold SL
  rw [List.set_comm _ _ (Ne.symm h.ne), List.set_set]
theorem NL.sl (h : NL μ jn jl) : (SL μ jn jl N L).set jl (.dT (encP L')) = SL μ jn jl N L' := by
  unfold SL
  rw [List.set_set]
theorem NL.self (h : NL μ jn jl) (h1 : μ[jn]? = some (.dT (encP N))) (h2 : μ[jl]? = some (.dT (encP L))) : SL μ jn jl N L = μ := by
  unfold SL
  refine List.ext_getElem? fun i => ?_
  rw [List.getElem?_set, List.getElem?_set]
  split
  · rename_i e; subst e; rw [if_pos (by rw [List.length_set]; exact h.l)]; exact h2.symm
  · split
    · rename_i e; subst e; rw [if_pos h.n]; exact h1.symm
    · rfl
end
section
variable {X : Cx} {ρ : AEnv} {μ : Sto} {E : AEnds}
/-- d[a, b], d[b, a] = True, True -/
theorem aS_two {o o' : Expr} {es es' : List Expr} {b1 b2 : Expr} {x1 p1 x2 p2 pos1 pos2 tk tp vk vp pos} {jn jl : Nat} {N L : Ps} {i j : Nat} (hu : X.A.units + 1 < cLine) (h : NL μ jn jl) (ho : ∀ μ', EV X o ρ μ' (.pr jn)) (ho' : ∀ μ', EV X o' ρ μ' (.pr jn)) (h1 : ∀ μ', EVA X es ρ μ' [nD i, nD j]) (h2 : ∀ μ', EVA X es' ρ μ' [nD j, nD i])
    (v1 : EV X b1 ρ (SL μ jn jl N L) (.bl true)) (v2 : EV X b2 ρ (SL μ jn jl N L) (.bl true)) (hl : N.length + 1 < sizeLine) (q : E.nx ρ (SL μ jn jl (addP (addP N (i, j)) (j, i)) L))
    (s1 : starEach [b1, b2] X.env = (false, eval b1 X.env) :: starEach [b2] X.env := by rfl) (s2 : starEach [b2] X.env = (false, eval b2 X.env) :: starEach [] X.env := by rfl)
    (hs : swapsWithSole [.Tuple [.Subscript o (.Tuple es x1 p1) pos1, .Subscript o' (.Tuple es' x2 p2) pos2] tk tp] (.Tuple [b1, b2] vk vp) pos.line X.env = pure false := by rfl) (hw : swappedStores [.Tuple [.Subscript o (.Tuple es x1 p1) pos1, .Subscript o' (.Tuple es' x2 p2) pos2] tk tp] (.Tuple [b1, b2] vk vp) X.env = pure none := by rfl)
    (h1' : (assignEach [.Tuple [.Subscript o (.Tuple es x1 p1) pos1, .Subscript o' (.Tuple es' x2 p2) pos2] tk tp] X.env).map (·.2) = [assign (.Tuple [.Subscript o (.Tuple es x1 p1) pos1, .Subscript o' (.Tuple es' x2 p2) pos2] tk tp) X.env] := by rfl)
    (ha : ∀ v, assign (.Subscript o (.Tuple es x1 p1) pos1) X.env v = (do
      let ov ← holding [v] (eval o X.env)
      let iv ← holding [v, ov] (eval (.Tuple es x1 p1) X.env)
      standAt pos1
      holding [v, ov, iv] (setItem ov iv v)
      release [v, ov, iv] []) := by intro _; rfl)
    (ha' : ∀ v, assign (.Subscript o' (.Tuple es' x2 p2) pos2) X.env v = (do
      let ov ← holding [v] (eval o' X.env)
      let iv ← holding [v, ov] (eval (.Tuple es' x2 p2) X.env)
      standAt pos2
      holding [v, ov, iv] (setItem ov iv v)
      release [v, ov, iv] []) := by intro _; rfl)
    (t1 : (assignEach [.Subscript o (.Tuple es x1 p1) pos1, .Subscript o' (.Tuple es' x2 p2) pos2] X.env).map (·.2) = assign (.Subscript o (.Tuple es x1 p1) pos1) X.env :: (assignEach [.Subscript o' (.Tuple es' x2 p2) pos2] X.env).map (·.2) := by rfl)
    (t2 : (assignEach [.Subscript o' (.Tuple es' x2 p2) pos2] X.env).map (·.2) = assign (.Subscript o' (.Tuple es' x2 p2) pos2) X.env :: (assignEach [] X.env).map (·.2) := by rfl)
    (hc : X.calm = true := by rfl) (hn : (assignEach [.Subscript o (.Tuple es x1 p1) pos1, .Subscript o' (.Tuple es' x2 p2) pos2] X.env).length = 2 := by rfl) :
    aS X (.Assign [.Tuple [.Subscript o (.Tuple es x1 p1) pos1, .Subscript o' (.Tuple es' x2 p2) pos2] tk tp] (.Tuple [b1, b2] vk vp) pos) ρ (SL μ jn jl N L) E := by
  refine aS_asg (aE_ev (ev_tup (va_cons v1 (va_cons v2 va_nil s2) s1)) ?_) hs hw h1'
  refine aG_tup (k := 2) (aGs_cons (aG_dputT (ks := pK (i, j)) hu (ho _) (h1 _).p2 h.gn (by unfold encP; rw [List.length_map]; omega) ?_ ha) t1) rfl hc hn
  rw [putD_encP, h.sn]
  refine aGs_cons (aG_dputT (ks := pK (j, i)) hu (ho' _) (h2 _).p2 h.gn (by
    unfold encP
    rw [List.length_map]
    have : (addP N (i, j)).length ≤ N.length + 1 := by
      unfold addP
      split
      · omega
      · rw [List.length_append, List.length_singleton]; omega
    omega) ?_ ha') t2
  rw [putD_encP, h.sn]
  exact aGs_nil q
end

theorem aS_mid {X : Cx} {st : Stmt} {ρ : AEnv} {μ : Sto} {E : AEnds} (Mid : AEnv → Sto → Prop) (h : aS X st ρ μ { E with nx := Mid }) (k : ∀ ρ' μ', Mid ρ' μ' → E.nx ρ' μ') : aS X st ρ μ E := fun η α H σ W Ev =>
  tS_mono (h η α H σ W Ev) (fun σ' H' ⟨α', μ', ρ', W', l, E', q⟩ => ⟨α', μ', ρ', W', l, E', k _ _ q⟩) (fun _ _ z => z) (fun _ _ z => z) (fun _ _ z => z)
def spClosed : ASp := fun ds μ R => ∃ (k js jo jh jn jl : Nat) (spots own N L : Ps), ds = [.pr k] ∧ μ[k]? = some (.dK (webD js jo jh jn jl)) ∧ μ[js]? = some (.lst (spots.map pD)) ∧ μ[jo]? = some (.lst (own.map pD)) ∧ NL μ jn jl ∧ spots.length ≤ 8 ∧ own.length ≤ 100 ∧ Sm spots.length N ∧ Sm spots.length L ∧
  μ[jn]? = some (.dT (encP N)) ∧ μ[jl]? = some (.dT (encP L)) ∧ ∀ N' L', R (.pr k) (SL μ jn jl N' L')
def JL (μ : Sto) (k jn jl n : Nat) (s0 : Nat × Nat) (size : Int) (ρ : AEnv) (μ' : Sto) : Prop := ∃ o4 o5 o6 o7 o8 N L, ρ = [some (.pr k), some (.pr jn), some (.pr jl), some (.int size), o4, o5, o6, o7, o8, none, none] ∧ μ' = SL μ jn jl N L ∧ Sm n N ∧ Sm n L ∧ s0.1 ≤ N.length ∧ s0.2 ≤ L.length
theorem encP_pairs (L : Ps) : ((encP L).map fun p => D.tup (p.1.map kD)) = L.map pD := by unfold encP; rw [List.map_map]; rfl
set_option maxHeartbeats 2000000 in
theorem ok_closed (G : Facts K mg) : AOk P w K mg base 1 G.lawClosed.f G.lawClosed.fd ["_law_web_here"] spClosed := by
  refine fnA G.lawClosed.F sc_lawClosed (fun ds μ R h => ?_) fun cdv Ar outer s H E ds μ R hr h => ?_
  · obtain ⟨k, js, jo, jh, jn, jl, spots, own, N, L, rfl, _⟩ := h
    rfl
  · obtain ⟨k, js, jo, jh, jn, jl, spots, own, N, L, rfl, hk, hs, ho, h, hn, hown, sN, sL, gN, gL, q⟩ := h
    have nd := sc_lawClosed.nd
    have hu := hu_of hr
    have ne : ∀ {i : Nat} {c : Cell}, μ[i]? = some c → (∀ x, c ≠ .dT x) → i ≠ jn ∧ i ≠ jl := fun e z => ⟨fun y => by subst y; rw [gN] at e; exact z _ (Option.some.inj e).symm, fun y => by subst y; rw [gL] at e; exact z _ (Option.some.inj e).symm⟩
    have nk := ne hk fun x z => by cases z
    have ns := ne hs fun x z => by cases z
    have no := ne ho fun x z => by cases z
    generalize hN : spots.length = n at hn sN sL
    have gk : ∀ N L, (SL μ jn jl N L)[k]? = some (.dK (webD js jo jh jn jl)) := fun N L => (h.go nk.1 nk.2).trans hk
    have gs : ∀ N L, (SL μ jn jl N L)[js]? = some (.lst (spots.map pD)) := fun N L => (h.go ns.1 ns.2).trans hs
    have go : ∀ N L, (SL μ jn jl N L)[jo]? = some (.lst (own.map pD)) := fun N L => (h.go no.1 no.2).trans ho
    have v1 : valD (webD js jo jh jn jl) (.inr ("spots" : Str)) = some (.pr js) := by kernel_rfl
    have v2 : valD (webD js jo jh jn jl) (.inr ("own" : Str)) = some (.pr jo) := by kernel_rfl
    have v4 : valD (webD js jo jh jn jl) (.inr ("near" : Str)) = some (.pr jn) := by kernel_rfl
    have v5 : valD (webD js jo jh jn jl) (.inr ("low" : Str)) = some (.pr jl) := by kernel_rfl
    rw [← h.self gN gL]
    refine aSs_cons (aS_par3 1 2 3 (aE_dget hu (ev_v 0) ev_str (gk _ _) rfl v4 (aE_dget hu (ev_v 0) ev_str (gk _ _) rfl v5 (aE_ev (ev_neg ev_int) ?_))) nd)
    have bN : ∀ {M : Ps}, Sm n M → M.length ≤ n * n := fun z => z.len
    have hnn : n * n ≤ 64 := Nat.mul_le_mul hn hn
    have bS : ∀ {M : Ps}, Sm n M → M.length + 1 < sizeLine := fun z => by have := bN z; rw [sizeLine_eq]; omega
    refine aSs_cons (aS_while (fun m ρ μ' => ∃ o4 o5 o6 o7 o8 N L size, ρ = [some (.pr k), some (.pr jn), some (.pr jl), some (.int size), o4, o5, o6, o7, o8, none, none] ∧ μ' = SL μ jn jl N L ∧ Sm n N ∧ Sm n L ∧ m = 2 * (2 * (n * n) - (N.length + L.length)) + (if size = ((N.length + L.length : Nat) : Int) then 0 else 1)) (m0 := _) ⟨none, none, none, none, none, N, L, -1, rfl, rfl, sN, sL, rfl⟩ ?_)
    rintro m ρ' μ' ⟨o4, o5, o6, o7, o8, N, L, size, rfl, rfl, sN, sL, rfl⟩
    have lens : ∀ {X : Cx} {ρ : AEnv} {e1 e2 : Expr} {p1 p2 q1 q2 pos : Pos} {N L : Ps}, X.mg "len" = none → Gl X "len" → EV X e1 ρ (SL μ jn jl N L) (.pr jn) → EV X e2 ρ (SL μ jn jl N L) (.pr jl) →
      starEach [e1] X.env = (false, eval e1 X.env) :: starEach [] X.env → (backTo q1 (starEach [] X.env)).any (·.1) = false → starEach [e2] X.env = (false, eval e2 X.env) :: starEach [] X.env → (backTo q2 (starEach [] X.env)).any (·.1) = false →
      EV X (.BinOp (.Call (.Name "len" p1) [e1] [] q1) .Add (.Call (.Name "len" p2) [e2] [] q2) pos) ρ (SL μ jn jl N L) (nD (N.length + L.length)) := fun hm hg a1 a2 b1 b2 b3 b4 =>
        ev_addN (ev_callB (va_cons a1 va_nil b1) (acall_lenT h.gn ⟨by rw [encP_len], rfl⟩) hm (by rfl) hg (by decide) (by decide) b1 b2) (ev_callB (va_cons a2 va_nil b3) (acall_lenT h.gl ⟨by rw [encP_len], rfl⟩) hm (by rfl) hg (by decide) (by decide) b3 b4)
    refine aT_ev (tv_neI (ev_v 3) (lens G.n_len (by rfl) (ev_v 1) (ev_v 2) (by rfl) (by rfl) (by rfl) (by rfl))) ?_
    by_cases hz : size = ((N.length + L.length : Nat) : Int)
    · rw [decide_eq_true hz, Bool.not_true, if_neg Bool.false_ne_true]
      exact aSs_one (aS_ret (aE_ev (ev_v 0) (endR (q N L))))
    · rw [decide_eq_false hz, Bool.not_false, if_pos rfl]
      refine aSs_cons (aS_set (i := 3) (aE_ev (lens G.n_len (by rfl) (ev_v 1) (ev_v 2) (by rfl) (by rfl) (by rfl) (by rfl)) ?_) nd)
      generalize hsum : N.length + L.length = sum
      have ls0 : N.length + L.length = sum := hsum
      refine aSs_cons (aS_forL (L := L) (enc := pD) (wi_list (ev_callTy (va_cons (ev_v 2) va_nil) (acall_listT h.gl ⟨by rw [encP_pairs], rfl⟩) G.n_list (by rfl)))
        (fun _ ρ μ' => JL μ k jn jl n (N.length, L.length) sum ρ μ') ⟨o4, o5, o6, o7, o8, N, L, rfl, rfl, sN, sL, Nat.le_refl _, Nat.le_refl _⟩ (fun pre x rest ρ' μ' hL z => ?_) (fun ρ' μ' z => ?_))
      · obtain ⟨p4, p5, p6, p7, p8, N1, L1, rfl, rfl, sN1, sL1, l1, l2⟩ := z
        have hx : x ∈ L := by rw [hL]; simp
        obtain ⟨hx1, hx2⟩ := sL.bd x hx
        obtain ⟨i, j⟩ := x
        simp only at hx1 hx2
        refine aG_pair 4 5 nd ?_
        refine aSs_cons (aS_two hu h (i := i) (j := j) (fun _ => ev_v 1) (fun _ => ev_v 1) (fun _ => va_cons (ev_v 4) (va_cons (ev_v 5) va_nil)) (fun _ => va_cons (ev_v 5) (va_cons (ev_v 4) va_nil)) ev_bl ev_bl (bS sN1) ?_)
        have sN2 : Sm n (addP (addP N1 (i, j)) (j, i)) := (sN1.add (p := (i, j)) hx1 hx2).add (p := (j, i)) hx2 hx1
        have l3 : N.length ≤ (addP (addP N1 (i, j)) (j, i)).length := Nat.le_trans l1 (Nat.le_trans addP_ge addP_ge)
        generalize addP (addP N1 (i, j)) (j, i) = N2 at sN2 l3
        refine aSs_one (aS_forL (L := List.range n) (enc := nD) (wi_range (n := n) G.n_range (ev_cast (ev_len G.n_len (aE_dget hu (ev_v 0) ev_str (gk _ _) rfl v1 ⟨rfl, rfl⟩) (.l (.p (gs _ _)))) (by rw [List.length_map, hN])) (by omega))
          (fun _ ρ μ' => ∃ o6 N3 L3, ρ = [some (.pr k), some (.pr jn), some (.pr jl), some (nD sum), some (nD i), some (nD j), o6, p7, p8, none, none] ∧ μ' = SL μ jn jl N3 L3 ∧ Sm n N3 ∧ Sm n L3 ∧ N.length ≤ N3.length ∧ L.length ≤ L3.length) ⟨p6, N2, L1, rfl, rfl, sN2, sL1, l3, l2⟩ (fun pre2 f rest2 ρ' μ' hf z => ?_) (fun ρ' μ' z => ?_))
        · obtain ⟨o6', N3, L3, rfl, rfl, sN3, sL3, l4, l5⟩ := z
          have hfn : f < n := List.mem_range.mp (by rw [hf]; simp)
          refine aG_name (i := 6) ?_ nd
          refine aSs_cons (aS_mid (fun ρ μ' => ∃ L4, ρ = [some (.pr k), some (.pr jn), some (.pr jl), some (nD sum), some (nD i), some (nD j), some (nD f), p7, p8, none, none] ∧ μ' = SL μ jn jl N3 L4 ∧ Sm n L4 ∧ L.length ≤ L4.length) (aS_if (aT_ev (tv_and (k := decide ((j, f) ∈ L3)) (k' := !decide (i = f)) (aT_dinT (ks := pK (j, f)) hu (va_cons (ev_v 5) (va_cons (ev_v 6) va_nil)).p2 (ev_v 2) h.gl ⟨valD_encP, rfl⟩) fun _ => tv_neN (ev_v 4) (ev_v 6)) ?_)) (fun ρ' μ' z => ?_))
          · split
            · refine aSs_one (aS_dputT (ks := pK (i, f)) hu ev_bl (ev_v 2) (va_cons (ev_v 4) (va_cons (ev_v 6) va_nil)).p2 h.gl (by rw [encP_len]; exact Nat.lt_of_succ_lt (bS sL3)) ?_)
              rw [putD_encP, h.sl]
              exact ⟨_, rfl, rfl, sL3.add (p := (i, f)) hx1 hfn, Nat.le_trans l5 addP_ge⟩
            · exact aSs_nil ⟨L3, rfl, rfl, sL3, l5⟩
          · obtain ⟨L4, rfl, rfl, sL4, l6⟩ := z
            refine aSs_one (aS_if (aT_ev (tv_and (k := decide ((j, f) ∈ N3)) (k' := !decide (i = f)) (aT_dinT (ks := pK (j, f)) hu (va_cons (ev_v 5) (va_cons (ev_v 6) va_nil)).p2 (ev_v 1) h.gn ⟨valD_encP, rfl⟩) fun _ => tv_neN (ev_v 4) (ev_v 6)) ?_))
            split
            · refine aSs_one (aS_two hu h (i := i) (j := f) (fun _ => ev_v 1) (fun _ => ev_v 1) (fun _ => va_cons (ev_v 4) (va_cons (ev_v 6) va_nil)) (fun _ => va_cons (ev_v 6) (va_cons (ev_v 4) va_nil)) ev_bl ev_bl (bS sN3) ?_)
              exact ⟨_, _, _, rfl, rfl, (sN3.add (p := (i, f)) hx1 hfn).add (p := (f, i)) hfn hx1, sL4, Nat.le_trans l4 (Nat.le_trans addP_ge addP_ge), l6⟩
            · exact aSs_nil ⟨_, N3, L4, rfl, rfl, sN3, sL4, l4, l6⟩
        · obtain ⟨o6', N3, L3, rfl, rfl, sN3, sL3, l4, l5⟩ := z
          exact ⟨_, _, _, _, _, N3, L3, rfl, rfl, sN3, sL3, l4, l5⟩
      · obtain ⟨p4, p5, p6, p7, p8, N1, L1, rfl, rfl, sN1, sL1, l1, l2⟩ := z
        refine aSs_one (aS_forL (L := N1) (enc := pD) (wi_list (ev_callTy (va_cons (ev_v 1) va_nil) (acall_listT h.gn ⟨by rw [encP_pairs], rfl⟩) G.n_list (by rfl)))
          (fun _ ρ μ' => JL μ k jn jl n (N.length, L.length) sum ρ μ') ⟨p4, p5, p6, p7, p8, N1, L1, rfl, rfl, sN1, sL1, l1, l2⟩ (fun pre x rest ρ' μ' hL z => ?_) (fun ρ' μ' z => ?_))
        · obtain ⟨q4, q5, q6, q7, q8, N2, L2, rfl, rfl, sN2, sL2, l3, l4⟩ := z
          have hx : x ∈ N1 := by rw [hL]; simp
          obtain ⟨hx1, hx2⟩ := sN1.bd x hx
          obtain ⟨i, j⟩ := x
          simp only at hx1 hx2
          refine aG_pair 4 5 nd ?_
          have gi : (spots.map pD)[i]? = some (pD (spots[i]'(by omega))) := by rw [List.getElem?_map, List.getElem?_eq_getElem (by omega)]; rfl
          have gj : (spots.map pD)[j]? = some (pD (spots[j]'(by omega))) := by rw [List.getElem?_map, List.getElem?_eq_getElem (by omega)]; rfl
          refine aSs_cons (aS_asg (aE_ev (ev_tup (va_cons (ev_t (i := 0) (ev_ixN (i := i) (aE_dget hu (ev_v 0) ev_str (gk _ _) rfl v1 ⟨rfl, rfl⟩) (ev_v 4) (.l (.p (gs _ _))) gi)) (va_cons (ev_ixN (i := j) (aE_dget hu (ev_v 0) ev_str (gk _ _) rfl v1 ⟨rfl, rfl⟩) (ev_v 5) (.l (.p (gs _ _))) gj) va_nil))) (aG_pair 7 8 nd ?_)))
          generalize spots[i]'(by omega) = si
          generalize spots[j]'(by omega) = sj
          refine aSs_one (aS_if (aT_ev (tv_val (ev_any (L := own) (q := fun a => (decide (si.1 < a.1) && decide (a.1 < sj.1)) && decide (a.2 = sj.2)) G.n_any (aE_lc (c := false) (own := [("_law_spot", 9), ("_law_p", 10)]) (lcm (L := own) (enc := pD) (g := fun a => .bl ((decide (si.1 < a.1) && decide (a.1 < sj.1)) && decide (a.2 = sj.2))) (env := fun a => [some (.pr k), some (.pr jn), some (.pr jl), some (nD sum), some (nD i), some (nD j), q6, some (nD si.1), some (pD sj), some (nD a.1), some (nD a.2)]) ?_ ?_ ?_ ?_ ⟨rfl, rfl⟩) (blkOk_by (by kernel_rfl)) nd))) ?_))
          · exact vi_cell (aE_dget hu (ev_v 0) ev_str (gk _ _) rfl v2 ⟨rfl, rfl⟩) (go _ _)
          · exact small1000 (by omega)
          · intro a _ s H C cl fp
            exact aGc_pair 9 10 nd ⟨rfl, rfl⟩
          · intro a _ s H C cl fp
            exact ev_and (ev_cast (ev_chain (k := decide (si.1 < a.1)) (k' := decide (a.1 < sj.1)) (ev_v 7) (ev_v 9) (aop_lt ⟨congrArg D.bl decNlt, rfl⟩) (ev_t (i := 0) (ev_v 8)) (aop_lt ⟨congrArg D.bl decNlt, rfl⟩)) (by rfl)) fun _ => ev_eqN (ev_v 10) (ev_t (i := 1) (ev_v 8))
          · split
            · refine aSs_one (aS_dputT (ks := pK (i, j)) hu ev_bl (ev_v 2) (va_cons (ev_v 4) (va_cons (ev_v 5) va_nil)).p2 h.gl (by rw [encP_len]; exact Nat.lt_of_succ_lt (bS sL2)) ?_)
              rw [putD_encP, h.sl]
              exact ⟨_, _, _, _, _, N2, _, rfl, rfl, sN2, sL2.add (p := (i, j)) hx1 hx2, l3, Nat.le_trans l4 addP_ge⟩
            · exact aSs_nil ⟨_, _, _, _, _, N2, L2, rfl, rfl, sN2, sL2, l3, l4⟩
        · obtain ⟨q4, q5, q6, q7, q8, N2, L2, rfl, rfl, sN2, sL2, l3, l4⟩ := z
          have b1 := bN sN2
          have b2 := bN sL2
          refine ⟨_, ?_, _, _, _, _, _, N2, L2, _, rfl, rfl, sN2, sL2, rfl⟩
          rw [hsum] at hz
          rw [if_neg hz]
          simp only at l3 l4
          split <;> omega
end HF

/-! ## Q10 -/
namespace HF
open PySem PySem.Spec PyProof.Rows L2 NdefX
section
variable {X : Cx} {ρ : AEnv} {μ : Sto} {Q : DK} {elt tg iter : Expr} {scope : Scope} {τ : Type} {enc g : τ → D} {env : τ → AEnv} {vs : List Nat} {cc : Bool}
/-- a comprehension over a new list -/
theorem lcm_at (h : aE X iter ρ μ fun d μ1 => ∃ L : List τ, d = .lst (L.map enc) ∧ L.length < sizeLine ∧ (∀ t ∈ L, Bk X scope fun Y => aGc Y tg vs (enc t) (wipeA ρ vs) μ1 fun ρ2 μ2 => ρ2 = env t ∧ μ2 = μ1) ∧ (∀ t ∈ L, Bk X scope fun Y => EV Y elt (env t) μ1 (g t)) ∧ LcOut cc (L.map g) μ1 Q) : LcAsk X elt tg iter [] scope vs ρ μ cc Q := by
  refine aI_list (aE_mono h fun d μ1 ⟨L, e, hL, hg, he, q⟩ => .inl ⟨L.map enc, e, fun i acc μ' => μ' = μ1 ∧ acc = (L.take i).map g, ⟨rfl, rfl⟩, fun i acc μ' ⟨h1, h2⟩ => ⟨trivial, ?_⟩, fun i d acc μ' hd ⟨h1, h2⟩ => ?_, fun acc μ' ⟨h1, h2⟩ => ?_⟩)
  · rw [h2, List.length_map, List.length_take]
    exact Nat.lt_of_le_of_lt (Nat.min_le_right _ _) hL
  · subst h1 h2
    rw [List.getElem?_map] at hd
    cases e : L[i]? with
    | none => rw [e] at hd; cases hd
    | some t =>
      rw [e] at hd
      cases hd
      have hm := List.mem_of_getElem? e
      intro s H C cl fp
      refine fun η α H1 σ v W Ev r => tG_mono (hg t hm s H C cl fp η α H1 σ v W Ev r) fun σ' H' ⟨hw, α', μ2, ρ2, W', l', E', e3, e4⟩ => ⟨hw, α', μ2, ρ2, W', l', E', ?_⟩
      subst e3 e4
      intro s H C cl fp
      refine aTs_mono tvs_nil fun k μ3 ⟨hk, e5⟩ => ?_
      subst hk e5
      have tk : L.take (i + 1) = L.take i ++ [t] := by rw [List.take_add_one, e]; rfl
      intro s H C cl fp
      refine aE_mono (he t hm s H C cl fp) fun d μ4 ⟨h3, h4⟩ => ?_
      subst h3 h4
      exact ⟨rfl, by rw [tk, List.map_append]; rfl⟩
  · subst h1 h2
    rw [List.length_map, List.take_of_length_le (Nat.le_refl _)]
    exact q
end
variable {P : Program} {w : World} {K : PySem.W.Frag} {mg : Str → Option Value} {base : Heap}
theorem Sm.mono {n m : Nat} {A : Ps} (h : Sm n A) (l : n ≤ m) : Sm m A := ⟨h.nd, fun p hp => ⟨Nat.lt_of_lt_of_le (h.bd p hp).1 l, Nat.lt_of_lt_of_le (h.bd p hp).2 l⟩⟩
theorem Seen.mono {n m : Nat} {hs : List (List Nat)} (h : Seen n hs) (l : n ≤ m) : Seen m hs := fun x hx => ⟨(h x hx).1, fun y hy => Nat.lt_of_lt_of_le ((h x hx).2 y hy) l⟩
/-- dict([(pair, True) ..]) of pairs -/
theorem encP_prs (l : Ps) : (l.map fun q => D.tup [ktD q, .bl true]) = (encP l).map fun kv => .tup [.kt kv.1, kv.2] := by unfold encP; rw [List.map_map]; rfl
theorem encP_nil : encP [] = [] := rfl
def webC (m : Nat) (spots own : Ps) (hs : List (List Nat)) (N L : Ps) : Sto := [.dK (webD (m + 1) (m + 2) (m + 3) (m + 4) (m + 5)), .lst (spots.map pD), .lst (own.map pD), .dK (encH hs), .dT (encP N), .dT (encP L)]
theorem webG {μ : Sto} {spots own : Ps} {hs : List (List Nat)} {N L : Ps} {ext : Sto} : (∀ i c, (webC μ.length spots own hs N L)[i]? = some c → (μ ++ (webC μ.length spots own hs N L ++ ext))[μ.length + i]? = some c) := fun i c e => by
  rw [get_at rfl, List.getElem?_append_left (List.getElem?_eq_some_iff.mp e).1]
  exact e
theorem webS {μ : Sto} {spots own : Ps} {hs : List (List Nat)} {N L : Ps} {ext : Sto} (i : Nat) (c : Cell) (hi : i < 6) : (μ ++ (webC μ.length spots own hs N L ++ ext)).set (μ.length + i) c = μ ++ ((webC μ.length spots own hs N L).set i c ++ ext) := by
  rw [set_at rfl, List.set_append_left _ _ (by exact hi)]
theorem aSs_cast {X : Cx} {sts : List Stmt} {ρ : AEnv} {μ μ' : Sto} {E : AEnds} (e : μ = μ') (h : aSs X sts ρ μ' E) : aSs X sts ρ μ E := by rw [e]; exact h
theorem ev_kinds (e : Ev) : (∃ p, e = .look p) ∨ (∃ p, e = .add p) ∨ ∃ (b : Bool) (p r : Nat), e.enc = .tup [.str (wordS b), nD p, nD r] ∧ (∀ f, e.Ok f → p < f ∧ r < f) ∧ e.isLook = false := by
  cases e with
  | look p => exact .inl ⟨p, rfl⟩
  | add p => exact .inr (.inl ⟨p, rfl⟩)
  | meet p r => exact .inr (.inr ⟨true, p, r, rfl, fun f h => h, by kernel_rfl⟩)
  | tell p r => exact .inr (.inr ⟨false, p, r, rfl, fun f h => h, by kernel_rfl⟩)
theorem word_ne (b : Bool) : decide (wordS b = ("look" : Str)) = false ∧ decide (wordS b = ("add" : Str)) = false := by cases b <;> exact ⟨by kernel_rfl, by kernel_rfl⟩
def spWeb : ASp := fun ds μ R => ∃ (t : Tab) (kind : Str), ds = [t.enc, .str kind] ∧ t.evs.length ≤ 100 ∧ (∀ e ∈ t.evs, e.Ok t.folk) ∧ t.folk ≤ 50 ∧ t.n ≤ 8 ∧
  ∀ (spots own : Ps) (hs : List (List Nat)) (N L : Ps) (ext : Sto), spots.length = t.n → hs.length = t.folk → R (.pr μ.length) (μ ++ (webC μ.length spots own hs N L ++ ext))

theorem dict_has (f : Nat) : ((List.range f).map fun (t : Nat) => (((.inl (t : Int) : Key)), D.lst [])).foldl (fun acc kv => putD acc kv.1 kv.2) [] = encH (List.replicate f []) := by
  rw [List.foldl_map]
  exact encH_new f
theorem ok_web (G : Facts K mg) : AOk P w K mg base 3 G.lawWeb.f G.lawWeb.fd ["_law_table_here", "_law_sort_so"] spWeb := by
  refine fnA G.lawWeb.F sc_lawWeb (fun ds μ R h => ?_) fun cdv Ar outer s H E ds μ R hr h => ?_
  · obtain ⟨t, kind, rfl, _⟩ := h
    rfl
  · obtain ⟨t, kind, rfl, hev, hok, hfolk, hn, q⟩ := h
    have nd := sc_lawWeb.nd
    have hu := hu_of hr
    have hu8 : (Ar.deeper (envOfC "_law_web" (defScope s_lawWeb) s.heap.objs.size G.lawWeb.f cdv)).units + 8 < cLine := by have := hr.un; omega
    refine aSs_cons ?_
    refine aS_set (i := 2) ?_ ?_ ?_ ?_ ?_ ?_
    rotate_left
    · exact nd
    · rfl
    · exact Or.inl rfl
    · rfl
    · exact Or.inl rfl
    refine aE_disp5 ?_
    refine aPs_cons (key := .inr "spots") ev_str rfl (aE_lstC (aA_nil ⟨Nat.zero_le _, ?_⟩))
    refine aPs_cons (key := .inr "own") ev_str rfl (aE_lstC (aA_nil ⟨Nat.zero_le _, ?_⟩))
    refine aPs_cons (key := .inr "has") ev_str rfl (aE_callTy (T := "dict") (aA_cons (aE_lc (c := false) (own := [("_law_p", 9)]) (lcm (L := List.range t.folk) (enc := nD) (g := fun p => .tup [nD p, .lst []]) (env := fun p => [some t.enc, some (.str kind), none, none, none, none, none, none, none, some (nD p), none, none]) ?_ ?_ ?_ ?_ (aA_nil (acall_dictP (kvs := (List.range t.folk).map fun (t : Nat) => (((.inl (t : Int) : Key)), D.lst [])) ?_ rfl ?_))) (blkOk_by (by kernel_rfl)) nd)) G.n_dict rfl)
    · exact vi_range G.n_range (ev_cast (ev_t (i := 0) (ev_v 0)) rfl) (by omega)
    · rw [List.length_range, sizeLine_eq]; omega
    · intro o _ s H C cl fp
      exact aGc_name (i := 9) ⟨rfl, rfl⟩ nd
    · intro o _ s H C cl fp
      exact ev_tup (va_cons (ev_v 9) (va_cons (ev_lst va_nil) va_nil))
    · rw [List.map_map]; rfl
    rw [dict_has]
    refine aPs_cons (key := .inr "near") ev_str rfl (aE_dnewT ?_)
    refine aPs_cons (key := .inr "low") ev_str rfl (aE_dnewT (aPs_nil ?_))
    refine ⟨by simp, aSs_cast (μ' := μ ++ (webC μ.length [] [] (List.replicate t.folk []) [] [] ++ [])) ?_ ?_⟩
    · simp only [List.append_assoc, List.length_append, List.length_cons, List.length_nil, List.cons_append, List.nil_append]
      refine (set_at (i := 0) rfl).trans ?_
      rfl
    generalize hm : μ.length = m
    have hg : ∀ {spots own : Ps} {hs : List (List Nat)} {N L : Ps} {ext : Sto} (i : Nat) (c : Cell), (webC m spots own hs N L)[i]? = some c → (μ ++ (webC m spots own hs N L ++ ext))[m + i]? = some c := fun i c e => by
      subst hm; exact webG i c e
    have hset : ∀ {spots own : Ps} {hs : List (List Nat)} {N L : Ps} {ext : Sto} (i : Nat) (c : Cell), i < 6 → (μ ++ (webC m spots own hs N L ++ ext)).set (m + i) c = μ ++ ((webC m spots own hs N L).set i c ++ ext) := fun i c hi => by
      subst hm; exact webS i c hi
    have v1 : valD (webD (m + 1) (m + 2) (m + 3) (m + 4) (m + 5)) (.inr ("spots" : Str)) = some (.pr (m + 1)) := by kernel_rfl
    have v2 : valD (webD (m + 1) (m + 2) (m + 3) (m + 4) (m + 5)) (.inr ("own" : Str)) = some (.pr (m + 2)) := by kernel_rfl
    have v3 : valD (webD (m + 1) (m + 2) (m + 3) (m + 4) (m + 5)) (.inr ("has" : Str)) = some (.pr (m + 3)) := by kernel_rfl
    have v4 : valD (webD (m + 1) (m + 2) (m + 3) (m + 4) (m + 5)) (.inr ("near" : Str)) = some (.pr (m + 4)) := by kernel_rfl
    have v5 : valD (webD (m + 1) (m + 2) (m + 3) (m + 4) (m + 5)) (.inr ("low" : Str)) = some (.pr (m + 5)) := by kernel_rfl
    refine aSs_cons (aS_asg (aE_ev (ev_tup (va_cons (aE_dget hu (ev_v 2) ev_str (hg 0 _ rfl) rfl v1 ⟨rfl, rfl⟩) (va_cons (aE_dget hu (ev_v 2) ev_str (hg 0 _ rfl) rfl v2 ⟨rfl, rfl⟩) va_nil))) (aG_pair 3 4 nd ?_)))
    refine aSs_cons (aS_par (i := 5) (j := 6) (aE_dget hu (ev_v 2) ev_str (hg 0 _ rfl) rfl v3 (aE_dget hu (ev_v 2) ev_str (hg 0 _ rfl) rfl v5 ?_)) nd)
    refine aSs_cons (aS_forL (L := t.evs.zipIdx) (enc := fun p => .tup [nD p.2, p.1.enc]) (by rw [← enumD_map]; exact wi_enumT G.n_enumerate (ev_t (i := 1) (ev_v 0)))
      (fun pre ρ μ' => ∃ o7 o8 spots own hs N L ext, ρ = [some t.enc, some (.str kind), some (.pr m), some (.pr (m + 1)), some (.pr (m + 2)), some (.pr (m + 3)), some (.pr (m + 5)), o7, o8, none, none, none] ∧ μ' = μ ++ (webC m spots own hs N L ++ ext) ∧ hs.length = t.folk ∧ Seen spots.length hs ∧ Sm spots.length N ∧ Sm spots.length L ∧ spots.length = looksN (pre.map (·.1)) ∧ own.length ≤ pre.length)
      ⟨none, none, [], [], List.replicate t.folk [], [], [], [], rfl, rfl, List.length_replicate, ?_, .nil, .nil, rfl, Nat.zero_le _⟩ (fun pre x rest ρ' μ' hL z => ?_) (fun ρ' μ' z => ?_))
    · intro h hh
      rw [(List.mem_replicate.mp hh).2]
      exact ⟨List.nodup_nil, fun x hx => (by cases hx)⟩
    · obtain ⟨o7, o8, spots, own, hs, N, L, ext, rfl, rfl, hl, hse, sN, sL, hsp, how⟩ := z
      obtain ⟨e, pl⟩ := x
      have hevs : t.evs = pre.map (·.1) ++ e :: rest.map (·.1) := by
        have := congrArg (List.map (·.1)) hL
        rw [List.zipIdx_map_fst, List.map_append, List.map_cons] at this
        exact this
      have hb : looksN (pre.map (·.1)) + (if e.isLook = true then 1 else 0) ≤ t.n := by
        have h1 := looksN_eq t.folk t.evs
        have h1 : t.n = looksN t.evs := h1
        rw [h1, hevs]
        unfold looksN
        rw [List.filter_append, List.length_append, List.filter_cons]
        split
        · rw [List.length_cons]; omega
        · omega
      have he : e.Ok t.folk := hok e (by rw [hevs]; simp)
      have hlen : pre.length + 1 ≤ t.evs.length := by rw [hevs, List.length_append, List.length_map, List.length_cons]; omega
      refine aG_pair 7 8 nd ?_
      have hnn : spots.length * spots.length ≤ 64 := by
        have h0 : spots.length ≤ 8 := by omega
        exact Nat.mul_le_mul h0 h0
      rcases ev_kinds e with ⟨p, rfl⟩ | ⟨p, rfl⟩ | ⟨b, p, r, he3, heo, hel⟩
      · have hp : p < hs.length := by rw [hl]; exact he
        have hb : looksN (pre.map (·.1)) + 1 ≤ t.n := hb
        obtain ⟨n1, b1⟩ := hse.get p
        have l1 := nodup_bd' n1 b1
        refine aSs_one (aS_if (aT_ev (tv_eqS (ev_t (i := 0) (ev_v 8)) ev_str) ?_))
        rw [if_pos (by kernel_rfl)]
        generalize hlst : hs.getD p [] = l at n1 b1 l1
        refine aSs_cons (aS_expr (aE_update (ev_v 6) (hg 5 _ rfl) (aE_callTy (T := "dict") (aA_cons (aE_lc (c := false) (own := [("_law_one", 10)]) (lcm (L := l) (enc := nD) (g := fun o => .tup [ktD (o, spots.length), .bl true]) (env := fun o => [some t.enc, some (.str kind), some (.pr m), some (.pr (m + 1)), some (.pr (m + 2)), some (.pr (m + 3)), some (.pr (m + 5)), some (nD pl), some (Ev.look p).enc, none, some (nD o), none]) ?_ ?_ ?_ ?_ (aA_nil (acall_dictT (kvs := encP (l.map fun o => (o, spots.length))) ?_ hu8 ?_))) (blkOk_by (by kernel_rfl)) nd)) G.n_dict rfl) hu8))
        · exact vi_list (ev_cast (ev_ixH hu (ev_v 5) (ev_t (i := 1) (ev_v 8)) (hg 3 _ rfl) hp) (by rw [hlst]))
        · rw [sizeLine_eq]; omega
        · intro o _ s H C cl fp
          exact aGc_name (i := 10) ⟨rfl, rfl⟩ nd
        · intro o _ s H C cl fp
          exact ev_tup (va_cons (ev_kt (ks := pK (o, spots.length)) (va_cons (ev_v 10) (va_cons (ev_cast (ev_len G.n_len (ev_v 3) (.l (.p (hg 1 _ rfl)))) (by rw [List.length_map]; rfl)) va_nil)) (hz := by show 2 ≤ 100; decide)) (va_cons ev_bl va_nil))
        · rw [← encP_prs, List.map_map]; rfl
        have ea : ∀ c : Cell, μ ++ (webC m spots own hs N L ++ ext) ++ [c] = μ ++ (webC m spots own hs N L ++ (ext ++ [c])) := fun c => by rw [List.append_assoc, List.append_assoc]
        have sM : Sm (spots.length + 1) (addAll [] (l.map fun o => (o, spots.length))) := Sm.addAll .nil fun q hq => by
          obtain ⟨o, ho, rfl⟩ := List.mem_map.mp hq
          exact ⟨Nat.lt_succ_of_lt (b1 o ho), Nat.lt_succ_self _⟩
        have eM : (encP (l.map fun o => (o, spots.length))).foldl (fun acc kv => putD acc kv.1 kv.2) [] = encP (addAll [] (l.map fun o => (o, spots.length))) := addAll_D _ []
        rw [eM]
        generalize addAll [] (l.map fun o => (o, spots.length)) = M at sM
        have lM := sM.len
        have lL := sL.len
        have hnn1 : (spots.length + 1) * (spots.length + 1) ≤ 81 := by
          have h0 : spots.length + 1 ≤ 9 := by omega
          exact Nat.mul_le_mul h0 h0
        refine ⟨_, encP M, encP L, rfl, by rw [ea]; exact hg 5 _ rfl, last_get, ?_, by rw [encP_len, encP_len, sizeLine_eq]; omega, hashOk_small fun q hq => ?_, ?_⟩
        · rw [List.length_append, List.length_append, hm]
          show m + 5 ≠ m + (6 + ext.length)
          omega
        · have := sM.bd q hq
          omega
        rw [ea, addAll_D, hset 5 _ (by decide)]
        refine aSs_cons (aS_dput hu (aE_ev (ev_cast (y := .lst ((l ++ [spots.length]).map nD)) (ev_cat (ev_ixH hu (ev_v 5) (ev_t (i := 1) (ev_v 8)) (hg (L := addAll L M) 3 _ rfl) hp) (ev_lst (va_cons (ev_cast (ev_len G.n_len (ev_v 3) (.l (.p (hg (L := addAll L M) 1 _ rfl)))) (by rw [List.length_map])) va_nil)) .l .l ?_) (by rw [hlst, List.map_append]; rfl)) ⟨ev_v 5, ev_t (i := 1) (ev_v 8), _, _, hg (L := addAll L M) 3 _ rfl, rfl, by rw [encH_len, sizeLine_eq]; omega, ?_⟩))
        · rw [hlst, List.length_map, List.length_singleton, sizeLine_eq]; omega
        rw [putD_encH hp]
        refine aSs_cast (hset (L := addAll L M) 3 _ (by decide)) ?_
        refine aSs_one (aS_expr (aE_append (ev_v 3) (hg (L := addAll L M) (hs := hs.set p (l ++ [spots.length])) 1 _ rfl) (aE_ev (ev_tup (va_cons (ev_v 7) (va_cons (ev_t (i := 1) (ev_v 8)) va_nil))) ⟨_, hg (L := addAll L M) (hs := hs.set p (l ++ [spots.length])) 1 _ rfl, by rw [List.length_map, sizeLine_eq]; omega, ?_⟩)))
        refine ⟨_, _, spots ++ [(pl, p)], own, hs.set p (l ++ [spots.length]), N, addAll L M, ext ++ [Cell.dT (encP M)], rfl, ?_, by rw [List.length_set, hl], ?_, ?_, ?_, ?_, ?_⟩
        · refine (hset (L := addAll L M) (hs := hs.set p (l ++ [spots.length])) 1 _ (by decide)).trans ?_
          unfold webC
          rw [List.map_append]
          rfl
        · rw [List.length_append, List.length_singleton]
          refine (hse.mono (Nat.le_succ _)).set ?_ fun x hx => ?_
          · rw [List.nodup_append]
            exact ⟨n1, by simp, fun x hx y hy z => by
              rw [List.mem_singleton.mp hy] at z
              have := b1 x hx
              omega⟩
          · rcases List.mem_append.mp hx with z | z
            · exact Nat.lt_succ_of_lt (b1 x z)
            · rw [List.mem_singleton.mp z]; exact Nat.lt_succ_self _
        · rw [List.length_append, List.length_singleton]; exact sN.mono (Nat.le_succ _)
        · rw [List.length_append, List.length_singleton]; exact Sm.addAll (sL.mono (Nat.le_succ _)) sM.bd
        · rw [List.length_append, List.length_singleton, List.map_append, hsp]
          unfold looksN
          rw [List.filter_append, List.length_append]
          rfl
        · rw [List.length_append]; omega
      · refine aSs_one (aS_if (aT_ev (tv_eqS (ev_t (i := 0) (ev_v 8)) ev_str) ?_))
        rw [if_neg (by decide +kernel)]
        refine aSs_one (aS_if (aT_ev (tv_eqS (ev_t (i := 0) (ev_v 8)) ev_str) ?_))
        rw [if_pos (by kernel_rfl)]
        refine aSs_one (aS_expr (aE_append (ev_v 4) (hg 2 _ rfl) (aE_ev (ev_tup (va_cons (ev_v 7) (va_cons (ev_t (i := 1) (ev_v 8)) va_nil))) ⟨_, hg 2 _ rfl, by rw [List.length_map, sizeLine_eq]; omega, ?_⟩)))
        refine ⟨_, _, spots, own ++ [(pl, p)], hs, N, L, ext, rfl, ?_, hl, hse, sN, sL, ?_, ?_⟩
        · refine (hset 2 _ (by decide)).trans ?_
          unfold webC
          rw [List.map_append]
          rfl
        · rw [hsp, List.map_append]
          unfold looksN
          rw [List.filter_append, List.length_append]
          rfl
        · rw [List.length_append, List.length_append]
          exact Nat.succ_le_succ how
      · obtain ⟨hp, hr2⟩ := heo _ he
        rw [he3]
        refine aSs_one (aS_if (aT_ev (tv_eqS (ev_t (i := 0) (ev_v 8)) ev_str) ?_))
        rw [(word_ne b).1, if_neg Bool.false_ne_true]
        refine aSs_one (aS_if (aT_ev (tv_eqS (ev_t (i := 0) (ev_v 8)) ev_str) ?_))
        rw [(word_ne b).2, if_neg Bool.false_ne_true]
        refine aSs_one (aS_expr (aE_update (aE_dget hu (ev_v 2) ev_str (hg 0 _ rfl) rfl v4 ⟨rfl, rfl⟩) (hg 4 _ rfl) (aE_callTy (T := "dict") (aA_cons (aE_lc (c := false) (own := [("_law_pair", 11)]) (lcm_at (enc := ktD) (g := fun q => .tup [ktD q, .bl true]) (env := fun q => [some t.enc, some (.str kind), some (.pr m), some (.pr (m + 1)), some (.pr (m + 2)), some (.pr (m + 3)), some (.pr (m + 5)), some (nD pl), some (.tup [.str (wordS b), nD p, nD r]), none, none, some (ktD q)]) (aE_def G.lawPassed (ok_passed G) hr (aA_ev (va_cons (ev_v 5) (va_cons (ev_v 8) (va_cons (ev_v 1) va_nil))) ⟨m + 3, spots.length, hs, b, p, r, kind, rfl, hg 3 _ rfl, by rw [hl]; exact hp, by rw [hl]; exact hr2, by omega, by omega, hse, fun l hs' e1 e2 e3 e4 => ?_⟩))) (blkOk_by (by kernel_rfl)) nd)) G.n_dict rfl) hu8))
        rw [hset 3 _ (by decide)]
        refine ⟨l, rfl, by rw [sizeLine_eq]; omega, fun o _ s H C cl fp => aGc_name (i := 11) ⟨rfl, rfl⟩ nd, fun o _ s H C cl fp => ev_tup (va_cons (ev_v 11) (va_cons ev_bl va_nil)), aA_nil (acall_dictT (kvs := encP l) (by rw [← encP_prs]) hu8 ?_)⟩
        have eM : (encP l).foldl (fun acc kv => putD acc kv.1 kv.2) [] = encP (addAll [] l) := addAll_D l []
        rw [eM]
        have sM : Sm spots.length (addAll [] l) := Sm.addAll .nil fun q hq => ⟨(e3 q hq).1, (e3 q hq).2.1⟩
        generalize addAll [] l = M at sM
        have lM := sM.len
        have lN := sN.len
        have ea : ∀ c : Cell, μ ++ (webC m spots own hs' N L ++ ext) ++ [c] = μ ++ (webC m spots own hs' N L ++ (ext ++ [c])) := fun c => by rw [List.append_assoc, List.append_assoc]
        have ew : (webC m spots own hs N L).set 3 (.dK (encH hs')) = webC m spots own hs' N L := rfl
        rw [ew]
        refine ⟨_, encP M, encP N, rfl, by rw [ea]; exact hg 4 _ rfl, last_get, ?_, by rw [encP_len, encP_len, sizeLine_eq]; omega, hashOk_small fun q hq => ?_, ?_⟩
        · rw [List.length_append, List.length_append, hm]
          show m + 4 ≠ m + (6 + ext.length)
          omega
        · have := sM.bd q hq
          omega
        rw [ea, addAll_D, hset 4 _ (by decide)]
        refine ⟨_, _, spots, own, hs', addAll N M, L, ext ++ [Cell.dT (encP M)], rfl, rfl, by rw [e1, hl], e2, Sm.addAll sN sM.bd, sL, ?_, ?_⟩
        · rw [hsp, List.map_append]
          unfold looksN
          rw [List.filter_append, List.length_append, List.map_cons, List.filter_cons, hel]
          rfl
        · rw [List.length_append]; omega
    · obtain ⟨o7, o8, spots, own, hs, N, L, ext, rfl, rfl, hl, hse, sN, sL, hsp, how⟩ := z
      rw [List.zipIdx_map_fst] at hsp
      have hsn : spots.length = t.n := hsp.trans (looksN_eq t.folk t.evs).symm
      rw [List.length_zipIdx] at how
      refine aSs_one (aS_ret (aE_def G.lawClosed (ok_closed G) (hr.mono (by decide)) (aA_ev (va_cons (ev_v 2) va_nil) ⟨m, m + 1, m + 2, m + 3, m + 4, m + 5, spots, own, N, L, rfl, hg 0 _ rfl, hg 1 _ rfl, hg 2 _ rfl, ⟨by omega, ?_, ?_⟩, by omega, by omega, sN, sL, hg 4 _ rfl, hg 5 _ rfl, fun N' L' => endR ?_⟩)))
      · rw [List.length_append, List.length_append, hm]; show m + 4 < m + (6 + ext.length); omega
      · rw [List.length_append, List.length_append, hm]; show m + 5 < m + (6 + ext.length); omega
      have e : SL (μ ++ (webC m spots own hs N L ++ ext)) (m + 4) (m + 5) N' L' = μ ++ (webC m spots own hs N' L' ++ ext) := by
        unfold SL
        refine (congrArg (fun z => List.set z (m + 5) (Cell.dT (encP L'))) (hset 4 _ (by decide))).trans ?_
        exact hset (N := N') 5 _ (by decide)
      rw [e]
      have := q spots own hs N' L' ext hsn hl
      rw [hm] at this
      exact this
end HF

/-! ## Q11 -/
namespace HF
open PySem PySem.Spec PyProof.Rows L2 NdefX
variable {P : Program} {w : World} {K : PySem.W.Frag} {mg : Str → Option Value} {base : Heap}
def spWants : ASp := fun ds μ R => ∃ pre post k b c m js jo jh jn jl, ∃ (spots : Ps) (hs : List (List Nat)) (many : Nat), ds = [.pr k, .pr m, nD many] ∧ pre.length = k ∧ μ = pre ++ bx b :: post ∧ BOk c b ∧ c < 80000 ∧ (∀ b', (pre ++ bx b' :: post)[m]? = some (.dK (webD js jo jh jn jl))) ∧
  (∀ b', (pre ++ bx b' :: post)[js]? = some (.lst (spots.map pD))) ∧ (∀ b', (pre ++ bx b' :: post)[jh]? = some (.dK (encH hs))) ∧ 0 < spots.length ∧ spots.length ≤ 100 ∧ 0 < hs.length ∧ hs.length ≤ 100 ∧ many ≤ 5 ∧
  ∀ (ws : Ps) b', (∀ q ∈ ws, q.1 < spots.length ∧ q.2 < hs.length) → ws.length ≤ many → BOk (c + 4 + 2 * many) b' → R (.lst (ws.map pD)) (pre ++ bx b' :: post)
theorem ok_drawWants (G : Facts K mg) : AOk P w K mg base 3 G.lawDrawWants.f G.lawDrawWants.fd ["_law_box_here", "_law_web_here", "_law_many"] spWants := by
  refine fnA G.lawDrawWants.F sc_lawDrawWants (fun ds μ R h => ?_) fun cdv Ar outer s H E ds μ R hr h => ?_
  · obtain ⟨pre, post, k, b, c, m, js, jo, jh, jn, jl, spots, hs, many, rfl, _⟩ := h
    rfl
  · obtain ⟨pre, post, k, b, c, m, js, jo, jh, jn, jl, spots, hs, many, rfl, hk, rfl, ok, hc, hm, hsp, hh, s0, s1, h0, h1, hmany, q⟩ := h
    have nd := sc_lawDrawWants.nd
    have hu := hu_of hr
    have v1 : valD (webD js jo jh jn jl) (.inr ("spots" : Str)) = some (.pr js) := by kernel_rfl
    have v3 : valD (webD js jo jh jn jl) (.inr ("has" : Str)) = some (.pr jh) := by kernel_rfl
    refine aSs_cons (aS_set (i := 3) (aE_lc (c := false) (own := [("_law_lap", 4)]) (lcs (L := List.range 4) (enc := nD) (cc := false) (wi_range (n := 4) G.n_range ev_int (by decide)) (by rw [sizeLine_eq]; decide)
      (fun L acc μ' => ∃ (l : List Nat) (b' : Int × Int × Int), acc = l.map nD ∧ l.length = L.length ∧ (∀ x ∈ l, x < spots.length) ∧ L.length ≤ 4 ∧ BOk (c + L.length) b' ∧ μ' = pre ++ bx b' :: post)
      ⟨[], b, rfl, rfl, fun x hx => (by cases hx), Nat.zero_le _, ok, rfl⟩ (fun L x rest acc μ' hL ⟨l, b', e1, e2, e3, e4, ok', e5⟩ => ?_) (fun acc μ' ⟨l, b', e1, e2, e3, e4, ok', e5⟩ => ?_)) (blkOk_by (by kernel_rfl)) nd) nd)
    · subst e1 e5
      have hL4 : L.length + 1 ≤ 4 := by
        have := congrArg List.length hL
        rw [List.length_range, List.length_append, List.length_cons] at this
        omega
      intro s H C cl fp
      refine aGc_name (i := 4) ?_ nd
      intro s H C cl fp
      refine aTs_mono tvs_nil fun kk μ3 ⟨e6, e7⟩ => ?_
      subst e6 e7
      rw [if_pos rfl]
      intro s H C cl fp
      refine aE_take G (hr.mono (by decide)) (ev_v 0) (n := spots.length) (ev_cast (ev_len G.n_len (aE_dget hu (ev_v 1) ev_str (hm b') rfl v1 ⟨rfl, rfl⟩) (.l (.p (hsp b')))) (by rw [List.length_map])) hk ok' (by omega) s0 (by omega) fun r b2 hr2 ok2 => ?_
      exact ⟨l ++ [r], b2, by rw [List.map_append]; rfl, by rw [List.length_append, List.length_append, e2]; rfl, fun y hy => by
        rcases List.mem_append.mp hy with z | z
        · exact e3 y z
        · rw [List.mem_singleton.mp z]; exact hr2, by rw [List.length_append]; exact hL4, by rw [List.length_append]; exact ok2, rfl⟩
    · subst e1 e5
      rw [List.length_range] at e2 ok'
      refine aSs_one (aS_ret (aE_lc (c := false) (own := [("_law_lap", 4)]) (lcs (L := List.range many) (enc := nD) (cc := false) (wi_range (n := many) G.n_range (ev_v 2) (by omega)) (by rw [List.length_range, sizeLine_eq]; omega)
        (fun L acc μ' => ∃ (ws : Ps) (b' : Int × Int × Int), acc = ws.map pD ∧ ws.length = L.length ∧ (∀ q ∈ ws, q.1 < spots.length ∧ q.2 < hs.length) ∧ L.length ≤ many ∧ BOk (c + 4 + 2 * L.length) b' ∧ μ' = pre ++ bx b' :: post)
        ⟨[], b', rfl, rfl, fun x hx => (by cases hx), Nat.zero_le _, ok', rfl⟩ (fun L x rest acc μ' hL ⟨ws, b1, f1, f2, f3, f4, ok1, f5⟩ => ?_) (fun acc μ' ⟨ws, b1, f1, f2, f3, f4, ok1, f5⟩ => ?_)) (blkOk_by (by kernel_rfl)) nd))
      · subst f1 f5
        have hLm : L.length + 1 ≤ many := by
          have := congrArg List.length hL
          rw [List.length_range, List.length_append, List.length_cons] at this
          omega
        intro s H C cl fp
        refine aGc_name (i := 4) ?_ nd
        intro s H C cl fp
        refine aTs_mono tvs_nil fun kk μ3 ⟨e6, e7⟩ => ?_
        subst e6 e7
        rw [if_pos rfl]
        intro s H C cl fp
        refine aE_tup (aA_cons (aE_def G.lawOf (ok_of G) hr (aA_ev (va_cons (ev_v 0) (va_cons (ev_v 3) va_nil)) ⟨pre, post, k, b1, _, l, rfl, hk, rfl, ok1, by omega, (by intro z; rw [z] at e2; cases e2), by omega, fun y b2 hy ok2 => ?_⟩)))
        refine aA_cons (aE_take G (hr.mono (by decide)) (ev_v 0) (n := hs.length) (ev_callB (va_cons (aE_dget hu (ev_v 1) ev_str (hm b2) rfl v3 ⟨rfl, rfl⟩) va_nil) (acall_lenK (hh b2) ⟨by rw [encH_len], rfl⟩) G.n_len rfl) hk ok2 (by omega) h0 (by omega) fun r b3 hr3 ok3 => aA_nil ⟨by show 2 ≤ sizeLine; decide, ?_⟩)
        exact ⟨ws ++ [(y, r)], b3, by rw [List.map_append]; rfl, by rw [List.length_append, List.length_append, f2]; rfl, fun z hz => by
          rcases List.mem_append.mp hz with z1 | z1
          · exact f3 z z1
          · rw [List.mem_singleton.mp z1]; exact ⟨e3 y hy, hr3⟩, by rw [List.length_append]; exact hLm, by rw [List.length_append, List.length_singleton]; exact ok3.mono (by omega), rfl⟩
      · subst f1 f5
        rw [List.length_range] at f2 ok1
        exact endR (q ws b1 f3 (by omega) ok1)
end HF

/-! ## Q12 -/
namespace HF
open PySem PySem.Spec PyProof.Rows L2 NdefX
variable {P : Program} {w : World} {K : PySem.W.Frag} {mg : Str → Option Value} {base : Heap}
def spSame (n : Nat) : ASp := fun ds μ R => ∃ d, ds = [d, d] ∧ d.fl n = true ∧ R (.bl true) μ
section
variable {X : Cx} {a : Expr} {ρ : AEnv} {μ : Sto} {p pos p2 : Pos} {d : D} {n T : String}
theorem ev_isi {x : Str} {k : Bool} (hi : X.mg "isinstance" = none) (hm : X.mg x = none) (hv : bootBuiltins x = some (.type T)) (h : EV X a ρ μ d) (ht : d.tyn = some n) (hk : kitB n T = some k) (hg : Gl X "isinstance" := by rfl) (hg2 : Gl X x := by rfl) (hn : x ≠ "__name__" := by decide) (hd : (x == ("__debug__" : Str)) = false := by decide)
    (s1 : starEach [a, .Name x p2] X.env = (false, eval a X.env) :: starEach [.Name x p2] X.env := by rfl) (s2 : starEach [.Name x p2] X.env = (false, eval (.Name x p2) X.env) :: starEach [] X.env := by rfl) (hpl : (backTo pos (starEach [.Name x p2] X.env)).any (·.1) = false := by rfl) :
    EV X (.Call (.Name "isinstance" p) [a, .Name x p2] [] pos) ρ μ (.bl k) := ev_callB (va_cons h (va_cons (ev_ty hm hv hg2 hn hd) va_nil s2) s1) (acall_isi ht hk ⟨rfl, rfl⟩) hi (by rfl) hg (by decide) (by decide) s1 hpl
end
theorem zipD_same (xs : List D) : zipD xs xs = xs.map fun x => .tup [x, x] := by
  unfold zipD
  induction xs with
  | nil => rfl
  | cons x xs ih => rw [List.zip_cons_cons, List.map_cons, List.map_cons, ih]
def D.isFlat : D → Bool
  | .lst _ => false
  | .tup _ => false
  | _ => true
theorem eq_self {X : Cx} {a b : Expr} {ρ : AEnv} {μ : Sto} {pos : Pos} {d : D} {n : Nat} (hf : d.fl n = true) (hs : d.isFlat = true) (ha : EV X a ρ μ d) (hb : EV X b ρ μ d) : EV X (.Compare a [.Eq] [b] pos) ρ μ (.bl true) := by
  cases d with
  | non => exact ev_cmp ha hb (aop_eqN ⟨rfl, rfl⟩)
  | bl k => exact ev_cast (ev_eqB ha hb) (by simp)
  | int i => exact ev_cast (ev_eqI ha hb) (by simp)
  | str x => exact ev_cast (ev_eqS ha hb) (by simp)
  | lst _ => cases hs
  | tup _ => cases hs
  | scr _ => cases n <;> cases hf
  | pr _ => cases n <;> cases hf
  | ty _ => cases n <;> cases hf
  | kt _ => cases n <;> cases hf
theorem ok_same (G : Facts K mg) : ∀ n, AOk P w K mg base (n + 1) G.lawSame.f G.lawSame.fd ["_law_found", "_law_due"] (spSame n) := by
  have leaf : ∀ n m, ∀ d : D, d.isFlat = true → d.fl n = true → ∀ (R : DK) (μ : Sto), R (.bl true) μ → ∀ (cdv : Value) (Ar : Around) (outer : List Env) (s : Shared) (H : Hp) (E : XK), Room m (Ar.deeper (envOfC "_law_same" (defScope s_lawSame) s.heap.objs.size G.lawSame.f cdv)) →
      aSs (cxOf CX0 P w K mg base ["_law_found", "_law_due", "_law_mine", "_law_its"] "_law_same" (defScope s_lawSame) G.lawSame.f cdv Ar outer s H E).nox (defBody s_lawSame) [some d, some d, none, none] μ (ends μ R) := by
    intro n m d hf hd R μ q cdv Ar outer s H E hr
    obtain ⟨sn, hty⟩ := D.fl_tyn hd
    refine aSs_cons (aS_if (aT_val (aE_callB (id := "isinstance") (aA_ev (va_cons (ev_v 1) (va_cons (ev_tup (va_cons (ev_ty (T := "list") G.n_list rfl) (va_cons (ev_ty (T := "tuple") G.n_tuple rfl) va_nil))) va_nil)) (acall_isiD (ns := ["list", "tuple"]) hty (D.tyn_seq hty) ⟨_, rfl, ?_⟩)) G.n_isinstance rfl)))
    have hns : d.isSeq = false := by cases d <;> first | rfl | (cases hf; done) | (cases n <;> cases hd)
    rw [hns, if_neg Bool.false_ne_true]
    refine aSs_nil (aSs_cons (aS_if (aT_ev (tv_or (k := d.isNon) (k' := d.isBS) (tv_isN (ev_v 1) ev_non) fun _ => tv_val (ev_callB (va_cons (ev_v 1) (va_cons (ev_tup (va_cons (ev_ty (T := "bool") G.n_bool rfl) (va_cons (ev_ty (T := "str") G.n_str rfl) va_nil))) va_nil)) (acall_isiD (ns := ["bool", "str"]) hty (D.tyn_bs hty) ⟨rfl, rfl⟩) G.n_isinstance rfl)) ?_)))
    split
    · exact aSs_one (aS_ret (aE_ev (ev_cast (ev_and3 (k1 := true) (k2 := true) (k3 := true) (eq_self hd hf (ev_v 0) (ev_v 1)) (fun _ => ev_cast (ev_eqB (ev_isi (T := "bool") G.n_isinstance G.n_bool rfl (ev_v 0) hty (D.tyn_bool hty)) (ev_isi (T := "bool") G.n_isinstance G.n_bool rfl (ev_v 1) hty (D.tyn_bool hty))) (by simp)) (fun _ _ => ev_cast (ev_eqB (ev_isN (ev_v 0) ev_non) (ev_isN (ev_v 1) ev_non)) (by simp))) rfl) (endR q)))
    · rename_i hz
      have hi : d.isI = true ∧ d.isB = false := by
        cases d with
        | int i => exact ⟨rfl, rfl⟩
        | non => exact absurd rfl hz
        | bl k => exact absurd rfl hz
        | str x => exact absurd rfl hz
        | lst _ => cases hf
        | tup _ => cases hf
        | scr _ => cases n <;> cases hd
        | pr _ => cases n <;> cases hd
        | ty _ => cases n <;> cases hd
        | kt _ => cases n <;> cases hd
      refine aSs_nil (aSs_one (aS_ret (aE_ev (ev_cast (ev_and3 (k1 := d.isI) (k2 := !d.isB) (k3 := true) (ev_isi (T := "int") G.n_isinstance G.n_int rfl (ev_v 0) hty (D.tyn_int hty)) (fun _ => ev_not (ev_isi (T := "bool") G.n_isinstance G.n_bool rfl (ev_v 0) hty (D.tyn_bool hty))) (fun _ _ => eq_self hd hf (ev_v 0) (ev_v 1))) (by rw [hi.1, hi.2]; rfl)) (endR q))))
  intro n
  induction n with
  | zero =>
    refine fnA G.lawSame.F sc_lawSame (fun ds μ R h => ?_) fun cdv Ar outer s H E ds μ R hr h => ?_
    · obtain ⟨d, rfl, _⟩ := h
      rfl
    · obtain ⟨d, rfl, hd, q⟩ := h
      exact leaf 0 0 d (by cases d <;> first | rfl | cases hd) hd R μ q cdv Ar outer s H E hr
  | succ n ih =>
    refine fnA G.lawSame.F sc_lawSame (fun ds μ R h => ?_) fun cdv Ar outer s H E ds μ R hr h => ?_
    · obtain ⟨d, rfl, _⟩ := h
      rfl
    · obtain ⟨d, rfl, hd, q⟩ := h
      have nd := sc_lawSame.nd
      by_cases hf : d.isFlat = true
      · exact leaf (n + 1) _ d hf hd R μ q cdv Ar outer s H E hr
      · obtain ⟨xs, hx, hxs⟩ : ∃ xs, (d = .lst xs ∨ d = .tup xs) ∧ (xs.all (D.fl n) && decide (xs.length < 1000)) = true := by
          cases d with
          | lst xs => exact ⟨xs, .inl rfl, hd⟩
          | tup xs => exact ⟨xs, .inr rfl, hd⟩
          | int i => exact absurd rfl hf
          | non => exact absurd rfl hf
          | bl k => exact absurd rfl hf
          | str x => exact absurd rfl hf
          | scr _ => exact absurd rfl hf
          | pr _ => exact absurd rfl hf
          | ty _ => exact absurd rfl hf
          | kt _ => exact absurd rfl hf
        rw [Bool.and_eq_true] at hxs
        have hlen := of_decide_eq_true hxs.2
        obtain ⟨sn, hty⟩ := D.fl_tyn hd
        have hseq : d.isSeq = true := by rcases hx with rfl | rfl <;> rfl
        refine aSs_cons (aS_if (aT_val (aE_callB (id := "isinstance") (aA_ev (va_cons (ev_v 1) (va_cons (ev_tup (va_cons (ev_ty (T := "list") G.n_list rfl) (va_cons (ev_ty (T := "tuple") G.n_tuple rfl) va_nil))) va_nil)) (acall_isiD (ns := ["list", "tuple"]) hty (D.tyn_seq hty) ⟨_, rfl, ?_⟩)) G.n_isinstance rfl)))
        rw [hseq, if_pos rfl]
        refine aSs_cons (aS_if (aT_ev (tv_cmp (ev_isi (T := "list") G.n_isinstance G.n_list rfl (ev_v 0) hty (D.tyn_list hty)) (ev_isi (T := "list") G.n_isinstance G.n_list rfl (ev_v 1) hty (D.tyn_list hty)) (aop_neB ⟨rfl, rfl⟩)) ?_))
        rw [decide_eq_true rfl, Bool.not_true, if_neg Bool.false_ne_true]
        refine aSs_nil (aSs_cons (aS_if (aT_ev (tv_cmp (ev_isi (T := "tuple") G.n_isinstance G.n_tuple rfl (ev_v 0) hty (D.tyn_tuple hty)) (ev_isi (T := "tuple") G.n_isinstance G.n_tuple rfl (ev_v 1) hty (D.tyn_tuple hty)) (aop_neB ⟨rfl, rfl⟩)) ?_)))
        rw [decide_eq_true rfl, Bool.not_true, if_neg Bool.false_ne_true]
        have hS : IsS μ d xs := by rcases hx with rfl | rfl <;> first | exact isl | exact .t
        refine aSs_nil (aSs_one (aS_ret (aE_ev (ev_cast (ev_and (k := true) (k' := true) (ev_cast (ev_eqN (i := xs.length) (j := xs.length) (ev_len G.n_len (ev_v 0) hS) (ev_len G.n_len (ev_v 1) hS)) (by simp)) fun _ => ev_cast (ev_all (L := xs) (q := fun _ => true) G.n_all (aE_lc (c := false) (own := [("_law_mine", 2), ("_law_its", 3)]) (lcm (L := xs) (enc := fun x => .tup [x, x]) (g := fun _ => .bl true) (env := fun x => [some d, some d, some x, some x]) ?_ ?_ ?_ ?_ ⟨rfl, rfl⟩) (blkOk_by (by kernel_rfl)) nd)) (by simp)) rfl) (endR q))))
        · rw [← zipD_same]
          exact aI_zipA (ev_v 0) (ev_v 1) (by rcases hx with rfl | rfl <;> first | exact .inl ⟨rfl, rfl⟩ | exact .inr ⟨rfl, rfl⟩) ⟨rfl, rfl, trivial⟩ G.n_zip
        · exact small1000 (Nat.le_of_lt hlen)
        · intro x _ s H C cl fp
          exact aGc_pair 2 3 nd ⟨rfl, rfl⟩
        · intro x hx s H C cl fp
          exact aE_def G.lawSame ih hr (aA_ev (va_cons (ev_v 2) (va_cons (ev_v 3) va_nil)) ⟨x, rfl, List.all_eq_true.mp hxs.1 x hx, rfl, rfl⟩)
end HF

/-! ## N1 -/
namespace HF
open PySem PySem.Spec PyProof.Rows L2
/-! ### other names: the same relations -/
/-- ns: new names below F, each once, for the people of t -/
structure Nam (t : Tab) (ns : List Nat) (F : Nat) : Prop where
  nd : ns.Nodup
  len : ns.length = t.folk
  bd : ∀ x ∈ ns, x < F
  evs : ∀ e ∈ t.evs, e.Ok t.folk
section
variable {t : Tab} {ns : List Nat} {F : Nat}
theorem nm_get {p : Nat} (h : p < ns.length) : ns[p]? = some (nm ns p) := by
  unfold nm
  rw [List.getD_eq_getElem?_getD, List.getElem?_eq_getElem h]
  rfl
theorem nm_mem {p : Nat} (h : p < ns.length) : nm ns p ∈ ns := List.mem_of_getElem? (nm_get h)
theorem Nam.lt (N : Nam t ns F) {p : Nat} (h : p < t.folk) : nm ns p < F := N.bd _ (nm_mem (by rw [N.len]; exact h))
theorem Nam.inj (N : Nam t ns F) {p q : Nat} (h : p < t.folk) (k : q < t.folk) (e : nm ns p = nm ns q) : p = q := by
  rw [← N.len] at h k
  have e1 := nm_get (ns := ns) h
  have e2 := nm_get (ns := ns) k
  rw [e] at e1
  obtain ⟨h1, q1⟩ := List.getElem?_eq_some_iff.mp e1
  obtain ⟨h2, q2⟩ := List.getElem?_eq_some_iff.mp e2
  exact (List.getElem_inj N.nd).mp (q1.trans q2.symm)
theorem Nam.eq (N : Nam t ns F) {p q : Nat} (h : p < t.folk) (k : q < t.folk) : decide (nm ns p = nm ns q) = decide (p = q) := by
  by_cases e : p = q
  · rw [decide_eq_true e, decide_eq_true (congrArg (nm ns) e)]
  · rw [decide_eq_false e, decide_eq_false fun z => e (N.inj h k z)]
/-- the table of the other names -/
def Tab.ren (t : Tab) (ns : List Nat) (F : Nat) : Tab := ⟨F, t.evs.map (moveE ns)⟩
theorem move_word (e : Ev) : (moveE ns e).word = e.word := by cases e <;> rfl
theorem move_who (e : Ev) : (moveE ns e).who = nm ns e.who := by cases e <;> rfl
abbrev nmP (ns : List Nat) (q : Nat × Nat) : Nat × Nat := (q.1, nm ns q.2)
theorem evsOf_ren (t : Tab) (ns : List Nat) (F : Nat) (w : Str) : evsOf (t.ren ns F) w = (evsOf t w).map (nmP ns) := by
  unfold evsOf Tab.ren
  rw [List.zipIdx_map, List.filter_map, List.map_map, List.map_map]
  have : ((fun e : Ev × Nat => decide (e.1.word = w)) ∘ Prod.map (moveE ns) id) = fun e : Ev × Nat => decide (e.1.word = w) := by
    funext e
    show decide ((moveE ns e.1).word = w) = _
    rw [move_word]
  rw [this]
  congr 1
  funext e
  show ((e.2 : Nat), (moveE ns e.1).who) = (e.2, nm ns e.1.who)
  rw [move_who]
theorem ren_looks : (t.ren ns F).looks = t.looks.map (nmP ns) := evsOf_ren _ _ _ _
theorem ren_adds : (t.ren ns F).adds = t.adds.map (nmP ns) := evsOf_ren _ _ _ _
theorem ren_n : (t.ren ns F).n = t.n := by unfold Tab.n; rw [ren_looks, List.length_map]
theorem ren_lk {i : Nat} (h : i < t.n) : (t.ren ns F).lk i = nmP ns (t.lk i) := by
  have h1 := Tab.lk_get (t := t.ren ns F) (i := i) (by rw [ren_n]; exact h)
  have h2 := Tab.lk_get h
  rw [ren_looks, List.getElem?_map, h2] at h1
  exact (Option.some.inj h1).symm
theorem lk_out {i : Nat} (h : ¬ i < t.n) : t.lk i = (0, 0) := by
  unfold Tab.lk
  rw [List.getD_eq_getElem?_getD, List.getElem?_eq_none (by unfold Tab.n at h; omega)]
  rfl
theorem ren_lk1 {i : Nat} : ((t.ren ns F).lk i).1 = (t.lk i).1 := by
  by_cases h : i < t.n
  · rw [ren_lk h]
  · rw [lk_out h, lk_out (by rw [ren_n]; exact h)]
theorem evsOf_who {w : Str} (h : ∀ e ∈ t.evs, e.Ok t.folk) : ∀ a ∈ evsOf t w, a.2 < t.folk := by
  intro a ha
  unfold evsOf at ha
  obtain ⟨x, hx, rfl⟩ := List.mem_map.mp ha
  have hx1 := (List.mem_filter.mp hx).1
  have hm : x.1 ∈ t.evs := by
    have := List.mem_zipIdx hx1
    simp only [Nat.zero_le, Nat.sub_zero, Nat.zero_add, true_and] at this
    rw [this.2]
    exact List.getElem_mem _
  have := h _ hm
  show x.1.who < t.folk
  revert this
  cases x.1 with
  | look p => exact fun h => h
  | add p => exact fun h => h
  | meet p q => exact fun h => h.1
  | tell p q => exact fun h => h.1
theorem Nam.add (N : Nam t ns F) : ∀ a ∈ t.adds, a.2 < t.folk := evsOf_who N.evs
theorem Nam.look (N : Nam t ns F) {i : Nat} (h : i < t.n) : (t.lk i).2 < t.folk := evsOf_who N.evs _ (List.mem_of_getElem? (Tab.lk_get h))
theorem any_on {α : Type} {l : List α} {p q : α → Bool} (h : ∀ x ∈ l, p x = q x) : l.any p = l.any q := by
  induction l with
  | nil => rfl
  | cons x l ih => rw [List.any_cons, List.any_cons, h x List.mem_cons_self, ih fun y hy => h y (List.mem_cons_of_mem _ hy)]
theorem filter_on {α : Type} {l : List α} {p q : α → Bool} (h : ∀ x ∈ l, p x = q x) : l.filter p = l.filter q := List.filter_congr h
theorem Nam.late (N : Nam t ns F) {i j : Nat} (hj : j < t.n) : (t.ren ns F).late i j = t.late i j := by
  unfold Tab.late
  rw [ren_adds, List.any_map]
  refine any_on fun a ha => ?_
  show ((decide (((t.ren ns F).lk i).1 < a.1) && decide (a.1 < ((t.ren ns F).lk j).1)) && decide (nm ns a.2 = ((t.ren ns F).lk j).2)) = _
  rw [ren_lk1, ren_lk1, ren_lk hj, N.eq (N.add a ha) (N.look hj)]
theorem closed_late {n : Nat} {l l' : Nat → Nat → Bool} {α β : Nat → Nat → Prop} (h : ∀ i j, i < n → j < n → l i j = l' i j) (c : Closed n l α β) : Closed n l' α β :=
  ⟨c.sym, c.up, c.lo, c.al, fun i j hi hj hne ha hl => c.la i j hi hj hne ha (by rw [h i j hi hj]; exact hl)⟩
theorem Nam.closed (N : Nam t ns F) {α β : Nat → Nat → Prop} : Closed (t.ren ns F).n (t.ren ns F).late α β ↔ Closed t.n t.late α β := by
  rw [ren_n]
  exact ⟨closed_late fun i j _ hj => N.late hj, closed_late fun i j _ hj => (N.late hj).symm⟩
/-! ### the runs -/
structure RunR (t : Tab) (ns : List Nat) (F : Nat) (s s' : GS) : Prop where
  num : s'.num = s.num
  A : s'.A = s.A
  B : s'.B = s.B
  l1 : s.hs.length = t.folk
  l2 : s'.hs.length = F
  has : ∀ p, p < t.folk → s'.has (nm ns p) = s.has p
  out : ∀ q, q ∉ ns → s'.has q = []
theorem has_set {hs : List (List Nat)} {p q : Nat} {l : List Nat} {n : Nat} {A B : Ps} (hp : p < hs.length) : (⟨n, hs.set p l, A, B⟩ : GS).has q = if p = q then l else (⟨n, hs, A, B⟩ : GS).has q := by
  unfold GS.has
  simp only [List.getD_eq_getElem?_getD, List.getElem?_set]
  by_cases e : p = q
  · subst e; simp [hp]
  · simp [e]
theorem Nam.setR (N : Nam t ns F) {s s' : GS} (R : RunR t ns F s s') {p : Nat} (hp : p < t.folk) {n : Nat} {A B : Ps} (l : List Nat) : RunR t ns F ⟨n, s.hs.set p l, A, B⟩ ⟨n, s'.hs.set (nm ns p) l, A, B⟩ := by
  refine ⟨rfl, rfl, rfl, by rw [List.length_set]; exact R.l1, by rw [List.length_set]; exact R.l2, fun q hq => ?_, fun q hq => ?_⟩
  · rw [has_set (by rw [R.l2]; exact N.lt hp), has_set (by rw [R.l1]; exact hp)]
    by_cases e : p = q
    · rw [if_pos e, if_pos (congrArg _ e)]
    · rw [if_neg e, if_neg fun z => e (N.inj hp hq z)]
      exact R.has q hq
  · rw [has_set (by rw [R.l2]; exact N.lt hp), if_neg (fun z : nm ns p = q => hq (by rw [← z]; exact nm_mem (by rw [N.len]; exact hp)))]
    exact R.out q hq
theorem GS.mk_hs {s : GS} {hs : List (List Nat)} {A : Ps} : ({ s with A := A, hs := hs } : GS) = ⟨s.num, hs, A, s.B⟩ := rfl
theorem Nam.cmpR (N : Nam t ns F) {s s' : GS} (R : RunR t ns F s s') {p q : Nat} (hp : p < t.folk) (hq : q < t.folk) (long meet : Bool) : RunR t ns F (s.cmp long meet p q) (s'.cmp long meet (nm ns p) (nm ns q)) := by
  unfold GS.cmp
  rw [R.has p hp, R.has q hq, R.A]
  split
  · simp only [R.num, R.B]
    cases meet with
    | true => exact N.setR (N.setR (n := s.num) (A := crossA (uni (s.has p ++ s.has q)) s.A) (B := s.B) R hq (uni (s.has p ++ s.has q))) hp _
    | false => exact N.setR R hq _
  · exact ⟨R.num, rfl, R.B, R.l1, R.l2, R.has, R.out⟩
theorem Nam.stepR (N : Nam t ns F) {s s' : GS} (R : RunR t ns F s s') {e : Ev} (he : e.Ok t.folk) (long : Bool) : RunR t ns F (s.step long e) (s'.step long (moveE ns e)) := by
  cases e with
  | look p =>
    show RunR t ns F ⟨_, _, _, _⟩ ⟨_, _, _, _⟩
    simp only [R.has p he, R.num, R.A, R.B]
    exact N.setR R he _
  | add p => exact R
  | meet p q => exact N.cmpR R he.1 he.2 long true
  | tell p q => exact N.cmpR R he.1 he.2 long false
theorem Nam.foldR (N : Nam t ns F) (long : Bool) : ∀ (l : List Ev) {s s' : GS}, (∀ e ∈ l, e.Ok t.folk) → RunR t ns F s s' → RunR t ns F (l.foldl (GS.step long) s) ((l.map (moveE ns)).foldl (GS.step long) s')
  | [], _, _, _, R => R
  | e :: l, _, _, h, R => N.foldR long l (fun x hx => h x (List.mem_cons_of_mem _ hx)) (N.stepR R (h e List.mem_cons_self) long)
theorem rep_has {n q : Nat} {A B : Ps} {m : Nat} : (⟨m, List.replicate n [], A, B⟩ : GS).has q = [] := by
  unfold GS.has
  rw [List.getD_eq_getElem?_getD, List.getElem?_replicate]
  split <;> rfl
theorem Nam.run (N : Nam t ns F) (long : Bool) : RunR t ns F (t.run long) ((t.ren ns F).run long) :=
  N.foldR long t.evs N.evs ⟨rfl, rfl, rfl, List.length_replicate, List.length_replicate, fun p _ => by
    show (GS.init F).has _ = (GS.init t.folk).has _
    unfold GS.init
    rw [rep_has, rep_has], fun q _ => rep_has⟩
theorem Nam.alP (N : Nam t ns F) (long : Bool) (M : Ps) (i j : Nat) : (t.ren ns F).alP long M i j ↔ t.alP long M i j := by
  have R := N.run long
  unfold Tab.alP
  rw [R.A, R.B]
  exact ⟨fun h α β c => h α β (N.closed.mpr c), fun h α β c => h α β (N.closed.mp c)⟩
theorem Nam.beP (N : Nam t ns F) (long : Bool) (M : Ps) (i j : Nat) : (t.ren ns F).beP long M i j ↔ t.beP long M i j := by
  have R := N.run long
  unfold Tab.beP
  rw [R.A, R.B]
  exact ⟨fun h α β c => h α β (N.closed.mpr c), fun h α β c => h α β (N.closed.mp c)⟩
theorem dec_iff {p q : Prop} (h : p ↔ q) {a : Decidable p} {b : Decidable q} : @decide p a = @decide q b := by
  by_cases z : p
  · rw [@decide_eq_true p a z, @decide_eq_true q b (h.mp z)]
  · rw [@decide_eq_false p a z, @decide_eq_false q b fun y => z (h.mpr y)]
theorem Nam.al (N : Nam t ns F) (long : Bool) (M : Ps) : (t.ren ns F).al long M = t.al long M := by
  funext i j
  unfold Tab.al
  rw [dec_iff (N.alP long M i j)]
theorem Nam.be (N : Nam t ns F) (long : Bool) (M : Ps) : (t.ren ns F).be long M = t.be long M := by
  funext i j
  unfold Tab.be
  exact dec_iff (N.beP long M i j)
theorem Nam.has (N : Nam t ns F) (long : Bool) {p : Nat} (h : p < t.folk) : (t.ren ns F).has long (nm ns p) = t.has long p := (N.run long).has p h
theorem Nam.out (N : Nam t ns F) (long : Bool) {q : Nat} (h : q ∉ ns) : (t.ren ns F).has long q = [] := (N.run long).out q h
theorem Nam.branch (N : Nam t ns F) (long : Bool) (i : Nat) : (t.ren ns F).branch long i = t.branch long i := by
  unfold Tab.branch
  rw [ren_n, N.be]
theorem Nam.last (N : Nam t ns F) (l : Nat) : (t.ren ns F).last l = t.last l := by
  unfold Tab.last
  rw [ren_adds, List.filter_map, List.map_map]
  by_cases hl : l < t.n
  · congr 1
    congr 1
    refine filter_on fun a ha => ?_
    show (decide (a.1 < ((t.ren ns F).lk l).1) && decide (nm ns a.2 = ((t.ren ns F).lk l).2)) = _
    rw [ren_lk hl, N.eq (N.add a ha) (N.look hl)]
  · congr 1
    congr 1
    refine filter_on fun a ha => ?_
    show (decide (a.1 < ((t.ren ns F).lk l).1) && decide (nm ns a.2 = ((t.ren ns F).lk l).2)) = _
    rw [ren_lk1, lk_out hl]
    rfl
theorem ren_before (i : Nat) : (t.ren ns F).before i = t.before i := by
  unfold Tab.before
  rw [ren_adds, List.filter_map, List.length_map, ren_lk1]
  rfl
theorem Nam.st (N : Nam t ns F) (kind : Str) (M ws : Ps) (hw : ∀ q ∈ ws, q.2 < t.folk) : (t.ren ns F).stL kind M (ws.map (nmP ns)) = t.stL kind M ws := by
  funext l o
  show (t.ren ns F).stops (decide (kind = "long")) M (ws.map (nmP ns)) l o = t.stops (decide (kind = "long")) M ws l o
  unfold Tab.stops Tab.pstops
  rw [N.be, ren_lk1, N.last]
  congr 1
  unfold Tab.bar
  rw [List.any_map, List.any_map]
  congr 2
  refine any_on fun q hq => ?_
  show (decide (q.1 = l) && decide (o ∈ (t.ren ns F).has (decide (kind = "long")) (nm ns q.2))) = _
  rw [N.has _ (hw q hq)]
theorem Nam.fine (N : Nam t ns F) (kind : Str) (c : Bool) (ws : Ps) (hw : ∀ q ∈ ws, q.2 < t.folk) : fineM (t.ren ns F) kind c (ws.map (nmP ns)) = fineM t kind c ws := by
  unfold fineM
  rw [ren_n, N.st kind _ ws hw]
  have e1 : (t.ren ns F).alL kind (chainOf t.n c) = t.alL kind (chainOf t.n c) := N.al _ _
  rw [e1, List.any_map]
  congr 2
  refine any_on fun q hq => ?_
  show (t.ren ns F).bar (decide (kind = "long")) (ws.map (nmP ns)) q.1 q.1 = _
  unfold Tab.bar
  rw [List.any_map, List.any_map]
  congr 2
  refine any_on fun q' hq' => ?_
  show (decide (q'.1 = q.1) && decide (q.1 ∈ (t.ren ns F).has (decide (kind = "long")) (nm ns q'.2))) = _
  rw [N.has _ (hw q' hq')]
theorem Nam.way (N : Nam t ns F) (kind : Str) (ws : Ps) (hw : ∀ q ∈ ws, q.2 < t.folk) : wayM (t.ren ns F) kind (ws.map (nmP ns)) = wayM t kind ws := by
  unfold wayM
  rw [N.fine kind _ ws hw, N.fine kind _ ws hw]
theorem Nam.newest (N : Nam t ns F) (f : Nat → Nat → Bool) (i : Nat) : (t.ren ns F).newest f i = t.newest f i := by
  unfold Tab.newest
  rw [ren_looks, List.zipIdx_map, List.filter_map, List.flatMap_map]
  congr 1
  have e : (fun e : (Nat × Nat) × Nat => decide (e.2 = i) || f e.2 i) ∘ Prod.map (nmP ns) id = fun e : (Nat × Nat) × Nat => decide (e.2 = i) || f e.2 i := rfl
  rw [e]
  have ents : ∀ l ∈ t.looks, (t.ren ns F).ents (nmP ns l) = t.ents l := fun l hl => by
    have hl2 := evsOf_who N.evs l hl
    unfold Tab.ents
    rw [ren_adds, List.zipIdx_map, List.filter_map, List.map_map]
    have : (t.adds.zipIdx.filter ((fun a : (Nat × Nat) × Nat => decide (a.1.1 < (nmP ns l).1) && decide (a.1.2 = (nmP ns l).2)) ∘ Prod.map (nmP ns) id)) = t.adds.zipIdx.filter fun a => decide (a.1.1 < l.1) && decide (a.1.2 = l.2) := by
      refine filter_on fun a ha => ?_
      have hm : a.1 ∈ t.adds := by
        have := List.mem_zipIdx ha
        simp only [Nat.zero_le, Nat.sub_zero, Nat.zero_add, true_and] at this
        rw [this.2]
        exact List.getElem_mem _
      show (decide (a.1.1 < l.1) && decide (nm ns a.1.2 = nm ns l.2)) = _
      rw [N.eq (N.add _ hm) hl2]
    rw [this]
    rfl
  have go : ∀ L : List ((Nat × Nat) × Nat), (∀ x ∈ L, x.1 ∈ t.looks) → (L.flatMap fun e => (t.ren ns F).ents (Prod.map (nmP ns) id e).1) = L.flatMap fun e => t.ents e.1 := by
    intro L
    induction L with
    | nil => intro _; rfl
    | cons x L ih => intro h; rw [List.flatMap_cons, List.flatMap_cons, ih fun y hy => h y (List.mem_cons_of_mem _ hy)]; exact congrArg (· ++ _) (ents _ (h x List.mem_cons_self))
  refine go _ fun x hx => ?_
  have := List.mem_zipIdx (List.mem_filter.mp hx).1
  simp only [Nat.zero_le, Nat.sub_zero, Nat.zero_add, true_and] at this
  rw [this.2]
  exact List.getElem_mem _
theorem Nam.sets (N : Nam t ns F) (kind : Str) (i : Nat) : setsM (t.ren ns F) kind i = setsM t kind i := by
  have enew : (t.ren ns F).newL kind = t.newL kind := by
    funext i
    unfold Tab.newL
    rw [N.be, N.newest]
  have eal : (t.ren ns F).alL kind [] = t.alL kind [] := N.al _ _
  have ecut : ∀ l s, cutM (t.ren ns F) kind l s = cutM t kind l s := fun l s => by
    unfold cutM
    rw [ren_n, eal, enew]
  have eposs : possM (t.ren ns F) kind = possM t kind := by
    funext s
    unfold possM
    rw [ren_n, N.be, eal]
    congr 2
    funext l
    rw [ecut, ren_before]
  unfold setsM
  rw [ren_n, eposs]
end
end HF

/-! ## Q13 -/
namespace HF
open PySem PySem.Spec PyProof.Rows L2 NdefX
variable {P : Program} {w : World} {K : PySem.W.Frag} {mg : Str → Option Value} {base : Heap}
/-- the sets of people, as they are told -/
structure Auds (t : Tab) (kind : Str) (i : Nat) (ks : List (List Int)) : Prop where
  nd : ks.Nodup
  so : ks.Pairwise fun a b => tLt b a = false
  mem : ∀ k, k ∈ ks ↔ ∃ s ∈ setsM t kind i, k = natI (peopleM t kind s)
/-- what is told of a look -/
noncomputable def toldD (t : Tab) (kind : Str) (i : Nat) (names : List Nat) (ks : List (List Int)) (l : Ps) : List D :=
  (((.lst ((t.kept (decide (kind = "long")) i).map nD) :: names.map fun p => optD (t.knownAt (decide (kind = "long")) i p)) ++ (names.map fun p => .str (wayM t kind [(i, p)]))) ++ [.lst (ks.map encI)]) ++ [optC (clashM t kind l)]
def spAllTold : ASp := fun ds μ R => ∃ (t : Tab) (kind : Str) (i : Nat) (names : List Nat) (ws : Ps), ds = [t.enc, .str kind, nD i, .lst (names.map nD), .lst (ws.map pD)] ∧ t.Ok ∧ t.evs.length ≤ 20 ∧ i < t.n ∧ t.n ≤ 6 ∧ (∀ p ∈ names, p < t.folk) ∧ names.length ≤ 20 ∧
  (∀ q ∈ ws, q.1 < t.n ∧ q.2 < names.length) ∧ ws.length ≤ 5 ∧ (∀ s ∈ setsM t kind i, peopleM t kind s ≠ []) ∧
  ∀ ks l, Auds t kind i ks → l.Nodup → (∀ p, p ∈ l ↔ p ∈ ws.map (nmP names)) → R (.lst (toldD t kind i names ks l)) μ
theorem LcOut_f {acc : List D} {μ : Sto} {Q : DK} (h : Q (.lst acc) μ) : LcOut false acc μ Q := h
theorem ok_allTold (G : Facts K mg) (U : SupF P K mg G) : AOk P w K mg base 40 G.lawAllTold.f G.lawAllTold.fd ["_law_table_here", "_law_sort_so", "_law_i", "_law_names", "_law_wants_so"] spAllTold := by
  refine fnA G.lawAllTold.F sc_lawAllTold (fun ds μ R h => ?_) fun cdv Ar outer s H E ds μ R hr h => ?_
  · obtain ⟨t, kind, i, names, ws, rfl, _⟩ := h
    rfl
  · obtain ⟨t, kind, i, names, ws, rfl, ok, hev, hi, hn, hnm, hnl, hws, hwl, hne, q⟩ := h
    have nd := sc_lawAllTold.nd
    have hw2 : ∀ z ∈ ws.map (nmP names), z.1 < t.n ∧ z.2 < t.folk := fun z hz => by
      obtain ⟨y, hy, rfl⟩ := List.mem_map.mp hz
      exact ⟨(hws y hy).1, hnm _ (nm_mem (hws y hy).2)⟩
    refine aSs_cons (aS_setLc (c := false) (own := [("_law_want", 7)]) (i := 5) (lcm (L := ws) (enc := pD) (g := fun q => pD (nmP names q)) (env := fun q => [some t.enc, some (.str kind), some (nD i), some (.lst (names.map nD)), some (.lst (ws.map pD)), none, none, some (pD q), none]) ?_ ?_ ?_ ?_ (LcOut_f ?_)) (blkOk_by (by kernel_rfl)) nd (sw_true rfl rfl rfl (by kernel_rfl)))
    · exact vi_list (ev_v 4)
    · exact small1000 (by omega)
    · intro o _ s H C cl fp
      exact aGc_name (i := 7) ⟨rfl, rfl⟩ nd
    · intro o ho s H C cl fp
      exact ev_tup (va_cons (ev_t (i := 0) (ev_v 7)) (va_cons (ev_ixN (i := o.2) (ev_v 3) (ev_t (i := 1) (ev_v 7)) isl (by rw [List.getElem?_map, nm_get (hws o ho).2]; rfl)) va_nil))
    have emap : ws.map (fun q => pD (nmP names q)) = (ws.map (nmP names)).map pD := by rw [List.map_map]; rfl
    rw [emap]
    refine aSs_cons (aS_set (i := 6) (aE_ev (d := .lst (.lst ((t.kept (decide (kind = "long")) i).map nD) :: names.map fun p => optD (t.knownAt (decide (kind = "long")) i p))) (ev_cast (ev_cat (xs := [.lst ((t.kept (decide (kind = "long")) i).map nD)]) (ev_lst (va_cons (aE_def G.keptFrom (ok_keptFrom G) (hr.mono (by decide)) (aA_ev (va_cons (ev_v 0) (va_cons (ev_v 1) (va_cons (ev_v 2) va_nil))) ⟨t, kind, i, rfl, ok, hi, rfl, rfl⟩)) va_nil)) (aE_lc (c := false) (own := [("_law_p", 8)]) (lcm (L := names) (enc := nD) (g := fun p => optD (t.knownAt (decide (kind = "long")) i p)) (env := fun p => [some t.enc, some (.str kind), some (nD i), some (.lst (names.map nD)), some (.lst (ws.map pD)), some (.lst ((ws.map (nmP names)).map pD)), none, none, some (nD p)]) ?_ ?_ ?_ ?_ ⟨rfl, rfl⟩) (blkOk_by (by kernel_rfl)) nd) .l .l ?_) rfl) ?_) nd)
    · exact vi_list (ev_v 3)
    · exact small1000 (by omega)
    · intro o _ s H C cl fp
      exact aGc_name (i := 8) ⟨rfl, rfl⟩ nd
    · intro p hp s H C cl fp
      exact aE_def G.knownAt (ok_knownAt G) (hr.mono (by decide)) (aA_ev (va_cons (ev_v 0) (va_cons (ev_v 1) (va_cons (ev_v 2) (va_cons (ev_v 8) va_nil)))) ⟨t, kind, i, p, rfl, ok, hev, hi, hnm p hp, rfl, rfl⟩)
    · rw [List.length_map, List.length_singleton, sizeLine_eq]; omega
    refine aSs_cons (aS_set (i := 6) (aE_op (aE_ev (ev_cat (ev_v 6) (aE_lc (c := false) (own := [("_law_p", 8)]) (lcm (L := names) (enc := nD) (g := fun p => .str (wayM t kind [(i, p)])) (env := fun p => [some t.enc, some (.str kind), some (nD i), some (.lst (names.map nD)), some (.lst (ws.map pD)), some (.lst ((ws.map (nmP names)).map pD)), some (.lst (.lst ((t.kept (decide (kind = "long")) i).map nD) :: names.map fun p => optD (t.knownAt (decide (kind = "long")) i p))), none, some (nD p)]) ?_ ?_ ?_ ?_ ⟨rfl, rfl⟩) (blkOk_by (by kernel_rfl)) nd) .l .l ?_) ?_)) nd)
    · exact vi_list (ev_v 3)
    · exact small1000 (by omega)
    · intro o _ s H C cl fp
      exact aGc_name (i := 8) ⟨rfl, rfl⟩ nd
    · intro p hp s H C cl fp
      exact aE_def G.keepWay (ok_keepWay G U) hr (aA_ev (va_cons (ev_v 0) (va_cons (ev_v 1) (va_cons (ev_v 2) (va_cons (ev_lst (va_cons (ev_v 8) va_nil)) va_nil)))) ⟨t, kind, i, [p], rfl, ok, hi, fun x hx => by rw [List.mem_singleton.mp hx]; exact hnm p hp, by show 1 ≤ 100; decide, rfl, rfl⟩)
    · rw [List.length_cons, List.length_map, List.length_map, sizeLine_eq]; omega
    refine aE_lst (aA_cons (aE_def G.audiences (ok_audiences G) (hr.mono (by decide)) (aA_ev (va_cons (ev_v 0) (va_cons (ev_v 1) (va_cons (ev_v 2) va_nil))) ⟨t, kind, i, rfl, ok, hi, hn, hne, fun ks k1 k2 k3 => aA_nil ⟨by show 1 ≤ sizeLine; decide, ?_⟩⟩)))
    refine aop_cat .l .l (by rw [List.length_append, List.length_cons, List.length_map, List.length_map, List.length_singleton, sizeLine_eq]; omega) ?_
    refine aSs_one (aS_ret (aE_op (aE_ev (ev_v 6) (aE_lst (aA_cons (aE_def G.clash (ok_clash G U) hr (aA_ev (va_cons (ev_v 0) (va_cons (ev_v 1) (va_cons (ev_v 5) va_nil))) ⟨t, kind, ws.map (nmP names), rfl, ok, hw2, by rw [List.length_map]; exact hwl, fun l l1 l2 => aA_nil ⟨by show 1 ≤ sizeLine; decide, ?_⟩⟩)))))))
    exact aop_cat .l .l (by rw [List.length_append, List.length_append, List.length_cons, List.length_map, List.length_map, List.length_singleton, List.length_singleton, sizeLine_eq]; omega) (endR (q ks l ⟨k1, k2, k3⟩ l1 l2))
end HF

/-! ## Q14 -/
namespace HF
open PySem PySem.Spec PyProof.Rows L2 NdefX
theorem atI_m1 (l : List D) (c : D) : atI (l ++ [c]) (-1) = some c := by
  unfold atI ixN
  rw [if_neg (by decide), if_pos (by rw [List.length_append, List.length_singleton]; omega)]
  show (l ++ [c])[_]? = some c
  rw [show (-1 + (((l ++ [c]).length : Nat) : Int)).toNat = l.length by rw [List.length_append, List.length_singleton]; omega]
  simp
theorem atI_m2 (l : List D) (b c : D) : atI (l ++ [b] ++ [c]) (-2) = some b := by
  unfold atI ixN
  rw [if_neg (by decide), if_pos (by rw [List.length_append, List.length_append, List.length_singleton, List.length_singleton]; omega)]
  show (l ++ [b] ++ [c])[_]? = some b
  rw [show (-2 + (((l ++ [b] ++ [c]).length : Nat) : Int)).toNat = l.length by rw [List.length_append, List.length_append, List.length_singleton, List.length_singleton]; omega]
  simp
theorem cutD_mid (a b c : D) (l : List D) : cutD ((a :: l) ++ [b] ++ [c]) (some 1) (some (-2)) = l := by
  unfold cutD
  have e0 : ((a :: l) ++ [b] ++ [c]).length = l.length + 3 := by simp
  rw [e0]
  have e1 : HT.sIx (l.length + 3) 0 (some 1) = 1 := sIx_one (l.length + 2)
  have e2 : HT.sIx (l.length + 3) (l.length + 3) (some (-2)) = l.length + 1 := by
    have : HT.sIx (l.length + 3) (l.length + 3) (some (-2)) = ((-2 : Int) + (((l.length + 3 : Nat)) : Int)).toNat := rfl
    rw [this]
    omega
  rw [e1, e2]
  simp
theorem sort_uni {l : List Nat} {ns' : List Int} (nd : l.Nodup) (b : ∀ x ∈ l, x < 64) (p : ns'.Perm (natI l)) (h : ns'.Pairwise (· ≤ ·)) : ns' = natI (uni l) := by
  have nd2 : ns'.Nodup := p.nodup_iff.mpr (by
    unfold natI
    exact nodup_map_on nd fun x _ y _ e => Int.ofNat_inj.mp e)
  have lt : ns'.Pairwise (· < ·) := (h.and nd2).imp fun {a b} ⟨h1, h2⟩ => by omega
  exact uni_eq lt (fun k => p.mem_iff) b
section
variable {X : Cx} {e : Expr} {ρ : AEnv} {μ : Sto} {p pos : Pos} {d : D} {l : List Nat}
theorem ev_sortN (hm : X.mg "sorted" = none) (h : EV X e ρ μ d) (hd : IsL μ d (l.map nD)) (nd : l.Nodup) (b : ∀ x ∈ l, x < 64) (hl : l.length < 64) (hg : Gl X "sorted" := by rfl) (he : starEach [e] X.env = (false, eval e X.env) :: starEach [] X.env := by rfl) (hpl : (backTo pos (starEach [] X.env)).any (·.1) = false := by rfl) (hc : X.calm = true := by rfl) :
    EV X (.Call (.Name "sorted" p) [e] [] pos) ρ μ (.lst ((uni l).map nD)) :=
  ev_callB (va_cons h va_nil he) (acall_sorted (ns := natI l) (by unfold natI; rw [← nD_map]; exact hd) (by unfold natI; rw [List.length_map]; exact hl) (fun ns' h1 h2 => ⟨by rw [sort_uni nd b h1 h2]; unfold natI; rw [← nD_map], rfl⟩)) hm (by rfl) hg (by decide) (by decide) he hpl
end
variable {P : Program} {w : World} {K : PySem.W.Frag} {mg : Str → Option Value} {base : Heap}
def manyD : Option Ps → D
  | none => .non
  | some c => nD c.length
def renD (ns idle kp : List Nat) (mid : List D) (crowds : List (List Int)) (c : Option Ps) : List D := (.lst ((uni (kp.map (nm ns) ++ idle)).map nD) :: mid) ++ [.lst (crowds.map encI), manyD c]
def spRenamed : ASp := fun ds μ R => ∃ (kp : List Nat) (mid : List D) (kl : List (List Nat)) (c : Option Ps) (ns idle : List Nat) (di : D), ds = [.lst (((.lst (kp.map nD) :: mid) ++ [.lst ((kl.map natI).map encI)]) ++ [optC c]), .lst (ns.map nD), di] ∧ IsL μ di (idle.map nD) ∧
  (∀ x ∈ kp, x < ns.length) ∧ (∀ x ∈ ns, x < 60) ∧ (kp.map (nm ns) ++ idle).Nodup ∧ (∀ x ∈ idle, x < 60) ∧ ns.length ≤ 30 ∧ kp.length + idle.length ≤ 60 ∧ kl.length < 64 ∧ mid.length ≤ 100 ∧ (∀ k ∈ kl, k ≠ [] ∧ (∀ x ∈ k, x < ns.length) ∧ (k.map (nm ns)).Nodup ∧ k.length ≤ 60) ∧
  ∀ crowds : List (List Int), crowds.Perm (kl.map fun k => natI (uni (k.map (nm ns)))) → crowds.Pairwise (fun a b => tLt b a = false) → R (.lst (renD ns idle kp mid crowds c)) μ
theorem ok_renamed (G : Facts K mg) : AOk P w K mg base 1 G.lawRenamed.f G.lawRenamed.fd ["_law_told", "_law_names", "_law_idle"] spRenamed := by
  refine fnA G.lawRenamed.F sc_lawRenamed (fun ds μ R h => ?_) fun cdv Ar outer s H E ds μ R hr h => ?_
  · obtain ⟨kp, mid, kl, c, ns, idle, di, rfl, _⟩ := h
    rfl
  · obtain ⟨kp, mid, kl, c, ns, idle, di, rfl, hdi, hkp, hns, hnd, hid, hnl, hkl, hkn, hml, hk, q⟩ := h
    have nd := sc_lawRenamed.nd
    have nmb : ∀ x, x < ns.length → nm ns x < 60 := fun x hx => hns _ (nm_mem hx)
    generalize hT : ((D.lst (kp.map nD) :: mid) ++ [.lst ((kl.map natI).map encI)]) ++ [optC c] = T
    have t1 : atI T (-1) = some (optC c) := by rw [← hT]; exact atI_m1 _ _
    have t2 : atI T (-2) = some (.lst ((kl.map natI).map encI)) := by rw [← hT]; exact atI_m2 _ _ _
    have t0 : T[0]? = some (.lst (kp.map nD)) := by rw [← hT]; rfl
    have tc : cutD T (some 1) (some (-2)) = mid := by rw [← hT]; exact cutD_mid _ _ _ _
    refine aSs_cons (aS_set (i := 3) (aE_ev (d := manyD c) (ev_cast (ev_ite (k := (optC c).isNon) (x := .non) (y := manyD c) (tv_isN (ev_ix (ev_v 0) (ev_neg ev_int) isl t1) ev_non) (fun _ => ev_non) (fun hz => ?_)) ?_) ?_) nd)
    · cases c with
      | none => cases hz
      | some c => exact ev_cast (ev_len (xs := c.map pD) G.n_len (ev_ix (ev_v 0) (ev_neg ev_int) isl t1) .t) (by rw [List.length_map]; rfl)
    · cases c <;> rfl
    refine aSs_cons (aS_set (i := 4) (aE_callB (id := "sorted") (aA_cons (aE_lc (c := false) (own := [("_law_folk", 5)]) (lcm (L := kl) (enc := fun k => encI (natI k)) (g := fun k => encI (natI (uni (k.map (nm ns))))) (env := fun k => [some (.lst T), some (.lst (ns.map nD)), some di, some (manyD c), none, some (encI (natI k)), none]) ?_ ?_ ?_ ?_ (aA_nil (acall_sortedI (ks := kl.map fun k => natI (uni (k.map (nm ns)))) ?_ ?_ ?_ fun crowds c1 c2 => ?_))) (blkOk_by (by kernel_rfl)) nd)) G.n_sorted rfl) nd)
    · exact vi_list (ev_cast (ev_ix (ev_v 0) (ev_neg ev_int) isl t2) (by rw [List.map_map]; rfl))
    · rw [sizeLine_eq]; omega
    · intro o _ s H C cl fp
      exact aGc_name (i := 5) ⟨rfl, rfl⟩ nd
    · intro k hkm s H C cl fp
      obtain ⟨k1, k2, k3, k4⟩ := hk k hkm
      refine ev_cast (x := .tup ((uni (k.map (nm ns))).map nD)) (ev_tuple G.n_tuple (ev_sortN (l := k.map (nm ns)) G.n_sorted (aE_lc (c := false) (own := [("_law_p", 6)]) (lcm (L := k) (enc := nD) (g := fun x => nD (nm ns x)) (env := fun x => [some (.lst T), some (.lst (ns.map nD)), some di, some (manyD c), none, some (encI (natI k)), some (nD x)]) ?_ ?_ ?_ ?_ ⟨rfl, rfl⟩) (blkOk_by (by kernel_rfl)) nd) (by rw [List.map_map]; exact .l) k3 (fun x hx => ?_) (by rw [List.length_map]; omega)) .l) (encI_nat _).symm
      · exact vi_tup (ev_cast (ev_v 5) (encI_nat k))
      · rw [sizeLine_eq]; omega
      · intro o _ s H C cl fp
        exact aGc_name (i := 6) ⟨rfl, rfl⟩ nd
      · intro x hx s H C cl fp
        exact ev_ixN (i := x) (ev_v 1) (ev_v 6) isl (by rw [List.getElem?_map, nm_get (k2 x hx)]; rfl)
      · obtain ⟨y, hy, rfl⟩ := List.mem_map.mp hx
        have := nmb y (k2 y hy)
        omega
    · rw [List.map_map]; exact .l
    · rw [List.length_map]; exact hkn
    · intro k hkm z
      obtain ⟨k0, hk0, rfl⟩ := List.mem_map.mp hkm
      obtain ⟨k1, k2, k3, k4⟩ := hk k0 hk0
      obtain ⟨x, hx⟩ := List.exists_mem_of_ne_nil _ k1
      have : nm ns x ∈ uni (k0.map (nm ns)) := uni_mem.mpr ⟨by have := nmb x (k2 x hx); omega, List.mem_map_of_mem hx⟩
      unfold natI at z
      rw [List.map_eq_nil_iff] at z
      rw [z] at this
      cases this
    refine aSs_one (aS_ret (aE_ev (d := .lst (renD ns idle kp mid crowds c)) (ev_cast (ev_cat (xs := .lst ((uni (kp.map (nm ns) ++ idle)).map nD) :: mid) (ys := [.lst (crowds.map encI), manyD c]) (ev_cast (ev_cat (xs := [.lst ((uni (kp.map (nm ns) ++ idle)).map nD)]) (ys := mid) (ev_lst (va_cons (ev_sortN (l := kp.map (nm ns) ++ idle) (d := .lst ((kp.map (nm ns) ++ idle).map nD)) G.n_sorted (ev_cast (ev_cat (xs := (kp.map (nm ns)).map nD) (ys := idle.map nD) (aE_lc (c := false) (own := [("_law_p", 6)]) (lcm (L := kp) (enc := nD) (g := fun x => nD (nm ns x)) (env := fun x => [some (.lst T), some (.lst (ns.map nD)), some di, some (manyD c), some (.lst (crowds.map encI)), none, some (nD x)]) ?_ ?_ ?_ ?_ ⟨by rw [List.map_map]; rfl, rfl⟩) (blkOk_by (by kernel_rfl)) nd) (ev_v 2) .l hdi ?_) (by rw [List.map_append])) .l hnd ?_ ?_) va_nil)) (ev_slN (lo := some 1) (hi := some (-2)) (ev_v 0) .l ev_int (ev_neg ev_int)) .l (by rw [tc]; exact .l) ?_) rfl) (ev_lst (va_cons (ev_v 4) (va_cons (ev_v 3) va_nil))) .l .l ?_) rfl) (endR (q crowds c1 c2))))
    · exact vi_list (ev_ixN (i := 0) (ev_v 0) ev_0 isl t0)
    · rw [sizeLine_eq]; omega
    · intro o _ s H C cl fp
      exact aGc_name (i := 6) ⟨rfl, rfl⟩ nd
    · intro x hx s H C cl fp
      exact ev_ixN (i := x) (ev_v 1) (ev_v 6) isl (by rw [List.getElem?_map, nm_get (hkp x hx)]; rfl)
    · rw [List.length_map, List.length_map, List.length_map, sizeLine_eq]; omega
    · intro x hx
      rcases List.mem_append.mp hx with z | z
      · obtain ⟨y, hy, rfl⟩ := List.mem_map.mp z
        have := nmb y (hkp y hy)
        omega
      · have := hid x z
        omega
    · rw [List.length_append, List.length_map]; omega
    · rw [List.length_singleton, sizeLine_eq]; omega
    · rw [List.length_cons, sizeLine_eq]; show mid.length + 1 + 2 ≤ _; omega
end HF

/-! ## Q15 -/
namespace HF
open PySem PySem.Spec PyProof.Rows L2 NdefX
/-! ### a list of events against [] -/
def Ev.py (e : Ev) : PyData := .tuple (.str e.word :: e.args.map fun p : Nat => .int (p : Int))
theorem Reps.pyN {K : PySem.W.Frag} {α : List Addr} {G H : Hp} : ∀ {l : List Nat} {vs : List V}, Reps K α G vs (l.map nD) → DpAll K H vs (l.map fun p : Nat => .int (p : Int))
  | [], _, .nil => .nil
  | p :: l, _, .cons r t => by rw [r.intV]; exact .cons (.int _) (Reps.pyN t)
theorem Rep.py {K : PySem.W.Frag} {α η : List Addr} {H : Hp} {v : V} {e : Ev} (r : Rep K α (msk α η H) v e.enc) : Dp K H v e.py := by
  rw [enc_args] at r
  cases r with
  | tup q r =>
    refine .tup (SqT.unmsk q) ?_
    cases r with
    | cons r1 r2 => rw [r1.strV]; exact .cons (.str _) (Reps.pyN r2)
theorem Reps.pyE {K : PySem.W.Frag} {α η : List Addr} {H : Hp} : ∀ {es : List Ev} {vs : List V}, Reps K α (msk α η H) vs (es.map Ev.enc) → DpAll K H vs (es.map Ev.py)
  | [], _, .nil => .nil
  | _ :: _, _, .cons r t => .cons (Rep.py r) (Reps.pyE t)
theorem py_shaped (es : List Ev) : SeqAt.shaped (.list (es.map Ev.py)) = true := by
  have n1 : ∀ l : List Nat, PyData.canLayAll0 (l.map fun p : Nat => PyData.int (p : Int)) = true ∧ PyData.depthAll (l.map fun p : Nat => PyData.int (p : Int)) ≤ 0 := fun l => by
    induction l with
    | nil => exact ⟨by simp [PyData.canLayAll0], by simp [PyData.depthAll]⟩
    | cons p l ih => exact ⟨by simp [PyData.canLayAll0, PyData.canLay0, ih.1], by have := ih.2; simp [PyData.depthAll, PyData.depth] at this ⊢; omega⟩
  have n2 : ∀ es : List Ev, PyData.canLayAll0 (es.map Ev.py) = true ∧ PyData.depthAll (es.map Ev.py) ≤ 1 := fun es => by
    induction es with
    | nil => exact ⟨by simp [PyData.canLayAll0], by simp [PyData.depthAll]⟩
    | cons e es ih =>
      have := n1 e.args
      refine ⟨?_, ?_⟩
      · have hw : PyData.strOk e.word = true := by cases e <;> kernel_rfl
        simp [PyData.canLayAll0, PyData.canLay0, Ev.py, ih.1, this.1, hw]
      · have h2 := this.2
        have h3 := ih.2
        simp only [List.map_cons, PyData.depthAll, PyData.depth, Ev.py] at h2 h3 ⊢
        omega
  unfold SeqAt.shaped
  rw [Bool.and_eq_true]
  refine ⟨?_, decide_eq_true ?_⟩
  · simp [PyData.canLay0, (n2 es).1]
  · have := (n2 es).2
    simp only [PyData.depth]
    omega
theorem py_nil (es : List Ev) : PyData.eqv (.list (es.map Ev.py)) (.list []) = es.isEmpty := by
  cases es with
  | nil => simp [PyData.eqv, PyData.eqvAll]
  | cons e es => simp [PyData.eqv, PyData.eqvAll]
section
variable {X : Cx} {μ : Sto} {Q : DK} {x : D} {es : List Ev}
theorem aop_eqNil (hu : X.A.units + 64 < cLine) (hx : IsL μ x (es.map Ev.enc)) (q : Q (.bl es.isEmpty) μ) : AOp X (compareOp .Eq) x (.lst []) μ Q := fun η α H v u W rv ru => by
  obtain ⟨a, vs, rfl, hq, rr⟩ := hx.at W rv
  cases ru with
  | lst hl r =>
    cases r
    refine xOp_of (op_eqD hu) ⟨.list (es.map Ev.py), .list [], .lst (SqL.of hq) rr.pyE, .lst (SqL.of (msk_some.mp hl).2.2) .nil, py_shaped es, py_shaped [], ?_⟩
    rw [py_nil]
    exact fin0 W .bl q
theorem aop_neNil (hu : X.A.units + 64 < cLine) (hx : IsL μ x (es.map Ev.enc)) (q : Q (.bl (!es.isEmpty)) μ) : AOp X (compareOp .NotEq) x (.lst []) μ Q := fun η α H v u W rv ru => by
  obtain ⟨a, vs, rfl, hq, rr⟩ := hx.at W rv
  cases ru with
  | lst hl r =>
    cases r
    refine xOp_of (op_neD hu) ⟨.list (es.map Ev.py), .list [], .lst (SqL.of hq) rr.pyE, .lst (SqL.of (msk_some.mp hl).2.2) .nil, py_shaped es, py_shaped [], ?_⟩
    rw [py_nil]
    exact fin0 W .bl q
end
/-! ### mixing -/
abbrev Tag := Bool × Ev
def shiftE (f : Nat) : Ev → Ev
  | .look p => .look (f + p)
  | .add p => .add (f + p)
  | .meet p q => .meet (f + p) (f + q)
  | .tell p q => .tell (f + p) (f + q)
theorem nm_shift {f n p : Nat} (h : p < n) : nm ((List.range n).map (f + ·)) p = f + p := by
  unfold nm
  rw [List.getD_eq_getElem?_getD, List.getElem?_map, List.getElem?_range h]
  rfl
theorem move_shift {f n : Nat} {e : Ev} (h : e.Ok n) : moveE ((List.range n).map (f + ·)) e = shiftE f e := by
  cases e with
  | look p => exact congrArg Ev.look (nm_shift h)
  | add p => exact congrArg Ev.add (nm_shift h)
  | meet p q => show Ev.meet (nm _ p) (nm _ q) = Ev.meet (f + p) (f + q); rw [nm_shift h.1, nm_shift h.2]
  | tell p q => show Ev.tell (nm _ p) (nm _ q) = Ev.tell (f + p) (f + q); rw [nm_shift h.1, nm_shift h.2]
def tagE (f : Nat) (x : Tag) : Ev := if x.1 = true then x.2 else shiftE f x.2
theorem tag_word (f : Nat) (x : Tag) : (tagE f x).word = x.2.word := by
  unfold tagE
  split
  · rfl
  · cases x.2 <;> rfl
def mixT (f g : Nat) (tags : List Tag) : Tab := ⟨f + g, tags.map (tagE f)⟩
def turnsOf (tags : List Tag) : List Bool := (tags.filter fun x => x.2.isLook).map (·.1)
def placesOf (tags : List Tag) : List Nat := ((turnsOf tags).zipIdx.filter fun x => x.1).map (·.2)
def firsts (tags : List Tag) : List Ev := (tags.filter fun x => x.1).map (·.2)
def seconds (tags : List Tag) : List Ev := (tags.filter fun x => !x.1).map (·.2)
theorem firsts_snoc (tags : List Tag) (f : Bool) (e : Ev) : firsts (tags ++ [(f, e)]) = firsts tags ++ (if f = true then [e] else []) := by
  unfold firsts
  rw [List.filter_append, List.map_append]
  cases f <;> rfl
theorem seconds_snoc (tags : List Tag) (f : Bool) (e : Ev) : seconds (tags ++ [(f, e)]) = seconds tags ++ (if f = true then [] else [e]) := by
  unfold seconds
  rw [List.filter_append, List.map_append]
  cases f <;> rfl
theorem turns_snoc (tags : List Tag) (f : Bool) (e : Ev) : turnsOf (tags ++ [(f, e)]) = turnsOf tags ++ (if e.isLook = true then [f] else []) := by
  unfold turnsOf
  rw [List.filter_append, List.map_append, List.filter_cons]
  split <;> rfl
variable {P : Program} {w : World} {K : PySem.W.Frag} {mg : Str → Option Value} {base : Heap}
def mixC (f : Nat) (left more : List Ev) (tags : List Tag) : Sto := [.lst (left.map Ev.enc), .lst (more.map Ev.enc), .lst ((tags.map (tagE f)).map Ev.enc), .lst ((turnsOf tags).map D.bl)]
def spMixed : ASp := fun ds μ R => ∃ (pre post : Sto) (k : Nat) (b : Int × Int × Int) (c : Nat) (one two : Tab), ds = [.pr k, one.enc, two.enc] ∧ pre.length = k ∧ μ = pre ++ bx b :: post ∧ BOk c b ∧ c < 80000 ∧ one.evs.length ≤ 50 ∧ two.evs.length ≤ 50 ∧ two.folk ≤ 50 ∧ one.folk ≤ 50 ∧ (∀ e ∈ two.evs, e.Ok two.folk) ∧
  ∀ tags b', firsts tags = one.evs → seconds tags = two.evs → BOk (c + tags.length) b' → R (.tup [(mixT one.folk two.folk tags).enc, .lst ((placesOf tags).map nD)]) (pre ++ bx b' :: post)
theorem ok_mixed (G : Facts K mg) : AOk P w K mg base 2 G.lawMixed.f G.lawMixed.fd ["_law_box_here", "_law_one", "_law_two"] spMixed := by
  refine fnA G.lawMixed.F sc_lawMixed (fun ds μ R h => ?_) fun cdv Ar outer s H E ds μ R hr h => ?_
  · obtain ⟨pre, post, k, b, c, one, two, rfl, _⟩ := h
    rfl
  · obtain ⟨pre, post, k, b, c, one, two, rfl, hk, rfl, ok, hc, h1, h2, hf2, hf1, he, q⟩ := h
    have nd := sc_lawMixed.nd
    have hu64 : (Ar.deeper (envOfC "_law_mixed" (defScope s_lawMixed) s.heap.objs.size G.lawMixed.f cdv)).units + 64 < cLine := by have := hr.un; omega
    have hlen : ∀ b' : Int × Int × Int, (pre ++ bx b' :: post).length = (pre ++ bx b :: post).length := fun b' => by rw [List.length_append, List.length_append]; rfl
    have gbox : ∀ b' : Int × Int × Int, ∀ ext : Sto, pre ++ bx b' :: (post ++ ext) = (pre ++ bx b' :: post) ++ ext := fun b' ext => by rw [List.append_assoc, List.cons_append]
    generalize hM : (pre ++ bx b :: post).length = m at hlen
    have gg : ∀ (b' : Int × Int × Int) (ext : Sto) (i : Nat) (x : Cell), ext[i]? = some x → (pre ++ bx b' :: (post ++ ext))[m + i]? = some x := fun b' ext i x h => by
      rw [gbox, ← hlen b', get_at rfl]; exact h
    have gs : ∀ (b' : Int × Int × Int) (ext : Sto) (i : Nat) (x : Cell), (pre ++ bx b' :: (post ++ ext)).set (m + i) x = pre ++ bx b' :: (post ++ ext.set i x) := fun b' ext i x => by
      rw [gbox, ← hlen b', set_at rfl, gbox]
    refine aSs_cons ?_
    refine aS_asg (aE_tup (aA_cons ?_)) ?_ ?_ ?_
    rotate_left
    · rfl
    · rfl
    · rfl
    refine aE_callTy (T := "list") (aA_ev (va_cons (ev_t (i := 1) (ev_v 1)) va_nil) (acall_listC .t ?_)) G.n_list rfl
    refine aA_cons (aE_callTy (T := "list") (aA_ev (va_cons (ev_t (i := 1) (ev_v 2)) va_nil) (acall_listC .t ?_)) G.n_list rfl)
    refine aA_cons (aE_lstC (aA_nil ⟨Nat.zero_le _, ?_⟩))
    refine aA_cons (aE_lstC (aA_nil ⟨Nat.zero_le _, aA_nil ⟨by show 4 ≤ sizeLine; decide, ?_⟩⟩))
    refine aG_tup (aGs_cons (aG_name (i := 3) (aGs_cons (aG_name (i := 4) (aGs_cons (aG_name (i := 5) (aGs_cons (aG_name (i := 6) (aGs_nil ?_) nd)) nd)) nd)) nd))
    refine aSs_cast (μ' := pre ++ bx b :: (post ++ [.lst (one.evs.map Ev.enc), .lst (two.evs.map Ev.enc), .lst [], .lst []])) (by simp) ?_
    have hd : ∀ d b' ext, IsL (pre ++ bx b' :: (post ++ ext)) d [] → True := fun _ _ _ _ => trivial
    refine aSs_cons (aS_setLc (c := false) (own := [("_law_p", 11)]) (i := 7) (lcm (L := List.range two.folk) (enc := nD) (g := fun p => nD (one.folk + p)) (env := fun p => [some (.pr k), some one.enc, some two.enc, some (.pr (pre ++ bx b :: post).length), some (.pr ((pre ++ bx b :: post) ++ [Cell.lst (one.evs.map Ev.enc)]).length), some (.pr ((pre ++ bx b :: post) ++ [Cell.lst (one.evs.map Ev.enc)] ++ [Cell.lst (two.evs.map Ev.enc)]).length), some (.pr ((pre ++ bx b :: post) ++ [Cell.lst (one.evs.map Ev.enc)] ++ [Cell.lst (two.evs.map Ev.enc)] ++ [Cell.lst []]).length), none, none, none, none, some (nD p), none]) ?_ ?_ ?_ ?_ (LcOut_f ?_)) (blkOk_by (by kernel_rfl)) nd (sw_true rfl rfl rfl (by kernel_rfl)))
    · exact vi_range G.n_range (ev_t (i := 0) (ev_v 2)) (by omega)
    · rw [List.length_range, sizeLine_eq]; omega
    · intro o _ s H C cl fp
      exact aGc_name (i := 11) ⟨rfl, rfl⟩ nd
    · intro p _ s H C cl fp
      exact ev_addN (i := one.folk) (j := p) (ev_t (i := 0) (ev_v 1)) (ev_v 11)
    have e1 : (pre ++ bx b :: post).length = m := hM
    have e2 : ((pre ++ bx b :: post) ++ [Cell.lst (one.evs.map Ev.enc)]).length = m + 1 := by rw [List.length_append, hM]; rfl
    have e3 : ((pre ++ bx b :: post) ++ [Cell.lst (one.evs.map Ev.enc)] ++ [Cell.lst (two.evs.map Ev.enc)]).length = m + 2 := by rw [List.length_append, e2]; rfl
    have e4 : ((pre ++ bx b :: post) ++ [Cell.lst (one.evs.map Ev.enc)] ++ [Cell.lst (two.evs.map Ev.enc)] ++ [Cell.lst []]).length = m + 3 := by rw [List.length_append, e3]; rfl
    rw [e1, e2, e3, e4]
    have hnm : ((List.range two.folk).map fun p => nD (one.folk + p)) = ((List.range two.folk).map (one.folk + ·)).map nD := by rw [List.map_map]; rfl
    rw [hnm]
    refine aSs_cast (μ' := pre ++ bx b :: (post ++ mixC one.folk one.evs two.evs [])) rfl ?_
    generalize hNM : (D.lst (((List.range two.folk).map (one.folk + ·)).map nD)) = nmD
    refine aSs_cons (aS_while (fun meas ρ μ' => ∃ (b1 : Int × Int × Int) (left more : List Ev) (tags : List Tag) (o8 o9 : Option D), ρ = [some (.pr k), some one.enc, some two.enc, some (.pr m), some (.pr (m + 1)), some (.pr (m + 2)), some (.pr (m + 3)), some nmD, o8, o9, none, none, none] ∧ firsts tags ++ left = one.evs ∧ seconds tags ++ more = two.evs ∧ BOk (c + tags.length) b1 ∧
      μ' = pre ++ bx b1 :: (post ++ mixC one.folk left more tags) ∧ tags.length + left.length + more.length = one.evs.length + two.evs.length ∧ meas = left.length + more.length) (m0 := one.evs.length + two.evs.length) ⟨b, one.evs, two.evs, [], none, none, rfl, rfl, rfl, ok, rfl, by simp, rfl⟩ ?_)
    rintro meas ρ' μ' ⟨b1, left, more, tags, o8, o9, rfl, hl, hm, ok1, rfl, hsum, rfl⟩
    have ll : left.length ≤ 50 := Nat.le_trans (by rw [← hl, List.length_append]; omega) h1
    have lm : more.length ≤ 50 := Nat.le_trans (by rw [← hm, List.length_append]; omega) h2
    have g0 : ∀ b' l mo tg, (pre ++ bx b' :: (post ++ mixC one.folk l mo tg))[m]? = some (.lst (l.map Ev.enc)) := fun b' l mo tg => gg b' _ 0 _ rfl
    have g1 : ∀ b' l mo tg, (pre ++ bx b' :: (post ++ mixC one.folk l mo tg))[m + 1]? = some (.lst (mo.map Ev.enc)) := fun b' l mo tg => gg b' _ 1 _ rfl
    have g2 : ∀ b' l mo tg, (pre ++ bx b' :: (post ++ mixC one.folk l mo tg))[m + 2]? = some (.lst ((tg.map (tagE one.folk)).map Ev.enc)) := fun b' l mo tg => gg b' _ 2 _ rfl
    have g3 : ∀ b' l mo tg, (pre ++ bx b' :: (post ++ mixC one.folk l mo tg))[m + 3]? = some (.lst ((turnsOf tg).map D.bl)) := fun b' l mo tg => gg b' _ 3 _ rfl
    refine aT_ev (tv_cmp (ev_cast (y := .lst ((left ++ more).map Ev.enc)) (ev_cat (ev_v 3) (ev_v 4) (.p (g0 _ _ _ _)) (.p (g1 _ _ _ _)) (by rw [List.length_map, List.length_map, sizeLine_eq]; omega)) (by rw [List.map_append])) (ev_lst va_nil) (aop_neNil (es := left ++ more) hu64 .l ⟨rfl, rfl⟩)) ?_
    by_cases hemp : (left ++ more) = []
    · rw [hemp, show (!([] : List Ev).isEmpty) = false from rfl, if_neg Bool.false_ne_true]
      have hl0 : left = [] := (List.append_eq_nil_iff.mp hemp).1
      have hm0 : more = [] := (List.append_eq_nil_iff.mp hemp).2
      subst hl0 hm0
      rw [List.append_nil] at hl hm
      refine aSs_cons (aS_setLc (c := false) (own := [("_law_k", 12), ("_law_is_first", 8)]) (i := 10) (lcp (L := (turnsOf tags).zipIdx) (enc := fun x => .tup [nD x.2, .bl x.1]) (pr := fun x => x.1) (g := fun x => nD x.2) (env := fun x => [some (.pr k), some one.enc, some two.enc, some (.pr m), some (.pr (m + 1)), some (.pr (m + 2)), some (.pr (m + 3)), some nmD, some (.bl x.1), o9, none, none, some (nD x.2)]) ?_ ?_ ?_ ?_ ?_ (LcOut_f ?_)) (blkOk_by (by kernel_rfl)) nd (sw_true rfl rfl rfl (by kernel_rfl)))
      · rw [← enumD_map]
        exact vi_enumC G.n_enumerate (ev_v 6) (g3 _ _ _ _)
      · rw [List.length_zipIdx, sizeLine_eq]
        have : (turnsOf tags).length ≤ tags.length := by unfold turnsOf; rw [List.length_map]; exact List.length_filter_le _ _
        simp only [List.length_nil] at hsum
        omega
      · intro x _ s H C cl fp
        exact aGc_pair 12 8 nd ⟨rfl, rfl⟩
      · intro x _ s H C cl fp
        exact tvs_one (tv_val (ev_v 8))
      · intro x _ _ s H C cl fp
        exact ev_v 12
      · have ep : ((turnsOf tags).zipIdx.filter fun x => x.1).map (fun x => nD x.2) = (placesOf tags).map nD := by unfold placesOf; rw [List.map_map]; rfl
        rw [ep]
        have hclo : (D.tup [(mixT one.folk two.folk tags).enc, .lst ((placesOf tags).map nD)]).clo 0 = true := by
          show cloL 0 [_, _] = true
          unfold cloL
          rw [clo_enc, Bool.true_and]
          unfold cloL
          rw [show (D.lst ((placesOf tags).map nD)).clo 0 = true from cloL_map fun _ _ => rfl]
          rfl
        refine aSs_one (aS_ret (aE_ev (d := .tup [(mixT one.folk two.folk tags).enc, .lst ((placesOf tags).map nD)]) (ev_tup (va_cons (ev_cast (ev_tup (va_cons (ev_addN (i := one.folk) (j := two.folk) (ev_t (i := 0) (ev_v 1)) (ev_t (i := 0) (ev_v 2))) (va_cons (ev_tuple (xs := (tags.map (tagE one.folk)).map Ev.enc) G.n_tuple (ev_v 5) (.p (g2 _ _ _ _))) va_nil))) rfl) (va_cons (ev_v 10) va_nil))) ⟨_, _, Exit.box hclo, q tags b1 hl hm ok1⟩))
    · have hkk : (!(left ++ more).isEmpty) = true := by
        cases he : left ++ more with
        | nil => exact absurd he hemp
        | cons _ _ => rfl
      rw [hkk, if_pos rfl]
      refine aSs_cons (aS_mid (fun ρ μ' => ∃ (f : Bool) (b2 : Int × Int × Int), ρ = [some (.pr k), some one.enc, some two.enc, some (.pr m), some (.pr (m + 1)), some (.pr (m + 2)), some (.pr (m + 3)), some nmD, some (.bl f), o9, none, none, none] ∧ μ' = pre ++ bx b2 :: (post ++ mixC one.folk left more tags) ∧ BOk (c + tags.length + 1) b2 ∧ (f = true → left ≠ []) ∧ (f = false → more ≠ [])) (aS_set (i := 8) (aE_or (aE_cmp (aE_ev (ev_v 4) (aE_ev (ev_lst va_nil) (aop_eqNil (es := more) hu64 (.p (g1 _ _ _ _)) ⟨more.isEmpty, rfl, ?_⟩))))) nd) (fun ρ' μ' z => ?_))
      · cases more with
        | nil =>
          rw [show (([] : List Ev).isEmpty) = true from rfl, if_pos rfl]
          exact ⟨true, b1, rfl, rfl, ok1.mono (by omega), fun _ z => hemp (by rw [z]; rfl), fun z => by cases z⟩
        | cons e0 mo =>
          rw [show ((e0 :: mo).isEmpty) = false from rfl, if_neg Bool.false_ne_true]
          refine aE_one (aE_and (aE_cmp (aE_ev (ev_v 3) (aE_ev (ev_lst va_nil) (aop_neNil (es := left) hu64 (.p (g0 _ _ _ _)) ⟨!left.isEmpty, rfl, ?_⟩)))))
          cases left with
          | nil =>
            rw [show (!([] : List Ev).isEmpty) = false from rfl, if_neg Bool.false_ne_true]
            exact ⟨false, b1, rfl, rfl, ok1.mono (by omega), (fun z => by cases z), (fun _ z => by cases z)⟩
          | cons e1 le =>
            rw [show (!(e1 :: le).isEmpty) = true from rfl, if_pos rfl]
            refine aE_one (aE_cmp (aE_take G (hr.mono (by decide)) (ev_v 0) (n := 2) ev_int hk ok1 (by simp only [List.length_cons] at hsum; omega) (by decide) (by decide) fun r b2 hr2 ok2 => aE_ev ev_0 (aop_eqI ⟨_, b2, rfl, rfl, ok2, (fun _ z => by cases z), (fun _ z => by cases z)⟩)))
      · obtain ⟨f, b2, rfl, rfl, ok2, hf1, hf0⟩ := z
        refine aSs_cons (aS_mid (fun ρ μ' => ∃ (e : Ev) (left' more' : List Ev), ρ = [some (.pr k), some one.enc, some two.enc, some (.pr m), some (.pr (m + 1)), some (.pr (m + 2)), some (.pr (m + 3)), some nmD, some (.bl f), some e.enc, none, none, none] ∧ μ' = pre ++ bx b2 :: (post ++ mixC one.folk left' more' tags) ∧ firsts (tags ++ [(f, e)]) ++ left' = one.evs ∧ seconds (tags ++ [(f, e)]) ++ more' = two.evs ∧ left'.length + more'.length + 1 = left.length + more.length) (aS_set (i := 9) (aE_if (aT_ev (tv_val (ev_v 8)) ?_)) nd) (fun ρ' μ' z => ?_))
        · cases f with
          | true =>
            rw [if_pos rfl]
            cases left with
            | nil => exact absurd rfl (hf1 rfl)
            | cons e le =>
              refine aE_lm PySem.F.plainAttrs_list PySem.F.slot_list_pop PySem.F.type_list_pop (aE_ev (ev_v 3) ⟨⟨_, .p (g0 _ _ _ _)⟩, aA_cons (aE_ev ev_0 (aA_nil (amt_popAt (j := 0) (d := e.enc) (g0 _ _ _ _) rfl rfl (by rw [List.length_map]; omega) ?_)))⟩)
              refine ⟨e, le, more, rfl, gs b2 _ 0 _, by rw [firsts_snoc, if_pos rfl, List.append_assoc]; exact hl, by rw [seconds_snoc, if_pos rfl, List.append_nil]; exact hm, by rw [List.length_cons]; omega⟩
          | false =>
            rw [if_neg Bool.false_ne_true]
            cases more with
            | nil => exact absurd rfl (hf0 rfl)
            | cons e mo =>
              refine aE_lm PySem.F.plainAttrs_list PySem.F.slot_list_pop PySem.F.type_list_pop (aE_ev (ev_v 4) ⟨⟨_, .p (g1 _ _ _ _)⟩, aA_cons (aE_ev ev_0 (aA_nil (amt_popAt (j := 0) (d := e.enc) (g1 _ _ _ _) rfl rfl (by rw [List.length_map]; omega) ?_)))⟩)
              refine ⟨e, left, mo, rfl, gs b2 _ 1 _, by rw [firsts_snoc, if_neg Bool.false_ne_true, List.append_nil]; exact hl, by rw [seconds_snoc, if_neg Bool.false_ne_true, List.append_assoc]; exact hm, by rw [List.length_cons]; omega⟩
        · obtain ⟨e, left', more', rfl, rfl, hl', hm', hcnt⟩ := z
          refine aSs_cons (aS_set (i := 9) (aE_ev (d := (tagE one.folk (f, e)).enc) (ev_cast (ev_ite (k := f) (x := e.enc) (y := (shiftE one.folk e).enc) (tv_val (ev_v 8)) (fun _ => ev_v 9) (fun hf => ?_)) ?_) ?_) nd)
          · subst hf
            have he2 : e.Ok two.folk := he e (by rw [← hm', seconds_snoc, if_neg Bool.false_ne_true]; simp)
            rw [← move_shift he2]
            exact aE_def G.lawMoved (ok_moved G) (hr.mono (by decide)) (aA_ev (va_cons (ev_v 9) (va_cons (ev_v 7) va_nil)) ⟨e, (List.range two.folk).map (one.folk + ·), by rw [hNM], by rw [List.length_map, List.length_range]; exact he2, rfl, rfl⟩)
          · unfold tagE
            cases f <;> rfl
          · obtain ⟨xs, ee, _, e0⟩ := enc_len (tagE one.folk (f, e))
            rw [tag_word] at e0
            refine aSs_cons (aS_mid (fun ρ μ' => ρ = [some (.pr k), some one.enc, some two.enc, some (.pr m), some (.pr (m + 1)), some (.pr (m + 2)), some (.pr (m + 3)), some nmD, some (.bl f), some (tagE one.folk (f, e)).enc, none, none, none] ∧ μ' = pre ++ bx b2 :: (post ++ [.lst (left'.map Ev.enc), .lst (more'.map Ev.enc), .lst ((tags.map (tagE one.folk)).map Ev.enc), .lst ((turnsOf (tags ++ [(f, e)])).map D.bl)])) (aS_if (aT_ev (tv_eqS (ev_t (i := 0) (ev_cast (ev_v 9) ee) e0) ev_str) ?_)) (fun ρ' μ' z => ?_))
            · rw [turns_snoc]
              have hil : e.isLook = decide (e.word = ("look" : Str)) := isLook_eq e
              by_cases hw : e.word = ("look" : Str)
              · rw [hil, decide_eq_true hw, if_pos rfl, if_pos rfl]
                refine aSs_one (aS_expr (aE_append (ev_v 6) (g3 _ _ _ _) (aE_ev (ev_v 8) ⟨_, g3 _ _ _ _, ?_, rfl, ?_⟩)))
                · rw [List.length_map, sizeLine_eq]
                  have : (turnsOf tags).length ≤ tags.length := by unfold turnsOf; rw [List.length_map]; exact List.length_filter_le _ _
                  omega
                · refine (gs b2 _ 3 _).trans ?_
                  rw [List.map_append]
                  rfl
              · rw [hil, decide_eq_false hw, if_neg Bool.false_ne_true, if_neg Bool.false_ne_true]
                exact aSs_nil ⟨rfl, by rw [List.append_nil]; rfl⟩
            · obtain ⟨rfl, rfl⟩ := z
              have g2' : ∀ A B C D : Cell, (pre ++ bx b2 :: (post ++ [A, B, C, D]))[m + 2]? = some C := fun A B C D => gg b2 _ 2 _ rfl
              refine aSs_one (aS_expr (aE_append (ev_v 5) (g2' _ _ _ _) (aE_ev (ev_v 9) ⟨_, g2' _ _ _ _, ?_, ?_⟩)))
              · rw [List.length_map, List.length_map, sizeLine_eq]; omega
              · refine ⟨_, by omega, b2, left', more', tags ++ [(f, e)], some (.bl f), some (tagE one.folk (f, e)).enc, rfl, hl', hm', by rw [List.length_append, List.length_singleton]; exact ok2, ?_, by rw [List.length_append, List.length_singleton]; omega, rfl⟩
                refine (gs b2 _ 2 _).trans ?_
                unfold mixC
                rw [List.map_append, List.map_append]
                rfl
end HF

/-! ## N2 -/
namespace HF
open PySem PySem.Spec PyProof.Rows L2
theorem filter_range_eq {n m : Nat} {p q : Nat → Bool} (h : ∀ x, (x < n ∧ p x = true) ↔ (x < m ∧ q x = true)) : (List.range n).filter p = (List.range m).filter q := by
  have gen : ∀ (a b : Nat) (p q : Nat → Bool), a ≤ b → (∀ x, (x < a ∧ p x = true) ↔ (x < b ∧ q x = true)) → (List.range a).filter p = (List.range b).filter q := by
    intro a b p q hab h
    obtain ⟨d, rfl⟩ := Nat.exists_eq_add_of_le hab
    rw [List.range_add, List.filter_append]
    have e1 : (List.range a).filter p = (List.range a).filter q := List.filter_congr fun x hx => by
      have hx := List.mem_range.mp hx
      have := h x
      rw [Bool.eq_iff_iff]
      constructor
      · intro z; exact (this.mp ⟨hx, z⟩).2
      · intro z; exact (this.mpr ⟨by omega, z⟩).2
    have e2 : ((List.range d).map (a + ·)).filter q = [] := List.filter_eq_nil_iff.mpr fun x hx z => by
      obtain ⟨y, hy, rfl⟩ := List.mem_map.mp hx
      have hy := List.mem_range.mp hy
      have := (h (a + y)).mpr ⟨by omega, z⟩
      omega
    rw [e1, e2, List.append_nil]
  rcases Nat.le_total n m with z | z
  · exact gen n m p q z h
  · exact (gen m n q p z fun x => (h x).symm).symm
section
variable {t : Tab} {ns : List Nat} {F : Nat}
theorem mem_names (N : Nam t ns F) {q : Nat} : q ∈ ns ↔ ∃ p, p < t.folk ∧ nm ns p = q := by
  constructor
  · intro h
    obtain ⟨p, hp, e⟩ := List.getElem_of_mem h
    refine ⟨p, by rw [← N.len]; exact hp, ?_⟩
    have := nm_get hp
    rw [List.getElem?_eq_getElem hp, e] at this
    exact (Option.some.inj this).symm
  · rintro ⟨p, hp, rfl⟩
    exact nm_mem (by rw [N.len]; exact hp)
theorem names_map (N : Nam t ns F) : ns = (List.range t.folk).map (nm ns) := by
  refine List.ext_getElem? fun i => ?_
  rw [List.getElem?_map]
  by_cases h : i < ns.length
  · rw [nm_get h, List.getElem?_range (by rw [← N.len]; exact h)]; rfl
  · rw [List.getElem?_eq_none (by omega), List.getElem?_eq_none (by rw [List.length_range, ← N.len]; omega)]; rfl
/-- kept from -/
theorem Nam.kept (N : Nam t ns F) (hF : F ≤ 60) {il : List Nat} (hil : ∀ q, q ∈ il ↔ q < F ∧ q ∉ ns) (long : Bool) (i : Nat) : (t.ren ns F).kept long i = uni ((t.kept long i).map (nm ns) ++ il) := by
  unfold Tab.kept uni
  rw [N.branch]
  refine filter_range_eq fun q => ?_
  rw [decide_eq_true_iff, List.mem_append, List.mem_map]
  by_cases hq : q ∈ ns
  · obtain ⟨p, hp, rfl⟩ := (mem_names N).mp hq
    rw [N.has long hp]
    constructor
    · rintro ⟨h1, h2⟩
      exact ⟨by have : nm ns p < F := h1; omega, .inl ⟨p, List.mem_filter.mpr ⟨List.mem_range.mpr hp, h2⟩, rfl⟩⟩
    · rintro ⟨h1, h2 | h2⟩
      · obtain ⟨p', hp', e⟩ := h2
        obtain ⟨a1, a2⟩ := List.mem_filter.mp hp'
        rw [N.inj (List.mem_range.mp a1) hp e] at a2
        exact ⟨N.lt hp, a2⟩
      · exact absurd hq ((hil _).mp h2).2
  · rw [N.out long hq]
    constructor
    · rintro ⟨h1, _⟩
      have h1 : q < F := h1
      exact ⟨by omega, .inr ((hil q).mpr ⟨h1, hq⟩)⟩
    · rintro ⟨h1, h2 | h2⟩
      · obtain ⟨p', hp', e⟩ := h2
        exact absurd ((mem_names N).mpr ⟨p', List.mem_range.mp (List.mem_filter.mp hp').1, e⟩) hq
      · exact ⟨((hil q).mp h2).1, rfl⟩
/-- the people who come to know it -/
theorem Nam.people (N : Nam t ns F) (hF : F ≤ 60) (kind : Str) (s : List Nat) : peopleM (t.ren ns F) kind s = uni ((peopleM t kind s).map (nm ns)) := by
  unfold peopleM uni
  refine filter_range_eq fun q => ?_
  rw [decide_eq_true_iff, List.mem_map]
  by_cases hq : q ∈ ns
  · obtain ⟨p, hp, rfl⟩ := (mem_names N).mp hq
    rw [N.has _ hp]
    constructor
    · rintro ⟨h1, h2⟩
      exact ⟨by have : nm ns p < F := h1; omega, p, List.mem_filter.mpr ⟨List.mem_range.mpr hp, h2⟩, rfl⟩
    · rintro ⟨h1, p', hp', e⟩
      obtain ⟨a1, a2⟩ := List.mem_filter.mp hp'
      rw [N.inj (List.mem_range.mp a1) hp e] at a2
      exact ⟨N.lt hp, a2⟩
  · rw [N.out _ hq]
    constructor
    · rintro ⟨_, h2⟩
      cases h2
    · rintro ⟨h1, p', hp', e⟩
      exact absurd ((mem_names N).mpr ⟨p', List.mem_range.mp (List.mem_filter.mp hp').1, e⟩) hq
theorem people_lt {kind : Str} {s : List Nat} : ∀ p ∈ peopleM t kind s, p < t.folk := fun p hp => List.mem_range.mp (List.mem_filter.mp hp).1
theorem people_nd {kind : Str} {s : List Nat} : (peopleM t kind s).Nodup := List.Pairwise.filter _ List.nodup_range
/-- a set of people can be read off its other names -/
theorem people_back (N : Nam t ns F) (hF : F ≤ 60) (kind : Str) (s : List Nat) : peopleM t kind s = (List.range t.folk).filter fun p => decide (nm ns p ∈ uni ((peopleM t kind s).map (nm ns))) := by
  conv => lhs; unfold peopleM
  refine List.filter_congr fun p hp => ?_
  have hp := List.mem_range.mp hp
  rw [Bool.eq_iff_iff, decide_eq_true_iff, uni_mem, List.mem_map]
  constructor
  · intro z
    exact ⟨by have := N.lt hp; omega, p, List.mem_filter.mpr ⟨List.mem_range.mpr hp, z⟩, rfl⟩
  · rintro ⟨_, p', hp', e⟩
    obtain ⟨a1, a2⟩ := List.mem_filter.mp hp'
    rw [N.inj (List.mem_range.mp a1) hp e] at a2
    exact a2
theorem Nam.auds (N : Nam t ns F) (hF : F ≤ 60) {kind : Str} {i : Nat} {kl : List (List Nat)} {ks' crowds : List (List Int)} (h : Auds t kind i (kl.map natI)) (h' : Auds (t.ren ns F) kind i ks') (pm : crowds.Perm (kl.map fun k => natI (uni (k.map (nm ns))))) (so : crowds.Pairwise fun a b => tLt b a = false) : ks' = crowds := by
  have src : ∀ k ∈ kl, ∃ s ∈ setsM t kind i, k = peopleM t kind s := fun k hk => by
    obtain ⟨s, hs, e⟩ := (h.mem _).mp (List.mem_map_of_mem hk)
    exact ⟨s, hs, natI_inj e⟩
  have ndl : kl.Nodup := nodup_of_map h.nd
  have ndc : (kl.map fun k => natI (uni (k.map (nm ns)))).Nodup := nodup_map_on ndl fun k hk k' hk' e => by
    have e := natI_inj e
    obtain ⟨s, _, rfl⟩ := src k hk
    obtain ⟨s', _, rfl⟩ := src k' hk'
    rw [people_back N hF kind s, people_back N hF kind s', e]
  refine tSort_unique ((List.perm_ext_iff_of_nodup h'.nd (pm.nodup_iff.mpr ndc)).mpr fun k => ?_) h'.so so
  rw [h'.mem, N.sets, pm.mem_iff, List.mem_map]
  constructor
  · rintro ⟨s, hs, rfl⟩
    obtain ⟨x, hx, e⟩ := List.mem_map.mp ((h.mem _).mpr ⟨s, hs, rfl⟩)
    exact ⟨peopleM t kind s, by rw [← natI_inj e]; exact hx, by rw [N.people hF]⟩
  · rintro ⟨k0, hk0, rfl⟩
    obtain ⟨s, hs, rfl⟩ := src k0 hk0
    exact ⟨s, hs, by rw [N.people hF]⟩
/-! ### when it is known -/
structure KR (t : Tab) (ns : List Nat) (F : Nat) (s s' : KS) : Prop where
  num : s'.num = s.num
  l1 : s.hs.length = t.folk
  l2 : s'.hs.length = F
  has : ∀ p, p < t.folk → s'.hs.getD (nm ns p) [] = s.hs.getD p []
theorem getD_set' {hs : List (List Nat)} {p q : Nat} {l : List Nat} (hp : p < hs.length) : (hs.set p l).getD q [] = if p = q then l else hs.getD q [] := by
  simp only [List.getD_eq_getElem?_getD, List.getElem?_set]
  by_cases e : p = q
  · subst e; simp [hp]
  · simp [e]
theorem Nam.setK (N : Nam t ns F) {s s' : KS} (R : KR t ns F s s') {p : Nat} (hp : p < t.folk) (n : Nat) (l : List Nat) : KR t ns F ⟨n, s.hs.set p l⟩ ⟨n, s'.hs.set (nm ns p) l⟩ := by
  refine ⟨rfl, by rw [List.length_set]; exact R.l1, by rw [List.length_set]; exact R.l2, fun q hq => ?_⟩
  show (s'.hs.set _ _).getD _ _ = (s.hs.set _ _).getD _ _
  rw [getD_set' (by rw [R.l2]; exact N.lt hp), getD_set' (by rw [R.l1]; exact hp)]
  by_cases e : p = q
  · rw [if_pos e, if_pos (congrArg _ e)]
  · rw [if_neg e, if_neg fun z => e (N.inj hp hq z)]
    exact R.has q hq
theorem Nam.cmpK (N : Nam t ns F) {s s' : KS} (R : KR t ns F s s') {p q : Nat} (hp : p < t.folk) (hq : q < t.folk) (long meet : Bool) : KR t ns F (s.cmp long meet p q) (s'.cmp long meet (nm ns p) (nm ns q)) := by
  have eb : s'.both (nm ns p) (nm ns q) = s.both p q := by unfold KS.both; rw [R.has p hp, R.has q hq]
  unfold KS.cmp
  rw [eb]
  split
  · have R1 := N.setK R hq s.num (s.both p q)
    have hg : (s'.hs.set (nm ns q) (s.both p q)).getD (nm ns p) [] = (s.hs.set q (s.both p q)).getD p [] := R1.has p hp
    rw [hg]
    have := N.setK R1 hp s.num (if meet = true then s.both p q else (s.hs.set q (s.both p q)).getD p [])
    exact ⟨R.num, this.l1, this.l2, this.has⟩
  · exact R
theorem Nam.stepK (N : Nam t ns F) {s s' : KS} (R : KR t ns F s s') {e : Ev} (he : e.Ok t.folk) (long : Bool) : KR t ns F (s.step long e) (s'.step long (moveE ns e)) := by
  cases e with
  | look p =>
    show KR t ns F ⟨_, _⟩ ⟨_, _⟩
    rw [R.has p he, R.num]
    exact N.setK R he _ _
  | add p => exact R
  | meet p q => exact N.cmpK R he.1 he.2 long true
  | tell p q => exact N.cmpK R he.1 he.2 long false
theorem Nam.kgo (N : Nam t ns F) (long : Bool) (kn : List Nat) {p : Nat} (hp : p < t.folk) : ∀ (l : List Ev) (pl : Nat) {s s' : KS}, (∀ e ∈ l, e.Ok t.folk) → KR t ns F s s' → HF.kgo long kn (nm ns p) (l.map (moveE ns)) pl s' = HF.kgo long kn p l pl s
  | [], _, _, _, _, _ => rfl
  | e :: l, pl, s, s', h, R => by
    have R1 := N.stepK R (h e List.mem_cons_self) long
    have ih := N.kgo long kn hp l (pl + 1) (fun x hx => h x (List.mem_cons_of_mem _ hx)) R1
    show (if (((s'.step long (moveE ns e)).hs.getD (nm ns p) []).any fun l => decide (l ∈ kn)) = true then some pl else HF.kgo long kn (nm ns p) (l.map (moveE ns)) (pl + 1) (s'.step long (moveE ns e))) = (if ((s.step long e).hs.getD p []).any (fun l => decide (l ∈ kn)) = true then some pl else HF.kgo long kn p l (pl + 1) (s.step long e))
    rw [R1.has p hp, ih]
theorem Nam.known (N : Nam t ns F) (long : Bool) (i : Nat) {p : Nat} (hp : p < t.folk) : (t.ren ns F).knownAt long i (nm ns p) = t.knownAt long i p := by
  unfold Tab.knownAt
  rw [N.branch]
  exact N.kgo long _ hp t.evs 0 N.evs ⟨rfl, List.length_replicate, List.length_replicate, fun q _ => by
    simp only [List.getD_eq_getElem?_getD, List.getElem?_replicate]
    split <;> first | rfl | (split <;> rfl)⟩
end
end HF

/-! ## N3 -/
namespace HF
open PySem PySem.Spec PyProof.Rows L2
/-! ### the fewest wishes that clash -/
theorem any_mem {α : Type} {l l' : List α} {p : α → Bool} (h : ∀ x, x ∈ l ↔ x ∈ l') : l.any p = l'.any p := by
  rw [Bool.eq_iff_iff, List.any_eq_true, List.any_eq_true]
  exact ⟨fun ⟨x, hx, z⟩ => ⟨x, (h x).mp hx, z⟩, fun ⟨x, hx, z⟩ => ⟨x, (h x).mpr hx, z⟩⟩
theorem fine_mem (t : Tab) (kind : Str) (b : Bool) {ws ws' : Ps} (h : ∀ x, x ∈ ws ↔ x ∈ ws') : fineM t kind b ws = fineM t kind b ws' := by
  have hb : ∀ l o, t.bar (decide (kind = "long")) ws l o = t.bar (decide (kind = "long")) ws' l o := fun l o => by
    unfold Tab.bar
    rw [any_mem h, any_mem (p := fun q => decide (q.1 = l) && decide (o ∈ t.has (decide (kind = "long")) q.2)) h]
  have hs : t.stL kind (chainOf t.n b) ws = t.stL kind (chainOf t.n b) ws' := by
    funext l o
    show t.stops _ _ ws l o = t.stops _ _ ws' l o
    unfold Tab.stops
    rw [hb]
  unfold fineM
  rw [hs, any_mem h]
  congr 2
  exact any_on fun q _ => hb _ _
theorem choice_iff : ∀ (n : Nat) (l c : Ps), c ∈ choiceM n l ↔ c.Sublist l ∧ c.length = n
  | 0, l, c => by
    unfold choiceM
    rw [List.mem_singleton]
    constructor
    · rintro rfl; exact ⟨List.nil_sublist _, rfl⟩
    · rintro ⟨_, h⟩; exact List.length_eq_zero_iff.mp h
  | n + 1, [], c => by
    unfold choiceM
    constructor
    · intro h; cases h
    · rintro ⟨h, k⟩
      rw [List.sublist_nil.mp h] at k
      cases k
  | n + 1, x :: l, c => by
    unfold choiceM
    rw [List.mem_append, List.mem_map, choice_iff (n + 1) l c]
    constructor
    · rintro (⟨d, hd, rfl⟩ | ⟨h1, h2⟩)
      · obtain ⟨h1, h2⟩ := (choice_iff n l d).mp hd
        exact ⟨h1.cons₂ x, by rw [List.length_cons, h2]⟩
      · exact ⟨h1.cons x, h2⟩
    · rintro ⟨h1, h2⟩
      cases h1 with
      | cons _ h => exact .inr ⟨h, h2⟩
      | cons_cons _ h => exact .inl ⟨_, (choice_iff n l _).mpr ⟨h, by simpa using h2⟩, rfl⟩
def allC (l : Ps) : List Ps := (List.range l.length).flatMap fun s => choiceM (s + 1) l
theorem allC_iff {l c : Ps} : c ∈ allC l ↔ c.Sublist l ∧ c ≠ [] := by
  unfold allC
  rw [List.mem_flatMap]
  constructor
  · rintro ⟨s, _, h⟩
    obtain ⟨h1, h2⟩ := (choice_iff _ _ _).mp h
    exact ⟨h1, fun z => by rw [z] at h2; cases h2⟩
  · rintro ⟨h1, h2⟩
    have hl : 0 < c.length := List.length_pos_iff.mpr h2
    have := h1.length_le
    exact ⟨c.length - 1, List.mem_range.mpr (by omega), (choice_iff _ _ _).mpr ⟨h1, by omega⟩⟩
theorem allC_sorted (l : Ps) : (allC l).Pairwise fun a b => a.length ≤ b.length := by
  unfold allC
  rw [List.flatMap, List.pairwise_flatten]
  refine ⟨fun L hL => ?_, ?_⟩
  · obtain ⟨s, _, rfl⟩ := List.mem_map.mp hL
    refine List.pairwise_of_forall_mem_list fun a ha b hb => ?_
    rw [((choice_iff _ _ _).mp ha).2, ((choice_iff _ _ _).mp hb).2]
    exact Nat.le_refl _
  · rw [List.pairwise_map]
    refine List.Pairwise.imp (fun {s s'} h a ha b hb => ?_) List.pairwise_lt_range
    rw [((choice_iff _ _ _).mp ha).2, ((choice_iff _ _ _).mp hb).2]
    omega
theorem find_least {L : List Ps} {p : Ps → Bool} (h : L.Pairwise fun a b => a.length ≤ b.length) {c : Ps} (e : L.find? p = some c) : ∀ y ∈ L, p y = true → c.length ≤ y.length := by
  induction L with
  | nil => cases e
  | cons x L ih =>
    rw [List.pairwise_cons] at h
    intro y hy hp
    by_cases hx : p x = true
    · rw [List.find?_cons_of_pos hx] at e
      cases e
      rcases List.mem_cons.mp hy with z | z
      · rw [z]; exact Nat.le_refl _
      · exact h.1 y z
    · rw [List.find?_cons_of_neg hx] at e
      rcases List.mem_cons.mp hy with z | z
      · rw [z] at hp; exact absurd hp hx
      · exact ih h.2 e y z hp
/-- each clash here has one as long there -/
theorem clash_le {L L' : List Ps} {p p' : Ps → Bool} (s' : L'.Pairwise fun a b => a.length ≤ b.length) (h : ∀ c ∈ L, p c = true → ∃ c' ∈ L', p' c' = true ∧ c'.length = c.length) {c : Ps} (e : L.find? p = some c) : ∃ c', L'.find? p' = some c' ∧ c'.length ≤ c.length := by
  obtain ⟨c', h1, h2, h3⟩ := h c (List.mem_of_find?_eq_some e) (List.find?_some e)
  cases e' : L'.find? p' with
  | none => exact absurd h2 (List.find?_eq_none.mp e' c' h1)
  | some d => exact ⟨d, rfl, by rw [← h3]; exact find_least s' e' c' h1 h2⟩
theorem clash_len {t t' : Tab} {kind : Str} {l l' : Ps} {f : Nat × Nat → Nat × Nat} (pm : l'.Perm (l.map f)) (h : ∀ c, c.Sublist l → fineM t' kind false (c.map f) = fineM t kind false c) : manyD (clashM t' kind l') = manyD (clashM t kind l) := by
  have a : ∀ c ∈ allC l, (!fineM t kind false c) = true → ∃ c' ∈ allC l', (!fineM t' kind false c') = true ∧ c'.length = c.length := fun c hc hp => by
    obtain ⟨h1, h2⟩ := allC_iff.mp hc
    obtain ⟨c', p1, p2⟩ := List.exists_perm_sublist (h1.map f) pm.symm
    refine ⟨c', allC_iff.mpr ⟨p2, fun z => h2 ?_⟩, ?_, by rw [p1.length_eq, List.length_map]⟩
    · rw [z] at p1
      have := p1.symm.eq_nil
      exact List.map_eq_nil_iff.mp this
    · rw [fine_mem t' kind false (fun x => p1.mem_iff), h c h1]
      exact hp
  have b : ∀ c ∈ allC l', (!fineM t' kind false c) = true → ∃ c' ∈ allC l, (!fineM t kind false c') = true ∧ c'.length = c.length := fun c hc hp => by
    obtain ⟨h1, h2⟩ := allC_iff.mp hc
    obtain ⟨c1, p1, p2⟩ := List.exists_perm_sublist h1 pm
    obtain ⟨c2, q1, rfl⟩ := List.sublist_map_iff.mp p2
    refine ⟨c2, allC_iff.mpr ⟨q1, fun z => h2 ?_⟩, ?_, by rw [← p1.length_eq, List.length_map]⟩
    · rw [z, List.map_nil] at p1
      exact p1.symm.eq_nil
    · rw [← h c2 q1, fine_mem t' kind false (fun x => p1.mem_iff)]
      exact hp
  unfold clashM
  show manyD ((allC l').find? fun c => !fineM t' kind false c) = manyD ((allC l).find? fun c => !fineM t kind false c)
  cases e : (allC l).find? fun c => !fineM t kind false c with
  | none =>
    cases e' : (allC l').find? fun c => !fineM t' kind false c with
    | none => rfl
    | some c' =>
      obtain ⟨c, z, _⟩ := clash_le (allC_sorted l) b e'
      rw [e] at z
      cases z
  | some c =>
    obtain ⟨c', e', h1⟩ := clash_le (allC_sorted l') a e
    obtain ⟨c2, z, h2⟩ := clash_le (allC_sorted l) b e'
    rw [e] at z
    cases z
    rw [e']
    show nD _ = nD _
    rw [Nat.le_antisymm h1 h2]
end HF

/-! ## N4 -/
namespace HF
open PySem PySem.Spec PyProof.Rows L2
/-! ### everybody who has looked has the look -/
structure OwnR (f : Nat) (s : GS) : Prop where
  len : s.hs.length = f
  own : ∀ j, j < s.num → j < 64 → ∃ p, p < f ∧ j ∈ s.has p
theorem OwnR.grow {f : Nat} {s : GS} (R : OwnR f s) {p : Nat} {l : List Nat} {A B : Ps} (hp : p < f) (h : ∀ j, j < 64 → j ∈ s.has p → j ∈ l) : OwnR f ⟨s.num, s.hs.set p l, A, B⟩ := by
  refine ⟨by rw [List.length_set]; exact R.len, fun j hj h64 => ?_⟩
  obtain ⟨q, hq, hm⟩ := R.own j hj h64
  refine ⟨q, hq, ?_⟩
  rw [has_set (by rw [R.len]; exact hp)]
  split
  · rename_i e
    subst e
    exact h j h64 hm
  · exact hm
theorem OwnR.same {f : Nat} {s : GS} (R : OwnR f s) {A B : Ps} : OwnR f ⟨s.num, s.hs, A, B⟩ := ⟨R.len, R.own⟩
theorem OwnR.cmp {f : Nat} {s : GS} (R : OwnR f s) {p q : Nat} (hp : p < f) (hq : q < f) (long meet : Bool) : OwnR f (s.cmp long meet p q) := by
  unfold GS.cmp
  split
  · have h1 : ∀ j, j < 64 → j ∈ s.has p → j ∈ uni (s.has p ++ s.has q) := fun j h m => uni_mem.mpr ⟨h, List.mem_append_left _ m⟩
    have h2 : ∀ j, j < 64 → j ∈ s.has q → j ∈ uni (s.has p ++ s.has q) := fun j h m => uni_mem.mpr ⟨h, List.mem_append_right _ m⟩
    have R1 : OwnR f ⟨s.num, s.hs.set q (uni (s.has p ++ s.has q)), s.A, s.B⟩ := R.grow hq h2
    cases meet with
    | true =>
      refine R1.grow hp fun j h m => ?_
      rw [has_set (by rw [R.len]; exact hq)] at m
      split at m
      · exact m
      · exact h1 j h m
    | false => exact R1.same
  · exact R.same
theorem OwnR.step {f : Nat} {s : GS} (R : OwnR f s) {e : Ev} (he : e.Ok f) (long : Bool) : OwnR f (s.step long e) := by
  cases e with
  | look p =>
    refine ⟨by show (s.hs.set _ _).length = f; rw [List.length_set]; exact R.len, fun j hj h64 => ?_⟩
    have hp : p < s.hs.length := by rw [R.len]; exact he
    by_cases e : j = s.num
    · refine ⟨p, he, ?_⟩
      show j ∈ (⟨_, s.hs.set p _, _, _⟩ : GS).has p
      rw [has_set hp, if_pos rfl, e]
      simp
    · have hj : j < s.num + 1 := hj
      obtain ⟨q, hq, hm⟩ := R.own j (by omega) h64
      refine ⟨q, hq, ?_⟩
      show j ∈ (⟨_, s.hs.set p _, _, _⟩ : GS).has q
      rw [has_set hp]
      split
      · rename_i z
        subst z
        exact List.mem_append_left _ hm
      · exact hm
  | add p => exact R
  | meet p q => exact R.cmp he.1 he.2 long true
  | tell p q => exact R.cmp he.1 he.2 long false
theorem OwnR.fold {f : Nat} (long : Bool) : ∀ (l : List Ev) {s : GS}, (∀ e ∈ l, e.Ok f) → OwnR f s → OwnR f (l.foldl (GS.step long) s)
  | [], _, _, R => R
  | e :: l, _, h, R => OwnR.fold long l (fun x hx => h x (List.mem_cons_of_mem _ hx)) (R.step (h e List.mem_cons_self) long)
theorem has_own {t : Tab} (h : ∀ e ∈ t.evs, e.Ok t.folk) (long : Bool) {i : Nat} (hi : i < t.n) (h64 : i < 64) : ∃ p, p < t.folk ∧ i ∈ t.has long p := by
  have R : OwnR t.folk (t.run long) := OwnR.fold long t.evs h ⟨List.length_replicate, fun j hj => absurd hj (Nat.not_lt_zero j)⟩
  refine R.own i ?_ h64
  have : (t.run long).num = (GS.init t.folk).num + t.evs.countP Ev.isLook := run_num _ _
  rw [this, ← t.n_eq]
  show i < 0 + t.n
  omega
theorem sets_mark {n mark : Nat} : ∀ s ∈ allSets n mark, mark ∈ s := by
  have h : ∀ (L : List Nat) (f : List (List Nat)), (∀ s ∈ f, mark ∈ s) → ∀ s ∈ L.foldl (fun f x => f ++ f.map (· ++ [x])) f, mark ∈ s := by
    intro L
    induction L with
    | nil => intro f h; exact h
    | cons x L ih =>
      intro f h
      refine ih _ fun s hs => ?_
      rcases List.mem_append.mp hs with z | z
      · exact h s z
      · obtain ⟨s', hs', rfl⟩ := List.mem_map.mp z
        exact List.mem_append_left _ (h s' hs')
  exact h _ _ fun s hs => by rw [List.mem_singleton.mp hs]; exact List.mem_singleton.mpr rfl
theorem people_ne {t : Tab} (h : ∀ e ∈ t.evs, e.Ok t.folk) {kind : Str} {i : Nat} (hi : i < t.n) (h64 : i < 64) : ∀ s ∈ setsM t kind i, peopleM t kind s ≠ [] := fun s hs z => by
  obtain ⟨p, hp, hm⟩ := has_own h (decide (kind = "long")) hi h64
  have h1 := sets_mark s (List.mem_filter.mp hs).1
  have : p ∈ peopleM t kind s := List.mem_filter.mpr ⟨List.mem_range.mpr hp, List.any_eq_true.mpr ⟨i, hm, decide_eq_true h1⟩⟩
  rw [z] at this
  cases this
theorem auds_list {t : Tab} {kind : Str} {i : Nat} {ks : List (List Int)} (h : Auds t kind i ks) : ∃ kl : List (List Nat), ks = kl.map natI ∧ ∀ k ∈ kl, ∃ s ∈ setsM t kind i, k = peopleM t kind s := by
  have : ∀ L : List (List Int), (∀ k ∈ L, k ∈ ks) → ∃ kl : List (List Nat), L = kl.map natI ∧ ∀ k ∈ kl, ∃ s ∈ setsM t kind i, k = peopleM t kind s := by
    intro L
    induction L with
    | nil => intro _; exact ⟨[], rfl, fun k hk => (by cases hk)⟩
    | cons k L ih =>
      intro hL
      obtain ⟨kl, e, hk⟩ := ih fun x hx => hL x (List.mem_cons_of_mem _ hx)
      obtain ⟨s, hs, e2⟩ := (h.mem k).mp (hL k List.mem_cons_self)
      refine ⟨peopleM t kind s :: kl, by rw [List.map_cons, ← e, ← e2], fun x hx => ?_⟩
      rcases List.mem_cons.mp hx with z | z
      · exact ⟨s, hs, z⟩
      · exact hk x z
  exact this ks fun k hk => hk
/-! ### all that is told of the renamed people -/
noncomputable def midD (t : Tab) (kind : Str) (i : Nat) : List D := ((List.range t.folk).map fun p => optD (t.knownAt (decide (kind = "long")) i p)) ++ (List.range t.folk).map fun p => .str (wayM t kind [(i, p)])
theorem toldD_mid (t : Tab) (kind : Str) (i : Nat) (kl : List (List Nat)) (l : Ps) : toldD t kind i (List.range t.folk) (kl.map natI) l = ((.lst ((t.kept (decide (kind = "long")) i).map nD) :: midD t kind i) ++ [.lst ((kl.map natI).map encI)]) ++ [optC (clashM t kind l)] := rfl
theorem nmP_range {n : Nat} {ws : Ps} (h : ∀ q ∈ ws, q.2 < n) : ws.map (nmP (List.range n)) = ws := by
  have : ∀ q ∈ ws, nmP (List.range n) q = q := fun q hq => by
    refine Prod.ext rfl ?_
    show nm _ _ = _
    unfold nm
    rw [List.getD_eq_getElem?_getD, List.getElem?_range (h q hq)]
    rfl
  rw [List.map_congr_left this, List.map_id']
theorem told_law {t : Tab} {ns il : List Nat} (N : Nam t ns (t.folk + 2)) (hf : t.folk ≤ 50) (hil : ∀ q, q ∈ il ↔ q < t.folk + 2 ∧ q ∉ ns) {kind : Str} {i : Nat} {ws : Ps} (hws : ∀ q ∈ ws, q.2 < t.folk) {kl : List (List Nat)} {ks' crowds : List (List Int)} {l l' : Ps}
    (h : Auds t kind i (kl.map natI)) (h' : Auds (t.ren ns (t.folk + 2)) kind i ks') (nl : l.Nodup) (ml : ∀ p, p ∈ l ↔ p ∈ ws.map (nmP (List.range t.folk))) (nl' : l'.Nodup) (ml' : ∀ p, p ∈ l' ↔ p ∈ ws.map (nmP ns))
    (pm : crowds.Perm (kl.map fun k => natI (uni (k.map (nm ns))))) (so : crowds.Pairwise fun a b => tLt b a = false) :
    (toldD (t.ren ns (t.folk + 2)) kind i ns ks' l').dropLast ++ [manyD (clashM (t.ren ns (t.folk + 2)) kind l')] = renD ns il (t.kept (decide (kind = "long")) i) (midD t kind i) crowds (clashM t kind l) := by
  rw [nmP_range hws] at ml
  have hF : t.folk + 2 ≤ 60 := by omega
  have hl2 : ∀ q ∈ l, q.2 < t.folk := fun q hq => hws q ((ml q).mp hq)
  have pl : l'.Perm (l.map (nmP ns)) := (List.perm_ext_iff_of_nodup nl' (nodup_map_on nl fun p hp q hq e => by
    have e1 : (nmP ns p).1 = (nmP ns q).1 := congrArg Prod.fst e
    have e2 : (nmP ns p).2 = (nmP ns q).2 := congrArg Prod.snd e
    exact Prod.ext e1 (N.inj (hl2 p hp) (hl2 q hq) e2))).mpr fun x => by
      rw [ml', List.mem_map, List.mem_map]
      exact ⟨fun ⟨a, h1, h2⟩ => ⟨a, (ml a).mpr h1, h2⟩, fun ⟨a, h1, h2⟩ => ⟨a, (ml a).mp h1, h2⟩⟩
  have hc : manyD (clashM (t.ren ns (t.folk + 2)) kind l') = manyD (clashM t kind l) := clash_len pl fun c hc => N.fine kind false c fun q hq => hl2 q (hc.subset hq)
  have e4 : ks' = crowds := N.auds hF h h' pm so
  have e1 := N.kept hF hil (decide (kind = "long")) i
  have hmap : ∀ g : Nat → D, ns.map g = (List.range t.folk).map fun p => g (nm ns p) := fun g => (congrArg (List.map g) (names_map N)).trans (by rw [List.map_map]; rfl)
  have e2 : (ns.map fun p => optD ((t.ren ns (t.folk + 2)).knownAt (decide (kind = "long")) i p)) = (List.range t.folk).map fun p => optD (t.knownAt (decide (kind = "long")) i p) := by
    rw [hmap]
    refine List.map_congr_left fun p hp => ?_
    rw [N.known _ i (List.mem_range.mp hp)]
  have e3 : (ns.map fun p => D.str (wayM (t.ren ns (t.folk + 2)) kind [(i, p)])) = (List.range t.folk).map fun p => .str (wayM t kind [(i, p)]) := by
    rw [hmap]
    refine List.map_congr_left fun p hp => ?_
    have := N.way kind [(i, p)] fun q hq => by rw [List.mem_singleton.mp hq]; exact List.mem_range.mp hp
    rw [← this]
    rfl
  unfold toldD renD midD
  rw [List.dropLast_concat, e1, e2, e3, hc, e4]
  simp only [List.append_assoc, List.cons_append, List.nil_append, List.singleton_append]
end HF

/-! ## N5 -/
namespace HF
open PySem PySem.Spec PyProof.Rows L2
/-! ### two timetables in one: where the looks lie -/
section
variable {f g : Nat} {tags : List Tag} {t1 : Tab}
abbrev isW (w : Str) (x : Tag × Nat) : Bool := decide (x.1.2.word = w)
theorem evsOf_mix (w : Str) : evsOf (mixT f g tags) w = (tags.zipIdx.filter (isW w)).map fun x => (x.2, (tagE f x.1).who) := by
  unfold evsOf mixT
  rw [List.zipIdx_map, List.filter_map, List.map_map]
  have : ((fun e : Ev × Nat => decide (e.1.word = w)) ∘ Prod.map (tagE f) id) = isW w := by
    funext e
    show decide ((tagE f e.1).word = w) = _
    rw [tag_word]
  rw [this]
  rfl
def zs (tags : List Tag) : List (Tag × Nat) := tags.zipIdx.filter fun x => x.1.1
theorem firsts_zs : firsts tags = (zs tags).map fun z => z.1.2 := by
  unfold firsts zs
  have : tags.filter (fun x => x.1) = (tags.zipIdx.filter fun x => x.1.1).map (·.1) := by
    conv => lhs; rw [← List.zipIdx_map_fst 0 tags]
    rw [List.filter_map]
    rfl
  rw [this, List.map_map]
  rfl
theorem evsOf_first (h : firsts tags = t1.evs) (w : Str) : evsOf t1 w = ((zs tags).zipIdx.filter fun z => isW w z.1).map fun z => (z.2, z.1.1.2.who) := by
  unfold evsOf
  rw [← h, firsts_zs, List.zipIdx_map, List.filter_map, List.map_map]
  rfl
theorem zs_sorted : (zs tags).Pairwise fun a b => a.2 < b.2 := by
  unfold zs
  refine List.Pairwise.filter _ ?_
  have h : ∀ (l : List Tag) (k : Nat), (l.zipIdx k).Pairwise fun a b => a.2 < b.2 := by
    intro l
    induction l with
    | nil => intro k; exact List.Pairwise.nil
    | cons x l ih =>
      intro k
      rw [List.zipIdx_cons, List.pairwise_cons]
      refine ⟨fun y hy => ?_, ih (k + 1)⟩
      have := List.le_snd_of_mem_zipIdx hy
      show k < y.2
      omega
  exact h tags 0
theorem zs_lt {a b : Nat} {z w : Tag × Nat} (ha : (zs tags)[a]? = some z) (hb : (zs tags)[b]? = some w) : a < b ↔ z.2 < w.2 := by
  obtain ⟨h1, e1⟩ := List.getElem?_eq_some_iff.mp ha
  obtain ⟨h2, e2⟩ := List.getElem?_eq_some_iff.mp hb
  have key := List.pairwise_iff_getElem.mp (zs_sorted (tags := tags))
  constructor
  · intro h
    have := key a b h1 h2 h
    rw [e1, e2] at this
    exact this
  · intro h
    rcases Nat.lt_trichotomy a b with z | z | z
    · exact z
    · subst z
      rw [e1] at e2
      rw [e2] at h
      exact absurd h (Nat.lt_irrefl _)
    · have := key b a h2 h1 z
      rw [e1, e2] at this
      omega
def emb (tags : List Tag) (i : Nat) : Nat := (placesOf tags).getD i 0
theorem turns_lk : turnsOf tags = (tags.zipIdx.filter (isW "look")).map fun x => x.1.1 := by
  unfold turnsOf
  have : tags.filter (fun x => x.2.isLook) = (tags.zipIdx.filter (isW "look")).map (·.1) := by
    conv => lhs; rw [← List.zipIdx_map_fst 0 tags]
    rw [List.filter_map]
    congr 1
  rw [this, List.map_map]
  rfl
theorem places_lk : placesOf tags = ((tags.zipIdx.filter (isW "look")).zipIdx.filter fun x => x.1.1.1).map (·.2) := by
  unfold placesOf
  rw [turns_lk, List.zipIdx_map, List.filter_map, List.map_map]
  rfl
theorem fst_filter {α : Type} (l : List α) (p : α → Bool) : (l.zipIdx.filter fun x => p x.1).map (·.1) = l.filter p := by
  conv => rhs; rw [← List.zipIdx_map_fst 0 l]
  rw [List.filter_map]
  rfl
theorem mix_n : (mixT f g tags).n = (turnsOf tags).length := by
  show (evsOf _ _).length = _
  rw [evsOf_mix, turns_lk, List.length_map, List.length_map]
/-- the i-th look of the first one, in both -/
theorem lk_both (h : firsts tags = t1.evs) {i : Nat} (hi : i < t1.n) : ∃ (z : Tag × Nat) (idx : Nat), t1.lk i = (idx, z.1.2.who) ∧ (mixT f g tags).lk (emb tags i) = (z.2, z.1.2.who) ∧ (zs tags)[idx]? = some z ∧ emb tags i < (mixT f g tags).n ∧ (turnsOf tags)[emb tags i]? = some true ∧ (placesOf tags)[i]? = some (emb tags i) := by
  have h1 := evsOf_first h "look"
  have hl : t1.n = ((zs tags).zipIdx.filter fun z => isW "look" z.1).length := by
    show (evsOf t1 "look").length = _
    rw [h1, List.length_map]
  have same : ((tags.zipIdx.filter (isW "look")).zipIdx.filter fun x => x.1.1.1).map (·.1) = ((zs tags).zipIdx.filter fun z => isW "look" z.1).map (·.1) := by
    rw [fst_filter (tags.zipIdx.filter (isW "look")) (fun x => x.1.1), fst_filter (zs tags) (isW "look")]
    unfold zs
    rw [List.filter_filter, List.filter_filter]
    exact List.filter_congr fun x _ => Bool.and_comm _ _
  have hlen : ((tags.zipIdx.filter (isW "look")).zipIdx.filter fun x => x.1.1.1).length = t1.n := by
    have := congrArg List.length same
    rw [List.length_map, List.length_map] at this
    rw [this, hl]
  have gE := List.getElem?_eq_getElem (l := (tags.zipIdx.filter (isW "look")).zipIdx.filter fun x => x.1.1.1) (i := i) (by omega)
  have gZ := List.getElem?_eq_getElem (l := (zs tags).zipIdx.filter fun z => isW "look" z.1) (i := i) (by omega)
  generalize ((tags.zipIdx.filter (isW "look")).zipIdx.filter fun x => x.1.1.1)[i]'(by omega) = u at gE
  generalize ((zs tags).zipIdx.filter fun z => isW "look" z.1)[i]'(by omega) = v at gZ
  obtain ⟨z, x⟩ := u
  obtain ⟨z', idx⟩ := v
  have ez : z = z' := by
    have := congrArg (·[i]?) same
    simp only [List.getElem?_map, gE, gZ, Option.map_some] at this
    exact Option.some.inj this
  subst ez
  have mE := List.mem_of_getElem? gE
  have mZ := List.mem_of_getElem? gZ
  obtain ⟨mE1, mE2⟩ := List.mem_filter.mp mE
  obtain ⟨mZ1, _⟩ := List.mem_filter.mp mZ
  have hx := List.mem_zipIdx_iff_getElem?.mp mE1
  have hz := List.mem_zipIdx_iff_getElem?.mp mZ1
  simp only at hx hz mE2
  have epl : (placesOf tags)[i]? = some x := by rw [places_lk, List.getElem?_map, gE]; rfl
  have eemb : emb tags i = x := by unfold emb; rw [List.getD_eq_getElem?_getD, epl]; rfl
  refine ⟨z, idx, ?_, ?_, hz, ?_, ?_, by rw [eemb]; exact epl⟩
  · unfold Tab.lk
    show (evsOf t1 "look").getD i (0, 0) = _
    rw [h1, List.getD_eq_getElem?_getD, List.getElem?_map, gZ]
    rfl
  · unfold Tab.lk
    show (evsOf _ "look").getD _ (0, 0) = _
    rw [evsOf_mix, List.getD_eq_getElem?_getD, List.getElem?_map, eemb, hx]
    show (z.2, (tagE f z.1).who) = _
    unfold tagE
    rw [if_pos mE2]
  · rw [mix_n, turns_lk, List.length_map, eemb]
    exact (List.getElem?_eq_some_iff.mp hx).1
  · rw [turns_lk, List.getElem?_map, eemb, hx]
    exact congrArg some mE2
theorem late_both (h : firsts tags = t1.evs) (ok : ∀ e ∈ t1.evs, e.Ok f) {i j : Nat} (hi : i < t1.n) (hj : j < t1.n) : (mixT f g tags).late (emb tags i) (emb tags j) = t1.late i j := by
  obtain ⟨z, a, e1, e2, e3, _⟩ := lk_both (f := f) (g := g) h hi
  obtain ⟨w, b, d1, d2, d3, _⟩ := lk_both (f := f) (g := g) h hj
  unfold Tab.late
  rw [e1, e2, d1, d2, Bool.eq_iff_iff, List.any_eq_true, List.any_eq_true]
  have hw : w.1.2 ∈ t1.evs := by rw [← h, firsts_zs]; exact List.mem_map_of_mem (f := fun z : Tag × Nat => z.1.2) (List.mem_of_getElem? d3)
  have who_lt : ∀ e : Ev, e.Ok f → e.who < f := fun e he => by
    cases e with
    | look p => exact he
    | add p => exact he
    | meet p q => exact he.1
    | tell p q => exact he.1
  have hwf := who_lt _ (ok _ hw)
  constructor
  · rintro ⟨x, hx, hc⟩
    have hx : x ∈ evsOf (mixT f g tags) "add" := hx
    rw [evsOf_mix] at hx
    obtain ⟨y, hy, rfl⟩ := List.mem_map.mp hx
    simp only [Bool.and_eq_true, decide_eq_true_eq] at hc
    obtain ⟨⟨c1, c2⟩, c3⟩ := hc
    obtain ⟨y1, y2⟩ := List.mem_filter.mp hy
    have yt : y.1.1 = true := by
      cases hyt : y.1.1 with
      | true => rfl
      | false =>
        exfalso
        unfold tagE at c3
        rw [if_neg (by rw [hyt]; exact Bool.false_ne_true)] at c3
        have : f ≤ (shiftE f y.1.2).who := by cases y.1.2 <;> exact Nat.le_add_right _ _
        omega
    have ewho : (tagE f y.1).who = y.1.2.who := by unfold tagE; rw [if_pos yt]
    have my : y ∈ zs tags := List.mem_filter.mpr ⟨y1, yt⟩
    obtain ⟨c, hcl, ec⟩ := List.getElem_of_mem my
    have gc : (zs tags)[c]? = some y := by rw [List.getElem?_eq_getElem hcl, ec]
    refine ⟨(c, y.1.2.who), ?_, ?_⟩
    · show _ ∈ evsOf t1 "add"
      rw [evsOf_first h]
      exact List.mem_map.mpr ⟨(y, c), List.mem_filter.mpr ⟨List.mem_zipIdx_iff_getElem?.mpr gc, y2⟩, rfl⟩
    · simp only [Bool.and_eq_true, decide_eq_true_eq]
      exact ⟨⟨(zs_lt e3 gc).mpr c1, (zs_lt gc d3).mpr c2⟩, by rw [← ewho]; exact c3⟩
  · rintro ⟨x, hx, hc⟩
    have hx : x ∈ evsOf t1 "add" := hx
    rw [evsOf_first h] at hx
    obtain ⟨⟨y, c⟩, hy, rfl⟩ := List.mem_map.mp hx
    simp only [Bool.and_eq_true, decide_eq_true_eq] at hc
    obtain ⟨⟨c1, c2⟩, c3⟩ := hc
    obtain ⟨y1, y2⟩ := List.mem_filter.mp hy
    have gc : (zs tags)[c]? = some y := List.mem_zipIdx_iff_getElem?.mp y1
    obtain ⟨m1, m2⟩ := List.mem_filter.mp (List.mem_of_getElem? gc)
    refine ⟨(y.2, y.1.2.who), ?_, ?_⟩
    · show _ ∈ evsOf (mixT f g tags) "add"
      rw [evsOf_mix]
      refine List.mem_map.mpr ⟨y, List.mem_filter.mpr ⟨m1, y2⟩, ?_⟩
      have m2 : y.1.1 = true := m2
      unfold tagE
      rw [if_pos m2]
    · simp only [Bool.and_eq_true, decide_eq_true_eq]
      exact ⟨⟨(zs_lt e3 gc).mp c1, (zs_lt gc d3).mp c2⟩, c3⟩
end
end HF

/-! ## N6 -/
namespace HF
open PySem PySem.Spec PyProof.Rows L2
/-! ### two timetables in one: the runs -/
def plc : Nat → List Tag → List Nat
  | _, [] => []
  | n, x :: r => if x.2.isLook = true then (if x.1 = true then n :: plc (n + 1) r else plc (n + 1) r) else plc n r
theorem plc_eq : ∀ (tags : List Tag) (n : Nat), (((turnsOf tags).zipIdx n).filter fun x => x.1).map (·.2) = plc n tags
  | [], _ => rfl
  | (b, e) :: r, n => by
    have ih := plc_eq r
    unfold plc
    have ht : turnsOf ((b, e) :: r) = if e.isLook = true then b :: turnsOf r else turnsOf r := by
      unfold turnsOf
      rw [List.filter_cons]
      show List.map _ (if e.isLook = true then _ else _) = _
      split <;> rfl
    rw [ht]
    show _ = if e.isLook = true then (if b = true then _ else _) else _
    cases he : e.isLook with
    | false => rw [if_neg Bool.false_ne_true, if_neg Bool.false_ne_true]; exact ih n
    | true =>
      rw [if_pos rfl, if_pos rfl, List.zipIdx_cons, List.filter_cons]
      cases b with
      | true => rw [if_pos rfl, if_pos rfl, List.map_cons, ih (n + 1)]
      | false => rw [if_neg Bool.false_ne_true, if_neg Bool.false_ne_true]; exact ih (n + 1)
theorem places_plc (tags : List Tag) : placesOf tags = plc 0 tags := plc_eq tags 0
theorem plc_ge : ∀ (tags : List Tag) (n : Nat), ∀ x ∈ plc n tags, n ≤ x
  | [], _, x, h => by cases h
  | (b, e) :: r, n, x, h => by
    unfold plc at h
    split at h
    · split at h
      · rcases List.mem_cons.mp h with z | z
        · omega
        · have := plc_ge r (n + 1) x z; omega
      · have := plc_ge r (n + 1) x h; omega
    · exact plc_ge r n x h
theorem plc_sorted : ∀ (tags : List Tag) (n : Nat), (plc n tags).Pairwise (· < ·)
  | [], _ => List.Pairwise.nil
  | (b, e) :: r, n => by
    unfold plc
    split
    · split
      · rw [List.pairwise_cons]
        exact ⟨fun y hy => by have := plc_ge r (n + 1) y hy; omega, plc_sorted r (n + 1)⟩
      · exact plc_sorted r (n + 1)
    · exact plc_sorted r n
theorem firsts_cons (b : Bool) (e : Ev) (r : List Tag) : firsts ((b, e) :: r) = if b = true then e :: firsts r else firsts r := by
  unfold firsts
  rw [List.filter_cons]
  cases b <;> rfl
theorem plc_len : ∀ (tags : List Tag) (n : Nat), (plc n tags).length = (firsts tags).countP Ev.isLook
  | [], _ => rfl
  | (b, e) :: r, n => by
    unfold plc
    rw [firsts_cons]
    show List.length (if e.isLook = true then (if b = true then _ else _) else _) = _
    cases he : e.isLook with
    | false =>
      rw [if_neg Bool.false_ne_true, plc_len r n]
      cases b with
      | true => rw [if_pos rfl, List.countP_cons_of_neg (by rw [he]; exact Bool.false_ne_true)]
      | false => rw [if_neg Bool.false_ne_true]
    | true =>
      rw [if_pos rfl]
      cases b with
      | true => rw [if_pos rfl, if_pos rfl, List.length_cons, List.countP_cons_of_pos he, plc_len r (n + 1)]
      | false => rw [if_neg Bool.false_ne_true, if_neg Bool.false_ne_true, plc_len r (n + 1)]
/-- where the looks of the first one go -/
structure Emb (e : Nat → Nat) (N : Nat) : Prop where
  mono : ∀ i j, i < j → j < N → e i < e j
  lt : ∀ i, i < N → i < 64 ∧ e i < 64
theorem Emb.inj {e : Nat → Nat} {N : Nat} (E : Emb e N) {i j : Nat} (hi : i < N) (hj : j < N) (h : e i = e j) : i = j := by
  rcases Nat.lt_trichotomy i j with z | z | z
  · have := E.mono i j z hj; omega
  · exact z
  · have := E.mono j i z hi; omega
theorem sorted_ext {l l' : List Nat} (h : l.Pairwise (· < ·)) (h' : l'.Pairwise (· < ·)) (m : ∀ x, x ∈ l ↔ x ∈ l') : l = l' := by
  have nd : l.Nodup := h.imp fun {a b} z => Nat.ne_of_lt z
  have nd' : l'.Nodup := h'.imp fun {a b} z => Nat.ne_of_lt z
  exact List.Perm.eq_of_pairwise (le := fun a b => a < b) (fun a b _ _ x y => absurd (Nat.lt_trans x y) (Nat.lt_irrefl _)) h h' ((List.perm_ext_iff_of_nodup nd nd').mpr m)
theorem uni_sorted (l : List Nat) : (uni l).Pairwise (· < ·) := List.Pairwise.filter _ List.pairwise_lt_range
theorem uni_map {e : Nat → Nat} {N : Nat} (E : Emb e N) {l : List Nat} (h : ∀ i ∈ l, i < N) : uni (l.map e) = (uni l).map e := by
  refine sorted_ext (uni_sorted _) ?_ fun x => ?_
  · rw [List.pairwise_map]
    exact (uni_sorted l).imp_of_mem fun {a b} ha hb z => E.mono a b z (h b (uni_mem.mp hb).2)
  · rw [uni_mem, List.mem_map, List.mem_map]
    constructor
    · rintro ⟨_, i, hi, rfl⟩
      exact ⟨i, uni_mem.mpr ⟨(E.lt i (h i hi)).1, hi⟩, rfl⟩
    · rintro ⟨i, hi, rfl⟩
      have := (uni_mem.mp hi).2
      exact ⟨(E.lt i (h i this)).2, i, this, rfl⟩
def Off (e : Nat → Nat) (N x : Nat) : Prop := ∀ i, i < N → e i ≠ x
structure AR (e : Nat → Nat) (N : Nat) (A A1 : Ps) : Prop where
  fw : ∀ i j, (i, j) ∈ A1 → i < N ∧ j < N ∧ (e i, e j) ∈ A
  bw : ∀ x y, (x, y) ∈ A → (∃ i j, (i, j) ∈ A1 ∧ e i = x ∧ e j = y) ∨ (Off e N x ∧ Off e N y)
section
variable {e : Nat → Nat} {N : Nat} {A A1 : Ps}
theorem AR.add1 (R : AR e N A A1) {i j : Nat} (hi : i < N) (hj : j < N) : AR e N (addP A (e i, e j)) (addP A1 (i, j)) := by
  refine ⟨fun a b h => ?_, fun x y h => ?_⟩
  · rcases mem_addP.mp h with z | z
    · obtain ⟨h1, h2, h3⟩ := R.fw a b z
      exact ⟨h1, h2, mem_addP.mpr (.inl h3)⟩
    · cases z
      exact ⟨hi, hj, mem_addP.mpr (.inr rfl)⟩
  · rcases mem_addP.mp h with z | z
    · rcases R.bw x y z with ⟨a, b, h1, h2, h3⟩ | z
      · exact .inl ⟨a, b, mem_addP.mpr (.inl h1), h2, h3⟩
      · exact .inr z
    · cases z
      exact .inl ⟨i, j, mem_addP.mpr (.inr rfl), rfl, rfl⟩
theorem AR.add2 (R : AR e N A A1) {x y : Nat} (hx : Off e N x) (hy : Off e N y) : AR e N (addP A (x, y)) A1 := by
  refine ⟨fun a b h => ?_, fun u v h => ?_⟩
  · obtain ⟨h1, h2, h3⟩ := R.fw a b h
    exact ⟨h1, h2, mem_addP.mpr (.inl h3)⟩
  · rcases mem_addP.mp h with z | z
    · exact R.bw u v z
    · cases z
      exact .inr ⟨hx, hy⟩
theorem AR.mem (R : AR e N A A1) (E : Emb e N) {i j : Nat} (hi : i < N) (hj : j < N) : (e i, e j) ∈ A ↔ (i, j) ∈ A1 := by
  constructor
  · intro h
    rcases R.bw _ _ h with ⟨a, b, h1, h2, h3⟩ | ⟨z, _⟩
    · obtain ⟨ha, hb, _⟩ := R.fw a b h1
      rw [← E.inj ha hi h2, ← E.inj hb hj h3]
      exact h1
    · exact absurd rfl (z i hi)
  · exact fun h => (R.fw i j h).2.2
theorem AR.cond (R : AR e N A A1) (E : Emb e N) {i j : Nat} (hi : i < N) (hj : j < N) : (e i = e j ∨ (e i, e j) ∈ A) ↔ (i = j ∨ (i, j) ∈ A1) := by
  rw [R.mem E hi hj]
  exact ⟨fun h => h.imp (E.inj hi hj) id, fun h => h.imp (congrArg e) id⟩
theorem AR.bind1 (R : AR e N A A1) (E : Emb e N) {i j : Nat} (hi : i < N) (hj : j < N) : AR e N (bindL A (e i) (e j)) (bindL A1 i j) := by
  unfold bindL
  by_cases h : i = j ∨ (i, j) ∈ A1
  · rw [if_pos h, if_pos ((R.cond E hi hj).mpr h)]; exact R
  · rw [if_neg h, if_neg fun z => h ((R.cond E hi hj).mp z)]
    exact (R.add1 hi hj).add1 hj hi
theorem AR.bind2 (R : AR e N A A1) {x y : Nat} (hx : Off e N x) (hy : Off e N y) : AR e N (bindL A x y) A1 := by
  unfold bindL
  split
  · exact R
  · exact (R.add2 hx hy).add2 hy hx
theorem AR.lower1 (R : AR e N A A1) (E : Emb e N) {i j : Nat} (hi : i < N) (hj : j < N) : AR e N (lowerL A (e i) (e j)) (lowerL A1 i j) := by
  unfold lowerL
  by_cases h : i = j ∨ (i, j) ∈ A1
  · rw [if_pos h, if_pos ((R.cond E hi hj).mpr h)]; exact R
  · rw [if_neg h, if_neg fun z => h ((R.cond E hi hj).mp z)]
    exact R.add1 hi hj
theorem AR.lower2 (R : AR e N A A1) {x y : Nat} (hx : Off e N x) (hy : Off e N y) : AR e N (lowerL A x y) A1 := by
  unfold lowerL
  split
  · exact R
  · exact R.add2 hx hy
theorem AR.foldB1 (E : Emb e N) {i : Nat} (hi : i < N) : ∀ (l : List Nat) {A A1 : Ps}, AR e N A A1 → (∀ x ∈ l, x < N) → AR e N ((l.map e).foldl (fun A y => bindL A (e i) y) A) (l.foldl (fun A y => bindL A i y) A1)
  | [], _, _, R, _ => R
  | x :: l, _, _, R, h => AR.foldB1 E hi l (R.bind1 E hi (h x List.mem_cons_self)) fun y hy => h y (List.mem_cons_of_mem _ hy)
theorem AR.foldB2 {x : Nat} (hx : Off e N x) : ∀ (l : List Nat) {A A1 : Ps}, AR e N A A1 → (∀ y ∈ l, Off e N y) → AR e N (l.foldl (fun A y => bindL A x y) A) A1
  | [], _, _, R, _ => R
  | y :: l, _, _, R, h => AR.foldB2 hx l (R.bind2 hx (h y List.mem_cons_self)) fun z hz => h z (List.mem_cons_of_mem _ hz)
theorem AR.cross1 (E : Emb e N) : ∀ (l : List Nat) {A A1 : Ps}, AR e N A A1 → (∀ x ∈ l, x < N) → AR e N (crossA (l.map e) A) (crossA l A1)
  | [], _, _, R, _ => R
  | x :: l, _, _, R, h => AR.cross1 E l (AR.foldB1 E (h x List.mem_cons_self) l R fun y hy => h y (List.mem_cons_of_mem _ hy)) fun y hy => h y (List.mem_cons_of_mem _ hy)
theorem AR.cross2 : ∀ (l : List Nat) {A A1 : Ps}, AR e N A A1 → (∀ y ∈ l, Off e N y) → AR e N (crossA l A) A1
  | [], _, _, R, _ => R
  | x :: l, _, _, R, h => AR.cross2 l (AR.foldB2 (h x List.mem_cons_self) l R fun y hy => h y (List.mem_cons_of_mem _ hy)) fun y hy => h y (List.mem_cons_of_mem _ hy)
theorem AR.foldL1 (E : Emb e N) {n : Nat} (hn : n < N) : ∀ (l : List Nat) {A A1 : Ps}, AR e N A A1 → (∀ x ∈ l, x < N) → AR e N ((l.map e).foldl (fun B o => lowerL B o (e n)) A) (l.foldl (fun B o => lowerL B o n) A1)
  | [], _, _, R, _ => R
  | x :: l, _, _, R, h => AR.foldL1 E hn l (R.lower1 E (h x List.mem_cons_self) hn) fun y hy => h y (List.mem_cons_of_mem _ hy)
theorem AR.foldL2 {n : Nat} (hn : Off e N n) : ∀ (l : List Nat) {A A1 : Ps}, AR e N A A1 → (∀ y ∈ l, Off e N y) → AR e N (l.foldl (fun B o => lowerL B o n) A) A1
  | [], _, _, R, _ => R
  | y :: l, _, _, R, h => AR.foldL2 hn l (R.lower2 (h y List.mem_cons_self) hn) fun z hz => h z (List.mem_cons_of_mem _ hz)
theorem AR.last1 (R : AR e N A A1) (E : Emb e N) {l m : List Nat} (hl : ∀ x ∈ l, x < N) (hm : ∀ x ∈ m, x < N) : AR e N (lastA (l.map e) (m.map e) A) (lastA l m A1) := by
  unfold lastA
  rw [List.getLast?_map, List.getLast?_map]
  cases h1 : l.getLast? with
  | none => exact R
  | some x =>
    cases h2 : m.getLast? with
    | none => exact R
    | some y => exact R.bind1 E (hl x (List.mem_of_getLast? h1)) (hm y (List.mem_of_getLast? h2))
theorem AR.last2 (R : AR e N A A1) {l m : List Nat} (hl : ∀ x ∈ l, Off e N x) (hm : ∀ x ∈ m, Off e N x) : AR e N (lastA l m A) A1 := by
  unfold lastA
  cases h1 : l.getLast? with
  | none => exact R
  | some x =>
    cases h2 : m.getLast? with
    | none => exact R
    | some y => exact R.bind2 (hl x (List.mem_of_getLast? h1)) (hm y (List.mem_of_getLast? h2))
end
structure RM (e : Nat → Nat) (N f g : Nat) (s s1 : GS) : Prop where
  l : s.hs.length = f + g
  l1 : s1.hs.length = f
  has1 : ∀ p, p < f → s.has p = (s1.has p).map e
  bnd : ∀ p, p < f → ∀ i ∈ s1.has p, i < s1.num
  has2 : ∀ p, f ≤ p → ∀ x ∈ s.has p, Off e N x
  A : AR e N s.A s1.A
  B : AR e N s.B s1.B
  num : s1.num ≤ N
  eb : ∀ i, i < s1.num → e i < s.num
section
variable {e : Nat → Nat} {N f g : Nat} {s s1 : GS}
theorem has_mk {n : Nat} {hs : List (List Nat)} {A B : Ps} {q : Nat} : (⟨n, hs, A, B⟩ : GS).has q = hs.getD q [] := rfl
theorem RM.set1 (R : RM e N f g s s1) {p : Nat} (hp : p < f) {l : List Nat} (hl : ∀ i ∈ l, i < s1.num) {A A1 B B1 : Ps} (a : AR e N A A1) (b : AR e N B B1) : RM e N f g ⟨s.num, s.hs.set p (l.map e), A, B⟩ ⟨s1.num, s1.hs.set p l, A1, B1⟩ := by
  refine ⟨by rw [List.length_set]; exact R.l, by rw [List.length_set]; exact R.l1, fun q hq => ?_, fun q hq i hi => ?_, fun q hq x hx => ?_, a, b, R.num, R.eb⟩
  · rw [has_set (by rw [R.l]; omega), has_set (by rw [R.l1]; exact hp)]
    split
    · rfl
    · exact R.has1 q hq
  · rw [has_set (by rw [R.l1]; exact hp)] at hi
    split at hi
    · exact hl i hi
    · exact R.bnd q hq i hi
  · rw [has_set (by rw [R.l]; omega), if_neg (by omega)] at hx
    exact R.has2 q hq x hx
theorem RM.set2 (R : RM e N f g s s1) {p : Nat} (hp : f ≤ p) (hp2 : p < f + g) {l : List Nat} (hl : ∀ x ∈ l, Off e N x) {A A1 B B1 : Ps} (a : AR e N A A1) (b : AR e N B B1) : RM e N f g ⟨s.num, s.hs.set p l, A, B⟩ ⟨s1.num, s1.hs, A1, B1⟩ := by
  refine ⟨by rw [List.length_set]; exact R.l, R.l1, fun q hq => ?_, R.bnd, fun q hq x hx => ?_, a, b, R.num, R.eb⟩
  · rw [has_set (by rw [R.l]; exact hp2), if_neg (by omega)]
    exact R.has1 q hq
  · rw [has_set (by rw [R.l]; exact hp2)] at hx
    split at hx
    · exact hl x hx
    · exact R.has2 q hq x hx
theorem RM.bump1 (R : RM e N f g s s1) (h : e s1.num = s.num) (hn : s1.num < N) : RM e N f g ⟨s.num + 1, s.hs, s.A, s.B⟩ ⟨s1.num + 1, s1.hs, s1.A, s1.B⟩ :=
  ⟨R.l, R.l1, R.has1, fun p hp i hi => Nat.lt_succ_of_lt (R.bnd p hp i hi), R.has2, R.A, R.B, hn, fun i hi => by
    have hi : i < s1.num + 1 := hi
    show e i < s.num + 1
    by_cases z : i = s1.num
    · rw [z, h]; exact Nat.lt_succ_self _
    · exact Nat.lt_succ_of_lt (R.eb i (by omega))⟩
theorem RM.bump2 (R : RM e N f g s s1) : RM e N f g ⟨s.num + 1, s.hs, s.A, s.B⟩ s1 :=
  ⟨R.l, R.l1, R.has1, R.bnd, R.has2, R.A, R.B, R.num, fun i hi => Nat.lt_succ_of_lt (R.eb i hi)⟩
theorem RM.put (R : RM e N f g s s1) {A A1 : Ps} (a : AR e N A A1) : RM e N f g { s with A := A } { s1 with A := A1 } :=
  ⟨R.l, R.l1, R.has1, R.bnd, R.has2, a, R.B, R.num, R.eb⟩
theorem RM.bN (R : RM e N f g s s1) {p : Nat} (hp : p < f) : ∀ i ∈ s1.has p, i < N := fun i hi => Nat.lt_of_lt_of_le (R.bnd p hp i hi) R.num
theorem RM.cmp1 (R : RM e N f g s s1) (E : Emb e N) {p q : Nat} (hp : p < f) (hq : q < f) (long meet : Bool) : RM e N f g (s.cmp long meet p q) (s1.cmp long meet p q) := by
  unfold GS.cmp
  split
  · have hb : ∀ i ∈ s1.has p ++ s1.has q, i < N := fun i hi => by
      rcases List.mem_append.mp hi with z | z
      · exact R.bN hp i z
      · exact R.bN hq i z
    have hn : ∀ i ∈ uni (s1.has p ++ s1.has q), i < s1.num := fun i hi => by
      rcases List.mem_append.mp (uni_mem.mp hi).2 with z | z
      · exact R.bnd p hp i z
      · exact R.bnd q hq i z
    have eu : uni (s.has p ++ s.has q) = (uni (s1.has p ++ s1.has q)).map e := by
      rw [R.has1 p hp, R.has1 q hq, ← List.map_append]
      exact uni_map E hb
    rw [eu]
    have a : AR e N (crossA ((uni (s1.has p ++ s1.has q)).map e) s.A) (crossA (uni (s1.has p ++ s1.has q)) s1.A) := AR.cross1 E _ R.A fun i hi => Nat.lt_of_lt_of_le (hn i hi) R.num
    have R1 := R.set1 hq hn a R.B
    cases meet with
    | true => exact R1.set1 hp hn a R.B
    | false => exact R1
  · rw [R.has1 p hp, R.has1 q hq]
    exact R.put (R.A.last1 E (R.bN hp) (R.bN hq))
theorem RM.cmp2 (R : RM e N f g s s1) {p q : Nat} (hp : f ≤ p) (hp2 : p < f + g) (hq : f ≤ q) (hq2 : q < f + g) (long meet : Bool) : RM e N f g (s.cmp long meet p q) s1 := by
  unfold GS.cmp
  split
  · have hn : ∀ i ∈ uni (s.has p ++ s.has q), Off e N i := fun i hi => by
      rcases List.mem_append.mp (uni_mem.mp hi).2 with z | z
      · exact R.has2 p hp i z
      · exact R.has2 q hq i z
    have a : AR e N (crossA (uni (s.has p ++ s.has q)) s.A) s1.A := AR.cross2 _ R.A hn
    have R1 := R.set2 hq hq2 hn a R.B
    cases meet with
    | true => exact R1.set2 hp hp2 hn a R.B
    | false => exact R1
  · exact R.put (A1 := s1.A) (R.A.last2 (R.has2 p hp) (R.has2 q hq))
theorem RM.go (E : Emb e N) (long : Bool) : ∀ (rest : List Tag) {s s1 : GS}, RM e N f g s s1 → (∀ j x, (plc s.num rest)[j]? = some x → e (s1.num + j) = x) → s1.num + (plc s.num rest).length = N → (∀ x ∈ rest, if x.1 = true then x.2.Ok f else x.2.Ok g) →
    RM e N f g ((rest.map (tagE f)).foldl (GS.step long) s) ((firsts rest).foldl (GS.step long) s1)
  | [], _, _, R, _, _, _ => R
  | (true, .look p) :: r, s, s1, R, hp, hl, ok => by
    have hpl : plc s.num ((true, Ev.look p) :: r) = s.num :: plc (s.num + 1) r := by
      show (if (Ev.look p).isLook = true then (if true = true then _ else _) else _) = _
      rw [if_pos (by kernel_rfl), if_pos rfl]
    rw [hpl] at hp hl
    have h0 : e s1.num = s.num := hp 0 _ rfl
    rw [List.length_cons] at hl
    have hn : s1.num < N := by omega
    have hpf : p < f := by
      have := ok _ List.mem_cons_self
      rw [if_pos rfl] at this
      exact this
    have R1 := R.bump1 h0 hn
    have hbn : ∀ i ∈ s1.has p ++ [s1.num], i < s1.num + 1 := fun i hi => by
      rcases List.mem_append.mp hi with z | z
      · exact Nat.lt_succ_of_lt (R.bnd p hpf i z)
      · rw [List.mem_singleton.mp z]; exact Nat.lt_succ_self _
    have R2 := R1.set1 hpf hbn R.A (AR.foldL1 E hn (s1.has p) R.B (R.bN hpf))
    have es : (s.step long (.look p)) = ⟨s.num + 1, s.hs.set p ((s1.has p ++ [s1.num]).map e), s.A, ((s1.has p).map e).foldl (fun B o => lowerL B o (e s1.num)) s.B⟩ := by
      show (⟨_, s.hs.set p (s.has p ++ [s.num]), s.A, (s.has p).foldl (fun B o => lowerL B o s.num) s.B⟩ : GS) = _
      rw [R.has1 p hpf, h0, List.map_append]
      show _ = (⟨_, s.hs.set p (_ ++ [e s1.num]), _, _⟩ : GS)
      rw [h0]
    rw [firsts_cons, if_pos rfl]
    show RM e N f g ((r.map (tagE f)).foldl (GS.step long) (s.step long (.look p))) ((firsts r).foldl (GS.step long) (s1.step long (.look p)))
    rw [es]
    refine RM.go E long r R2 (fun j x hx => ?_) (by show s1.num + 1 + (plc (s.num + 1) r).length = N; omega) fun x hx => ok x (List.mem_cons_of_mem _ hx)
    have := hp (j + 1) x (by rw [List.getElem?_cons_succ]; exact hx)
    show e (s1.num + 1 + j) = x
    rw [← this]
    congr 1
    omega
  | (false, .look p) :: r, s, s1, R, hp, hl, ok => by
    have hpl : plc s.num ((false, Ev.look p) :: r) = plc (s.num + 1) r := by
      show (if (Ev.look p).isLook = true then (if false = true then _ else _) else _) = _
      rw [if_pos (by kernel_rfl), if_neg Bool.false_ne_true]
    rw [hpl] at hp hl
    have hpg : p < g := by
      have := ok _ List.mem_cons_self
      rw [if_neg Bool.false_ne_true] at this
      exact this
    have off : Off e N s.num := fun i hi z => by
      by_cases h : i < s1.num
      · have := R.eb i h; omega
      · have hj : i - s1.num < (plc (s.num + 1) r).length := by omega
        have g1 := List.getElem?_eq_getElem hj
        have := hp (i - s1.num) _ g1
        rw [show s1.num + (i - s1.num) = i by omega] at this
        have h2 := plc_ge r (s.num + 1) _ (List.getElem_mem hj)
        omega
    have R1 := R.bump2
    have hbn : ∀ x ∈ s.has (f + p) ++ [s.num], Off e N x := fun i hi => by
      rcases List.mem_append.mp hi with z | z
      · exact R.has2 _ (Nat.le_add_right _ _) i z
      · rw [List.mem_singleton.mp z]; exact off
    have R2 := R1.set2 (p := f + p) (Nat.le_add_right _ _) (by omega) hbn R.A (AR.foldL2 off (s.has (f + p)) R.B (R.has2 _ (Nat.le_add_right _ _)))
    rw [firsts_cons, if_neg Bool.false_ne_true]
    exact RM.go E long r R2 hp hl fun x hx => ok x (List.mem_cons_of_mem _ hx)
  | (true, .add p) :: r, s, s1, R, hp, hl, ok => by
    have hpl : plc s.num ((true, Ev.add p) :: r) = plc s.num r := if_neg (by rw [show Ev.isLook (.add p) = false from by kernel_rfl]; exact Bool.false_ne_true)
    rw [hpl] at hp hl
    rw [firsts_cons, if_pos rfl]
    exact RM.go E long r R hp hl fun x hx => ok x (List.mem_cons_of_mem _ hx)
  | (false, .add p) :: r, s, s1, R, hp, hl, ok => by
    have hpl : plc s.num ((false, Ev.add p) :: r) = plc s.num r := if_neg (by rw [show Ev.isLook (.add p) = false from by kernel_rfl]; exact Bool.false_ne_true)
    rw [hpl] at hp hl
    rw [firsts_cons, if_neg Bool.false_ne_true]
    exact RM.go E long r R hp hl fun x hx => ok x (List.mem_cons_of_mem _ hx)
  | (true, .meet p q) :: r, s, s1, R, hp, hl, ok => by
    have hpl : plc s.num ((true, Ev.meet p q) :: r) = plc s.num r := if_neg (by rw [show Ev.isLook (.meet p q) = false from by kernel_rfl]; exact Bool.false_ne_true)
    rw [hpl] at hp hl
    have hpq := ok _ List.mem_cons_self
    rw [if_pos rfl] at hpq
    have R1 := R.cmp1 E hpq.1 hpq.2 long true
    rw [firsts_cons, if_pos rfl]
    have n1 : (s.cmp long true p q).num = s.num := by unfold GS.cmp; split <;> rfl
    have n2 : (s1.cmp long true p q).num = s1.num := by unfold GS.cmp; split <;> rfl
    exact RM.go E long r (s := s.cmp long true p q) (s1 := s1.cmp long true p q) R1 (by rw [n1, n2]; exact hp) (by rw [n1, n2]; exact hl) fun x hx => ok x (List.mem_cons_of_mem _ hx)
  | (true, .tell p q) :: r, s, s1, R, hp, hl, ok => by
    have hpl : plc s.num ((true, Ev.tell p q) :: r) = plc s.num r := if_neg (by rw [show Ev.isLook (.tell p q) = false from by kernel_rfl]; exact Bool.false_ne_true)
    rw [hpl] at hp hl
    have hpq := ok _ List.mem_cons_self
    rw [if_pos rfl] at hpq
    have R1 := R.cmp1 E hpq.1 hpq.2 long false
    rw [firsts_cons, if_pos rfl]
    have n1 : (s.cmp long false p q).num = s.num := by unfold GS.cmp; split <;> rfl
    have n2 : (s1.cmp long false p q).num = s1.num := by unfold GS.cmp; split <;> rfl
    exact RM.go E long r (s := s.cmp long false p q) (s1 := s1.cmp long false p q) R1 (by rw [n1, n2]; exact hp) (by rw [n1, n2]; exact hl) fun x hx => ok x (List.mem_cons_of_mem _ hx)
  | (false, .meet p q) :: r, s, s1, R, hp, hl, ok => by
    have hpl : plc s.num ((false, Ev.meet p q) :: r) = plc s.num r := if_neg (by rw [show Ev.isLook (.meet p q) = false from by kernel_rfl]; exact Bool.false_ne_true)
    rw [hpl] at hp hl
    have hpq := ok _ List.mem_cons_self
    rw [if_neg Bool.false_ne_true] at hpq
    have R1 := R.cmp2 (p := f + p) (q := f + q) (Nat.le_add_right _ _) (Nat.add_lt_add_left hpq.1 f) (Nat.le_add_right _ _) (Nat.add_lt_add_left hpq.2 f) long true
    rw [firsts_cons, if_neg Bool.false_ne_true]
    have n1 : (s.cmp long true (f + p) (f + q)).num = s.num := by unfold GS.cmp; split <;> rfl
    exact RM.go E long r (s := s.cmp long true (f + p) (f + q)) R1 (by rw [n1]; exact hp) (by rw [n1]; exact hl) fun x hx => ok x (List.mem_cons_of_mem _ hx)
  | (false, .tell p q) :: r, s, s1, R, hp, hl, ok => by
    have hpl : plc s.num ((false, Ev.tell p q) :: r) = plc s.num r := if_neg (by rw [show Ev.isLook (.tell p q) = false from by kernel_rfl]; exact Bool.false_ne_true)
    rw [hpl] at hp hl
    have hpq := ok _ List.mem_cons_self
    rw [if_neg Bool.false_ne_true] at hpq
    have R1 := R.cmp2 (p := f + p) (q := f + q) (Nat.le_add_right _ _) (Nat.add_lt_add_left hpq.1 f) (Nat.le_add_right _ _) (Nat.add_lt_add_left hpq.2 f) long false
    rw [firsts_cons, if_neg Bool.false_ne_true]
    have n1 : (s.cmp long false (f + p) (f + q)).num = s.num := by unfold GS.cmp; split <;> rfl
    exact RM.go E long r (s := s.cmp long false (f + p) (f + q)) R1 (by rw [n1]; exact hp) (by rw [n1]; exact hl) fun x hx => ok x (List.mem_cons_of_mem _ hx)
end
end HF

/-! ## N7 -/
namespace HF
open PySem PySem.Spec PyProof.Rows L2
/-! ### two timetables in one: what is kept -/
structure Mix (t1 t2 : Tab) (tags : List Tag) : Prop where
  one : firsts tags = t1.evs
  two : seconds tags = t2.evs
  ok1 : ∀ e ∈ t1.evs, e.Ok t1.folk
  ok2 : ∀ e ∈ t2.evs, e.Ok t2.folk
  len : tags.length ≤ 60
section
variable {t1 t2 : Tab} {tags : List Tag}
abbrev Tab.mix (t1 t2 : Tab) (tags : List Tag) : Tab := mixT t1.folk t2.folk tags
theorem Mix.tag (M : Mix t1 t2 tags) : ∀ x ∈ tags, if x.1 = true then x.2.Ok t1.folk else x.2.Ok t2.folk := fun x hx => by
  cases h : x.1 with
  | true =>
    rw [if_pos rfl]
    exact M.ok1 _ (by rw [← M.one]; exact List.mem_map.mpr ⟨x, List.mem_filter.mpr ⟨hx, h⟩, rfl⟩)
  | false =>
    rw [if_neg Bool.false_ne_true]
    exact M.ok2 _ (by rw [← M.two]; exact List.mem_map.mpr ⟨x, List.mem_filter.mpr ⟨hx, by rw [h]; rfl⟩, rfl⟩)
theorem Mix.n1 (M : Mix t1 t2 tags) : (placesOf tags).length = t1.n := by
  rw [places_plc, plc_len, M.one, Tab.n_eq]
theorem Mix.get (M : Mix t1 t2 tags) {i : Nat} (hi : i < t1.n) : (placesOf tags)[i]? = some (emb tags i) := by
  unfold emb
  rw [List.getD_eq_getElem?_getD, List.getElem?_eq_getElem (by rw [M.n1]; exact hi)]
  rfl
theorem Mix.lt (M : Mix t1 t2 tags) {i : Nat} (hi : i < t1.n) : emb tags i < (t1.mix t2 tags).n := by
  obtain ⟨_, _, _, _, _, h, _⟩ := lk_both (f := t1.folk) (g := t2.folk) M.one hi
  exact h
theorem Mix.n60 (M : Mix t1 t2 tags) : (t1.mix t2 tags).n ≤ 60 := by
  rw [mix_n]
  refine Nat.le_trans ?_ M.len
  unfold turnsOf
  rw [List.length_map]
  exact List.length_filter_le _ _
theorem Mix.emb (M : Mix t1 t2 tags) : Emb (emb tags) t1.n := by
  have mono : ∀ i j, i < j → j < t1.n → HF.emb tags i < HF.emb tags j := fun i j hij hj => by
    have h1 := M.get (i := i) (by omega)
    have h2 := M.get hj
    obtain ⟨a1, b1⟩ := List.getElem?_eq_some_iff.mp h1
    obtain ⟨a2, b2⟩ := List.getElem?_eq_some_iff.mp h2
    have s : (placesOf tags).Pairwise (· < ·) := by rw [places_plc]; exact plc_sorted tags 0
    have := List.pairwise_iff_getElem.mp s i j a1 a2 hij
    rw [b1, b2] at this
    exact this
  have n1 : t1.n ≤ 60 := by
    rw [← M.n1]
    unfold placesOf
    rw [List.length_map]
    refine Nat.le_trans (List.length_filter_le _ _) ?_
    rw [List.length_zipIdx, ← mix_n (f := t1.folk) (g := t2.folk)]
    exact M.n60
  refine ⟨mono, fun i hi => ⟨by omega, ?_⟩⟩
  have := M.lt hi
  have := M.n60
  omega
theorem Mix.run (M : Mix t1 t2 tags) (long : Bool) : RM (HF.emb tags) t1.n t1.folk t2.folk ((t1.mix t2 tags).run long) (t1.run long) := by
  have h := RM.go (f := t1.folk) (g := t2.folk) M.emb long tags (s := GS.init (t1.folk + t2.folk)) (s1 := GS.init t1.folk)
    ⟨List.length_replicate, List.length_replicate, (fun p _ => by unfold GS.init; rw [rep_has, rep_has]; rfl), (fun p _ i hi => by unfold GS.init at hi; rw [rep_has] at hi; cases hi), (fun p _ x hx => by unfold GS.init at hx; rw [rep_has] at hx; cases hx),
      ⟨(fun i j h => by cases h), (fun x y h => by cases h)⟩, ⟨(fun i j h => by cases h), (fun x y h => by cases h)⟩, Nat.zero_le _, fun i hi => absurd hi (Nat.not_lt_zero i)⟩
    (fun j x hx => by
      have hx : (plc 0 tags)[j]? = some x := hx
      rw [← places_plc] at hx
      show HF.emb tags (0 + j) = x
      rw [Nat.zero_add]
      unfold HF.emb
      rw [List.getD_eq_getElem?_getD, hx]
      rfl)
    (by show 0 + (plc 0 tags).length = t1.n; rw [Nat.zero_add, ← places_plc, M.n1]) M.tag
  rw [M.one] at h
  exact h
theorem Mix.late (M : Mix t1 t2 tags) {i j : Nat} (hi : i < t1.n) (hj : j < t1.n) : (t1.mix t2 tags).late (HF.emb tags i) (HF.emb tags j) = t1.late i j := late_both M.one M.ok1 hi hj
/-- a relation of the first one's looks, and all of the others -/
def Up (tags : List Tag) (N : Nat) (α : Nat → Nat → Prop) (x y : Nat) : Prop := (∃ i j, i < N ∧ j < N ∧ HF.emb tags i = x ∧ HF.emb tags j = y ∧ α i j) ∨ (Off (HF.emb tags) N x ∧ Off (HF.emb tags) N y)
theorem Mix.up (M : Mix t1 t2 tags) {α β : Nat → Nat → Prop} (c : Closed t1.n t1.late α β) : Closed (t1.mix t2 tags).n (t1.mix t2 tags).late (Up tags t1.n α) (Up tags t1.n β) := by
  have E := M.emb
  refine ⟨fun x y h => ?_, fun x y _ _ hne h => ?_, fun x y z _ _ _ hne h1 h2 => ?_, fun x y z _ _ _ hne hne2 h1 h2 => ?_, fun x y _ _ hne h hl => ?_⟩
  · rcases h with ⟨i, j, hi, hj, e1, e2, h⟩ | ⟨h1, h2⟩
    · exact .inl ⟨j, i, hj, hi, e2, e1, c.sym i j h⟩
    · exact .inr ⟨h2, h1⟩
  · rcases h with ⟨i, j, hi, hj, e1, e2, h⟩ | h
    · exact .inl ⟨i, j, hi, hj, e1, e2, c.up i j hi hj (fun z => hne (by rw [← e1, ← e2, z])) h⟩
    · exact .inr h
  · rcases h1 with ⟨i, j, hi, hj, e1, e2, h⟩ | ⟨a, b⟩
    · rcases h2 with ⟨j', k, hj', hk, e3, e4, h'⟩ | ⟨a', _⟩
      · have ej := E.inj hj' hj (e3.trans e2.symm)
        subst ej
        exact .inl ⟨i, k, hi, hk, e1, e4, c.lo i j' k hi hj hk (fun z => hne (by rw [← e1, ← e4, z])) h h'⟩
      · exact absurd e2 (a' j hj)
    · rcases h2 with ⟨j', k, hj', hk, e3, e4, h'⟩ | ⟨_, b'⟩
      · exact absurd e3 (b j' hj')
      · exact .inr ⟨a, b'⟩
  · rcases h1 with ⟨i, j, hi, hj, e1, e2, h⟩ | ⟨a, b⟩
    · rcases h2 with ⟨j', k, hj', hk, e3, e4, h'⟩ | ⟨a', _⟩
      · have ej := E.inj hj' hj (e3.trans e2.symm)
        subst ej
        exact .inl ⟨i, k, hi, hk, e1, e4, c.al i j' k hi hj hk (fun z => hne (by rw [← e1, ← e4, z])) (fun z => hne2 (by rw [← e4, ← e2, z])) h h'⟩
      · exact absurd e2 (a' j hj)
    · rcases h2 with ⟨j', k, hj', hk, e3, e4, h'⟩ | ⟨_, b'⟩
      · exact absurd e3 (b j' hj')
      · exact .inr ⟨a, b'⟩
  · rcases h with ⟨i, j, hi, hj, e1, e2, h⟩ | h
    · refine .inl ⟨i, j, hi, hj, e1, e2, c.la i j hi hj (fun z => hne (by rw [← e1, ← e2, z])) h ?_⟩
      rw [← M.late hi hj, e1, e2]
      exact hl
    · exact .inr h
theorem AR.holds {N : Nat} {A A1 : Ps} {α : Nat → Nat → Prop} (R : AR (HF.emb tags) N A A1) (h : Holds A1 α) : Holds A (Up tags N α) := fun p hp => by
  rcases R.bw p.1 p.2 hp with ⟨i, j, h1, h2, h3⟩ | z
  · obtain ⟨a, b, _⟩ := R.fw i j h1
    exact .inl ⟨i, j, a, b, h2, h3, h _ h1⟩
  · exact .inr z
theorem Mix.beP (M : Mix t1 t2 tags) (long : Bool) {i j : Nat} (hi : i < t1.n) (hj : j < t1.n) : (t1.mix t2 tags).beP long [] (HF.emb tags i) (HF.emb tags j) ↔ t1.beP long [] i j := by
  have R := M.run long
  have E := M.emb
  constructor
  · intro h α β c hA _ hB
    rcases h (Up tags t1.n α) (Up tags t1.n β) (M.up c) (R.A.holds hA) (fun p hp => by cases hp) (R.B.holds hB) with ⟨a, b, ha, hb, e1, e2, z⟩ | ⟨z, _⟩
    · rw [E.inj ha hi e1, E.inj hb hj e2] at z
      exact z
    · exact absurd rfl (z i hi)
  · intro h α β c hA _ hB
    have inj : ∀ a b, a < t1.n → b < t1.n → a ≠ b → HF.emb tags a ≠ HF.emb tags b := fun a b ha hb z w => z (E.inj ha hb w)
    have c' : Closed t1.n t1.late (fun a b => α (HF.emb tags a) (HF.emb tags b)) (fun a b => β (HF.emb tags a) (HF.emb tags b)) :=
      ⟨fun a b z => c.sym _ _ z, fun a b ha hb hne z => c.up _ _ (M.lt ha) (M.lt hb) (inj a b ha hb hne) z, fun a b d ha hb hd hne z z' => c.lo _ _ _ (M.lt ha) (M.lt hb) (M.lt hd) (inj a d ha hd hne) z z',
        fun a b d ha hb hd hne hne2 z z' => c.al _ _ _ (M.lt ha) (M.lt hb) (M.lt hd) (inj a d ha hd hne) (inj d b hd hb hne2) z z', fun a b ha hb hne z hl => c.la _ _ (M.lt ha) (M.lt hb) (inj a b ha hb hne) z (by rw [M.late ha hb]; exact hl)⟩
    exact h _ _ c' (fun p hp => hA _ (R.A.fw p.1 p.2 hp).2.2) (fun p hp => by cases hp) fun p hp => hB _ (R.B.fw p.1 p.2 hp).2.2
theorem Mix.cross (M : Mix t1 t2 tags) (long : Bool) {i x : Nat} (hi : i < t1.n) (hx : Off (HF.emb tags) t1.n x) : ¬ (t1.mix t2 tags).beP long [] (HF.emb tags i) x := fun h => by
  have R := M.run long
  have c : Closed t1.n t1.late (fun _ _ => True) (fun _ _ => True) := ⟨fun _ _ _ => trivial, fun _ _ _ _ _ _ => trivial, fun _ _ _ _ _ _ _ _ _ => trivial, fun _ _ _ _ _ _ _ _ _ _ => trivial, fun _ _ _ _ _ _ _ => trivial⟩
  rcases h (Up tags t1.n fun _ _ => True) (Up tags t1.n fun _ _ => True) (M.up c) (R.A.holds fun _ _ => trivial) (fun p hp => by cases hp) (R.B.holds fun _ _ => trivial) with ⟨a, b, ha, hb, e1, e2, _⟩ | ⟨z, _⟩
  · exact hx b hb e2
  · exact z i hi rfl
theorem mem_branch {t : Tab} {long : Bool} {i l : Nat} : l ∈ t.branch long i ↔ l < t.n ∧ (l = i ∨ t.beP long [] i l) := by
  unfold Tab.branch Tab.be
  rw [List.mem_filter, List.mem_range, Bool.or_eq_true, decide_eq_true_iff]
  constructor
  · rintro ⟨h1, h2 | h2⟩
    · exact ⟨h1, .inl h2⟩
    · exact ⟨h1, .inr (@of_decide_eq_true _ (_) h2)⟩
  · rintro ⟨h1, h2 | h2⟩
    · exact ⟨h1, .inl h2⟩
    · exact ⟨h1, .inr (@decide_eq_true _ (_) h2)⟩
theorem Mix.kept (M : Mix t1 t2 tags) (h2 : t2.folk = 2) (long : Bool) {i : Nat} (hi : i < t1.n) : (t1.mix t2 tags).kept long (HF.emb tags i) = t1.kept long i ++ [t1.folk, t1.folk + 1] := by
  have R := M.run long
  have E := M.emb
  have hfolk : (t1.mix t2 tags).folk = t1.folk + 2 := by show t1.folk + t2.folk = _; rw [h2]
  unfold Tab.kept
  rw [hfolk, List.range_add, List.filter_append]
  congr 1
  · refine List.filter_congr fun p hp => ?_
    have hp := List.mem_range.mp hp
    congr 1
    have e1 : (t1.mix t2 tags).has long p = (t1.has long p).map (HF.emb tags) := R.has1 p hp
    rw [e1, List.any_map]
    refine any_on fun l hl => ?_
    have hl : l < t1.n := R.bN hp l hl
    show decide (HF.emb tags l ∈ _) = decide (l ∈ _)
    refine decide_eq_decide.mpr ?_
    rw [mem_branch, mem_branch, M.beP long hi hl]
    exact ⟨fun ⟨_, z⟩ => ⟨hl, z.imp (E.inj hl hi) id⟩, fun ⟨_, z⟩ => ⟨M.lt hl, z.imp (congrArg _) id⟩⟩
  · have hall : ∀ p ∈ (List.range 2).map (t1.folk + ·), (!((t1.mix t2 tags).has long p).any fun l => decide (l ∈ (t1.mix t2 tags).branch long (HF.emb tags i))) = true := fun p hp => by
      obtain ⟨q, _, rfl⟩ := List.mem_map.mp hp
      rw [Bool.not_eq_true', Bool.eq_false_iff]
      intro z
      obtain ⟨l, hl, hm⟩ := List.any_eq_true.mp z
      have off := R.has2 _ (Nat.le_add_right _ _) l hl
      obtain ⟨_, hm⟩ := mem_branch.mp (of_decide_eq_true hm)
      rcases hm with w | w
      · exact off i hi w.symm
      · exact M.cross long hi off w
    rw [List.filter_eq_self.mpr hall]
    rfl
end
end HF

/-! ## N8 -/
namespace HF
open PySem PySem.Spec PyProof.Rows L2
section
variable {t : Tab} {ns left : List Nat}
theorem nam_of (h : (ns ++ left).Perm (List.range (t.folk + 2))) (hl : ns.length = t.folk) (ok : ∀ e ∈ t.evs, e.Ok t.folk) : Nam t ns (t.folk + 2) ∧ (∀ q, q ∈ left ↔ q < t.folk + 2 ∧ q ∉ ns) ∧ left.Nodup ∧ left.length = 2 := by
  have nd : (ns ++ left).Nodup := h.nodup_iff.mpr List.nodup_range
  rw [List.nodup_append] at nd
  obtain ⟨n1, n2, n3⟩ := nd
  have hlen := h.length_eq
  rw [List.length_append, List.length_range, hl] at hlen
  refine ⟨⟨n1, hl, fun x hx => List.mem_range.mp (h.mem_iff.mp (List.mem_append_left _ hx)), ok⟩, fun q => ⟨fun hq => ⟨List.mem_range.mp (h.mem_iff.mp (List.mem_append_right _ hq)), fun z => n3 q z q hq rfl⟩, fun ⟨h1, h2⟩ => ?_⟩, n2, by omega⟩
  rcases List.mem_append.mp (h.mem_iff.mpr (List.mem_range.mpr h1)) with z | z
  · exact absurd z h2
  · exact z
theorem move_ok {F : Nat} (N : Nam t ns F) {e : Ev} (h : e.Ok t.folk) : (moveE ns e).Ok F := by
  cases e with
  | look p => exact N.lt h
  | add p => exact N.lt h
  | meet p q => exact ⟨N.lt h.1, N.lt h.2⟩
  | tell p q => exact ⟨N.lt h.1, N.lt h.2⟩
theorem ren_ok {F : Nat} (N : Nam t ns F) (hF : F ≤ 40) (hl : t.evs.length ≤ 30) : (t.ren ns F).Ok := by
  refine ⟨by show (t.evs.map _).length ≤ 30; rw [List.length_map]; exact hl, hF, fun e he => ?_⟩
  obtain ⟨x, hx, rfl⟩ := List.mem_map.mp he
  exact move_ok N (N.evs x hx)
end
theorem mix_ok {t1 t2 : Tab} {tags : List Tag} (M : Mix t1 t2 tags) (hl : tags.length ≤ 30) (hf : t1.folk + t2.folk ≤ 40) : (t1.mix t2 tags).Ok := by
  refine ⟨by show (tags.map _).length ≤ 30; rw [List.length_map]; exact hl, hf, fun e he => ?_⟩
  obtain ⟨x, hx, rfl⟩ := List.mem_map.mp he
  have := M.tag x hx
  show (tagE t1.folk x).Ok (t1.folk + t2.folk)
  unfold tagE
  split
  · rename_i h
    rw [if_pos h] at this
    revert this
    cases x.2 with
    | look p => exact fun (z : p < _) => (by show p < _; omega)
    | add p => exact fun (z : p < _) => (by show p < _; omega)
    | meet p q => exact fun (z : p < _ ∧ q < _) => (by show p < _ ∧ q < _; omega)
    | tell p q => exact fun (z : p < _ ∧ q < _) => (by show p < _ ∧ q < _; omega)
  · rename_i h
    rw [if_neg h] at this
    revert this
    cases x.2 with
    | look p => exact fun (z : p < _) => (by show _ + p < _; omega)
    | add p => exact fun (z : p < _) => (by show _ + p < _; omega)
    | meet p q => exact fun (z : p < _ ∧ q < _) => (by show _ + p < _ ∧ _ + q < _; omega)
    | tell p q => exact fun (z : p < _ ∧ q < _) => (by show _ + p < _ ∧ _ + q < _; omega)
theorem tags_len {tags : List Tag} : tags.length = (firsts tags).length + (seconds tags).length := by
  unfold firsts seconds
  rw [List.length_map, List.length_map]
  induction tags with
  | nil => rfl
  | cons x l ih =>
    rw [List.filter_cons, List.filter_cons, List.length_cons]
    cases x.1 with
    | true => rw [if_pos rfl, if_neg (by simp), List.length_cons]; omega
    | false => rw [if_neg Bool.false_ne_true, if_pos (by simp), List.length_cons]; omega
theorem mix_of {t1 t2 : Tab} {tags : List Tag} (h1 : firsts tags = t1.evs) (h2 : seconds tags = t2.evs) (o1 : ∀ e ∈ t1.evs, e.Ok t1.folk) (o2 : ∀ e ∈ t2.evs, e.Ok t2.folk) (hl : t1.evs.length + t2.evs.length ≤ 30) : Mix t1 t2 tags ∧ tags.length ≤ 30 := by
  have : tags.length ≤ 30 := by rw [tags_len, h1, h2]; exact hl
  exact ⟨⟨h1, h2, o1, o2, by omega⟩, this⟩
theorem cutD_init (l : List D) (c : D) : cutD (l ++ [c]) none (some (-1)) = l := by
  unfold cutD
  have e2 : HT.sIx (l ++ [c]).length (l ++ [c]).length (some (-1)) = l.length := by
    have : HT.sIx (l ++ [c]).length (l ++ [c]).length (some (-1)) = ((-1 : Int) + (((l ++ [c]).length : Nat) : Int)).toNat := rfl
    rw [this, List.length_append, List.length_singleton]
    omega
  rw [e2]
  have e1 : HT.sIx (l ++ [c]).length 0 none = 0 := rfl
  rw [e1]
  simp
/-! ### what is compared is flat data -/
theorem fl_nats (n : Nat) (l : List Nat) (h : l.length < 1000) : (D.lst (l.map nD)).fl (n + 1) = true := by
  unfold D.fl
  rw [Bool.and_eq_true, List.length_map]
  refine ⟨List.all_eq_true.mpr fun x hx => ?_, decide_eq_true h⟩
  obtain ⟨y, _, rfl⟩ := List.mem_map.mp hx
  cases n <;> rfl
theorem fl_optD (n : Nat) (o : Option Nat) : (optD o).fl n = true := by cases o <;> cases n <;> rfl
theorem fl_renD {ns il kp : List Nat} {mid : List D} {crowds : List (List Int)} {c : Option Ps} (hm : ∀ d ∈ mid, d.fl 2 = true) (hl : mid.length < 900) (hc : crowds.length < 900) (hk : ∀ k ∈ crowds, k.length < 900) : (D.lst (renD ns il kp mid crowds c)).fl 3 = true := by
  unfold D.fl renD
  rw [Bool.and_eq_true]
  constructor
  · refine List.all_eq_true.mpr fun d hd => ?_
    rcases List.mem_append.mp hd with z | z
    · rcases List.mem_cons.mp z with w | w
      · rw [w]
        refine fl_nats 1 _ ?_
        have : (uni (kp.map (nm ns) ++ il)).length ≤ 64 := by
          unfold uni
          refine Nat.le_trans (List.length_filter_le _ _) ?_
          rw [List.length_range]
          exact Nat.le_refl _
        omega
      · exact hm d w
    · rcases List.mem_cons.mp z with w | w
      · rw [w]
        unfold D.fl
        rw [Bool.and_eq_true, List.length_map]
        refine ⟨List.all_eq_true.mpr fun x hx => ?_, decide_eq_true (by omega)⟩
        obtain ⟨k, hk1, rfl⟩ := List.mem_map.mp hx
        unfold encI D.fl
        rw [Bool.and_eq_true, List.length_map]
        refine ⟨List.all_eq_true.mpr fun x hx => ?_, decide_eq_true (by have := hk k hk1; omega)⟩
        obtain ⟨y, _, rfl⟩ := List.mem_map.mp hx
        rfl
      · rw [List.mem_singleton.mp w]
        cases c <;> rfl
  · rw [List.length_append, List.length_cons]
    exact decide_eq_true (by simp only [List.length_cons, List.length_nil]; omega)
theorem fl_mid (t : Tab) (kind : Str) (i : Nat) : ∀ d ∈ midD t kind i, d.fl 2 = true := fun d hd => by
  unfold midD at hd
  rcases List.mem_append.mp hd with z | z
  · obtain ⟨p, _, rfl⟩ := List.mem_map.mp z
    exact fl_optD _ _
  · obtain ⟨p, _, rfl⟩ := List.mem_map.mp z
    rfl
theorem mid_len (t : Tab) (kind : Str) (i : Nat) : (midD t kind i).length = t.folk + t.folk := by
  unfold midD
  rw [List.length_append, List.length_map, List.length_map, List.length_range]
end HF

/-! ## Q16 -/
namespace HF
open PySem PySem.Spec PyProof.Rows L2 NdefX
variable {P : Program} {w : World} {K : PySem.W.Frag} {mg : Str → Option Value} {base : Heap}
theorem erase_perm : ∀ (l : List Nat) (r : Nat) (h : r < l.length), (l[r] :: l.eraseIdx r).Perm l
  | x :: l, 0, _ => List.Perm.refl _
  | x :: l, r + 1, h => (List.Perm.swap x _ _).trans ((erase_perm l r (Nat.lt_of_succ_lt_succ h)).cons x)
theorem erase_map {α β : Type} (f : α → β) : ∀ (l : List α) (r : Nat), (l.map f).eraseIdx r = (l.eraseIdx r).map f
  | [], _ => rfl
  | x :: l, 0 => rfl
  | x :: l, r + 1 => congrArg (f x :: ·) (erase_map f l r)
theorem LcOut_t {acc : List D} {μ : Sto} {Q : DK} (h : Q (.pr μ.length) (μ ++ [.lst acc])) : LcOut true acc μ Q := h
theorem auds_len {t : Tab} {kind : Str} {i : Nat} {kl : List (List Nat)} (h : Auds t kind i (kl.map natI)) (h6 : t.n ≤ 6) : kl.length ≤ 32 := by
  have hsl : (setsM t kind i).length ≤ 32 := Nat.le_trans (List.length_filter_le _ _) (allSets_len h6)
  have := nodup_len h.nd (m := (setsM t kind i).map fun s => natI (peopleM t kind s)) fun k hk => by
    obtain ⟨s, hs, e⟩ := (h.mem k).mp hk
    exact List.mem_map.mpr ⟨s, hs, e.symm⟩
  rw [List.length_map, List.length_map] at this
  omega
def spRight : ASp := fun ds μ R => ∃ pre post k b, ds = [.pr k] ∧ pre.length = k ∧ μ = pre ++ bx b :: post ∧ BOk 0 b ∧ ∀ b', R (.bl true) (pre ++ bx b' :: post)
set_option maxHeartbeats 4000000 in
theorem ok_right (G : Facts K mg) (U : SupF P K mg G) : AOk P w K mg base 41 G.lawRight.f G.lawRight.fd ["_law_box_here"] spRight := by
  refine fnA G.lawRight.F sc_lawRight (fun ds μ R h => ?_) fun cdv Ar outer s H E ds μ R hr h => ?_
  · obtain ⟨pre, post, k, b, rfl, _⟩ := h
    rfl
  · obtain ⟨pre, post, k, b, rfl, hk, rfl, ok, q⟩ := h
    have nd := sc_lawRight.nd
    have hu := hu_of hr
    have hr' : ∀ {n : Nat}, n ≤ 40 → Room n (Ar.deeper (envOfC "_law_right" (defScope s_lawRight) s.heap.objs.size G.lawRight.f cdv)) := fun h => hr.mono h
    refine aSs_cons (aS_forL (L := [("long" : Str), "short"]) (enc := D.str) (wi_tup (ev_tup (va_cons ev_str (va_cons ev_str va_nil))))
      (fun L ρ μ' => ∃ o1 o2 o3 o4 o5 o6 o7 o8 o9 o10 o11 o12 o13 o14 o15 o16 b' ext, ρ = [some (.pr k), o1, o2, o3, o4, o5, o6, o7, o8, o9, o10, o11, o12, o13, o14, o15, o16, none, none] ∧ μ' = pre ++ bx b' :: (post ++ ext) ∧ BOk (300 * L.length) b')
      ⟨none, none, none, none, none, none, none, none, none, none, none, none, none, none, none, none, b, [], rfl, by rw [List.append_nil], ok⟩ (fun L kind rest ρ' μ' hL z => ?_) (fun ρ' μ' z => ?_))
    · obtain ⟨o1, o2, o3, o4, o5, o6, o7, o8, o9, o10, o11, o12, o13, o14, o15, o16, b, ext, rfl, rfl, ok⟩ := z
      have hLl : L.length ≤ 1 := by
        have := congrArg List.length hL
        rw [List.length_append, List.length_cons] at this
        simp only [List.length_cons, List.length_nil] at this
        omega
      generalize hc : 300 * L.length = c at ok
      have hcc : c ≤ 300 := by omega
      refine aG_name (i := 1) ?_ nd
      refine aSs_cons (aS_set (i := 2) (aE_def G.lawLive (ok_live G) (hr.mono (by decide)) (aA_cons (aE_ev (ev_v 0) (aA_cons ?_)))) nd)
      refine aE_op (aE_ev ev_int (aE_take G (hr.mono (by decide)) (ev_v 0) (n := 2) ev_int hk ok (by omega) (by decide) (by decide) fun r1 b1 hr1 ok1 => aop_addI ?_))
      refine aA_cons (aE_op (aE_ev ev_int (aE_take G (hr.mono (by decide)) (ev_v 0) (n := 3) ev_int hk ok1 (by omega) (by decide) (by decide) fun r2 b2 hr2 ok2 => aop_addI ?_)))
      refine aA_cons (aE_ev ev_int (aA_nil ⟨pre, post ++ ext, k, b2, c + 1 + 1, 3 + r1, 7 + r2, 4, rfl, hk, rfl, ok2, by omega, by omega, by omega, by omega, by omega, by decide, fun fs b3 hfs hfl hfm hf1 ok3 => ?_⟩))
      have hn0 : (⟨3 + r1, fs⟩ : Tab).n = looksN fs := looksN_eq _ _
      generalize ht : (⟨3 + r1, fs⟩ : Tab) = t at hn0
      have htf : t.folk = 3 + r1 := by rw [← ht]
      have hte : t.evs = fs := by rw [← ht]
      have tok : ∀ e ∈ t.evs, e.Ok t.folk := by rw [htf, hte]; exact hfs
      have hel : t.evs.length ≤ 10 := by rw [hte]; omega
      have hn4 : t.n ≤ 4 := by omega
      have hn1 : 1 ≤ t.n := by omega
      have hf3 : t.folk ≤ 4 := by omega
      have hf0 : 3 ≤ t.folk := by omega
      have tOk : t.Ok := ⟨by omega, by omega, tok⟩
      clear ht hn0 hfs hfl hfm hf1
      generalize hc3 : c + 1 + 1 + 3 * (7 + r2) + 1 = c3 at ok3
      have hcc3 : c3 ≤ 340 := by omega
      refine aSs_cons ?_
      refine aS_asg (aE_tup (aA_cons (aE_def G.lawWeb (ok_web G) (hr.mono (by decide)) (aA_ev (va_cons (ev_v 2) (va_cons (ev_v 1) va_nil)) ⟨t, kind, rfl, by omega, tok, by omega, by omega, fun spots own hs N L ext2 hsp hhs => ?_⟩)))) ?_ ?_ ?_
      rotate_left
      · rfl
      · rfl
      · rfl
      refine aA_cons (aE_ev (ev_t (i := 0) (ev_v 2)) (aA_cons (aE_listRg (c := true) (n := t.folk + 2) (ev_addN (i := t.folk) (j := 2) (ev_t (i := 0) (ev_v 2)) ev_2) (by omega) (LcOut_t (aA_nil ⟨by show 3 ≤ sizeLine; decide, ?_⟩)) G.n_list G.n_range)))
      refine aG_tup (aGs_cons (aG_name (i := 3) (aGs_cons (aG_name (i := 4) (aGs_cons (aG_name (i := 5) (aGs_nil ?_) nd)) nd)) nd))
      generalize hpost1 : post ++ ext = post1
      have hM : ∀ b' : Int × Int × Int, (pre ++ bx b' :: post1).length = (pre ++ bx b3 :: post1).length := fun b' => by rw [List.length_append, List.length_append]; rfl
      generalize hm : (pre ++ bx b3 :: post1).length = m at hM
      generalize hpost2 : post1 ++ (webC m spots own hs N L ++ ext2) = post2
      have e2 : ∀ (b' : Int × Int × Int) (x : Cell), pre ++ bx b' :: (post2 ++ [x]) = (pre ++ bx b' :: post1) ++ ((webC m spots own hs N L ++ ext2) ++ [x]) := fun b' x => by
        rw [← hpost2]
        simp only [List.append_assoc, List.cons_append]
      have hml : ∀ b' : Int × Int × Int, (pre ++ bx b' :: post2).length = m + (6 + ext2.length) := fun b' => by
        rw [← hpost2, ← List.cons_append, ← List.append_assoc, List.length_append, hM, List.length_append]
        rfl
      have gw : ∀ (b' : Int × Int × Int) (x : Cell) (i : Nat) (c : Cell), (webC m spots own hs N L)[i]? = some c → (pre ++ bx b' :: (post2 ++ [x]))[m + i]? = some c := fun b' x i c h => by
        rw [e2, get_at (hM b'), List.append_assoc, List.getElem?_append_left (List.getElem?_eq_some_iff.mp h).1]
        exact h
      have e3 : ∀ (b' : Int × Int × Int) (x : Cell), pre ++ bx b' :: (post2 ++ [x]) = (pre ++ bx b' :: post2) ++ [x] := fun b' x => by rw [List.append_assoc, List.cons_append]
      have gl : ∀ (b' : Int × Int × Int) (x : Cell), (pre ++ bx b' :: (post2 ++ [x]))[m + (6 + ext2.length)]? = some x := fun b' x => by
        rw [e3, ← hml b']; exact last_get
      have sl : ∀ (b' : Int × Int × Int) (x y : Cell), (pre ++ bx b' :: (post2 ++ [x])).set (m + (6 + ext2.length)) y = pre ++ bx b' :: (post2 ++ [y]) := fun b' x y => by
        rw [e3, ← hml b', e3]; exact last_set
      generalize m + (6 + ext2.length) = ml at hml gl sl
      refine aSs_cast (μ' := pre ++ bx b3 :: (post2 ++ [.lst ((List.range (t.folk + 2)).map nD)])) (by rw [e3, ← hpost2]; simp only [List.append_assoc, List.cons_append]; rfl) ?_
      have eml : (pre ++ bx b3 :: post1 ++ (webC m spots own hs N L ++ ext2)).length = ml := by
        rw [← hml b3, ← hpost2]
        simp only [List.append_assoc, List.cons_append]
      rw [eml]
      refine aSs_cons (aS_set (i := 6) (aE_lc (c := false) (own := [("_law_p", 17)]) (lcs (L := List.range t.folk) (enc := nD) (cc := false) (wi_range (n := t.folk) G.n_range (ev_v 4) (by omega)) (by rw [List.length_range, sizeLine_eq]; omega)
        (fun L acc μ' => ∃ (ns left : List Nat) (b' : Int × Int × Int), acc = ns.map nD ∧ ns.length = L.length ∧ (ns ++ left).Perm (List.range (t.folk + 2)) ∧ L.length ≤ t.folk ∧ BOk (c3 + L.length) b' ∧ μ' = pre ++ bx b' :: (post2 ++ [.lst (left.map nD)]))
        ⟨[], List.range (t.folk + 2), b3, rfl, rfl, List.Perm.refl _, Nat.zero_le _, ok3, rfl⟩ (fun L x rest acc μ' hL ⟨ns, left, b', q1, q2, q3, q4, ok', q5⟩ => ?_) (fun acc μ' ⟨ns, left, b4, q1, q2, q3, q4, ok4, q5⟩ => ?_)) (blkOk_by (by kernel_rfl)) nd) nd)
      · subst q1 q5
        have hLf : L.length + 1 ≤ t.folk := by
          have := congrArg List.length hL
          rw [List.length_range, List.length_append, List.length_cons] at this
          omega
        have hlen := q3.length_eq
        rw [List.length_append, List.length_range, q2] at hlen
        intro s H C cl fp
        refine aGc_name (i := 17) ?_ nd
        intro s H C cl fp
        refine aTs_mono tvs_nil fun kk μ3 ⟨e6, e7⟩ => ?_
        subst e6 e7
        rw [if_pos rfl]
        intro s H C cl fp
        refine aE_lm PySem.F.plainAttrs_list PySem.F.slot_list_pop PySem.F.type_list_pop (aE_ev (ev_v 5) ⟨⟨_, .p (gl _ _)⟩, aA_cons (aE_take G (hr.mono (by decide)) (ev_v 0) (n := left.length) (ev_cast (ev_len G.n_len (ev_v 5) (.l (.p (gl _ _)))) (by rw [List.length_map])) hk ok' (by omega) (by omega) (by omega) fun r b2 hr2 ok2 => aA_nil (amt_popAt (j := r) (d := nD left[r]) (gl _ _) rfl (by rw [List.getElem?_map, List.getElem?_eq_getElem hr2]; rfl) (by rw [List.length_map]; omega) ?_))⟩)
        refine ⟨ns ++ [left[r]], left.eraseIdx r, b2, by rw [List.map_append]; rfl, by rw [List.length_append, List.length_append, q2]; rfl, ?_, by rw [List.length_append]; exact hLf, by rw [List.length_append]; exact ok2, ?_⟩
        · rw [List.append_assoc]
          exact (List.Perm.append_left ns (erase_perm left r hr2)).trans q3
        · rw [sl, erase_map]
      · subst q1 q5
        rw [List.length_range] at q2 ok4
        obtain ⟨NN, hil, ndl, ll2⟩ := nam_of q3 q2 tok
        generalize hlc : Cell.lst (left.map nD) = lc at gl sl
        have gll : ∀ b', (pre ++ bx b' :: (post2 ++ [lc]))[ml]? = some (.lst (left.map nD)) := fun b' => by rw [gl, hlc]
        generalize hc4 : c3 + t.folk = c4 at ok4
        have hcc4 : c4 ≤ 344 := by omega
        refine aSs_cons (aS_par (i := 7) (j := 8) (aE_def G.lawDrawWants (ok_drawWants G) (hr.mono (by decide)) (aA_ev (va_cons (ev_v 0) (va_cons (ev_v 3) (va_cons ev_int va_nil))) ⟨pre, post2 ++ [lc], k, b4, c4, m, m + 1, m + 2, m + 3, m + 4, m + 5, spots, hs, 3, rfl, hk, rfl, ok4, by omega, fun b' => gw b' lc 0 _ rfl, fun b' => gw b' lc 1 _ rfl, fun b' => gw b' lc 3 _ rfl, by omega, by omega, by omega, by omega, by decide, fun ws b5 hws hwl ok5 => ?_⟩)) nd)
        refine aE_listRg (c := false) (n := t.folk) (ev_v 4) (by omega) (LcOut_f ?_) G.n_list G.n_range
        rw [hsp, hhs] at hws
        generalize hc5 : c4 + 4 + 2 * 3 = c5 at ok5
        have hcc5 : c5 ≤ 354 := by omega
        have ht2 : (t.ren ns (t.folk + 2)).enc = .tup [nD (t.folk + 2), .tup ((t.evs.map (moveE ns)).map Ev.enc)] := rfl
        refine aSs_cons (aS_set (i := 9) (aE_ev (d := (t.ren ns (t.folk + 2)).enc) (ev_cast (ev_tup (va_cons (ev_addN (i := t.folk) (j := 2) (ev_v 4) ev_2) (va_cons (ev_tuple (xs := (t.evs.map (moveE ns)).map Ev.enc) G.n_tuple (aE_lc (c := false) (own := [("_law_deed", 18)]) (lcm (L := t.evs) (enc := Ev.enc) (g := fun e => (moveE ns e).enc) (env := fun e => [some (.pr k), some (.str kind), some t.enc, some (.pr m), some (nD t.folk), some (.pr ml), some (.lst (ns.map nD)), some (.lst (ws.map pD)), some (.lst ((List.range t.folk).map nD)), o9, o10, o11, o12, o13, o14, o15, o16, none, some e.enc]) ?_ ?_ ?_ ?_ ⟨by rw [List.map_map]; rfl, rfl⟩) (blkOk_by (by kernel_rfl)) nd) .l) va_nil))) rfl) ?_) nd)
        · exact vi_tup (ev_t (i := 1) (ev_v 2))
        · rw [sizeLine_eq]; omega
        · intro o _ s H C cl fp
          exact aGc_name (i := 18) ⟨rfl, rfl⟩ nd
        · intro e he s H C cl fp
          exact aE_def G.lawMoved (ok_moved G) (hr.mono (by decide)) (aA_ev (va_cons (ev_v 18) (va_cons (ev_v 6) va_nil)) ⟨e, ns, rfl, by rw [q2]; exact tok e he, rfl, rfl⟩)
        have rOk := ren_ok NN (by omega) tOk.len
        have v1 : valD (webD (m + 1) (m + 2) (m + 3) (m + 4) (m + 5)) (.inr ("spots" : Str)) = some (.pr (m + 1)) := by kernel_rfl
        refine aSs_cons (aS_forL (L := List.range t.n) (enc := nD) (wi_range (n := t.n) G.n_range (ev_cast (ev_len G.n_len (aE_dget hu (ev_v 3) ev_str (gw b5 lc 0 _ rfl) rfl v1 ⟨rfl, rfl⟩) (.l (.p (gw b5 lc 1 _ rfl)))) (by rw [List.length_map, hsp])) (by omega))
          (fun _ ρ μ' => ∃ o10 o11 o12, ρ = [some (.pr k), some (.str kind), some t.enc, some (.pr m), some (nD t.folk), some (.pr ml), some (.lst (ns.map nD)), some (.lst (ws.map pD)), some (.lst ((List.range t.folk).map nD)), some (t.ren ns (t.folk + 2)).enc, o10, o11, o12, o13, o14, o15, o16, none, none] ∧ μ' = pre ++ bx b5 :: (post2 ++ [lc])) ⟨o10, o11, o12, rfl, rfl⟩ (fun pr2 i rest2 ρ' μ' hL2 z => ?_) (fun ρ' μ' z => ?_))
        · obtain ⟨o10, o11, o12, rfl, rfl⟩ := z
          have hi : i < t.n := List.mem_range.mp (by rw [hL2]; simp)
          refine aG_name (i := 10) ?_ nd
          refine aSs_cons (aS_set (i := 11) (aE_def G.lawRenamed (ok_renamed G) (hr.mono (by decide)) (aA_cons (aE_def G.lawAllTold (ok_allTold G U) hr (aA_ev (va_cons (ev_v 2) (va_cons (ev_v 1) (va_cons (ev_v 10) (va_cons (ev_v 8) (va_cons (ev_v 7) va_nil))))) ⟨t, kind, i, List.range t.folk, ws, rfl, tOk, by omega, hi, by omega, fun p hp => List.mem_range.mp hp, by rw [List.length_range]; omega, fun q hq => by rw [List.length_range]; exact hws q hq, by omega, people_ne tok hi (by omega), fun ks l ha nl ml1 => ?_⟩)))) nd)
          obtain ⟨kl, rfl, hkl⟩ := auds_list ha
          rw [toldD_mid]
          refine aA_ev (va_cons (ev_v 6) (va_cons (ev_v 5) va_nil)) ⟨t.kept (decide (kind = "long")) i, midD t kind i, kl, clashM t kind l, ns, left, .pr ml, rfl, .p (gll b5), ?_, ?_, ?_, ?_, by omega, ?_, ?_, ?_, ?_, fun crowds pm so => ?_⟩
          · intro x hx
            rw [q2]
            exact List.mem_range.mp (List.mem_filter.mp hx).1
          · intro x hx
            have := NN.bd x hx
            omega
          · rw [List.nodup_append]
            refine ⟨nodup_map_on (List.Pairwise.filter _ List.nodup_range) fun x hx y hy e => NN.inj (List.mem_range.mp (List.mem_filter.mp hx).1) (List.mem_range.mp (List.mem_filter.mp hy).1) e, ndl, fun x hx y hy e => ?_⟩
            obtain ⟨p, hp, rfl⟩ := List.mem_map.mp hx
            exact ((hil y).mp hy).2 (by rw [← e]; exact nm_mem (by rw [q2]; exact List.mem_range.mp (List.mem_filter.mp hp).1))
          · intro x hx
            have := ((hil x).mp hx).1
            omega
          · have : (t.kept (decide (kind = "long")) i).length ≤ t.folk := by
              refine Nat.le_trans (List.length_filter_le _ _) ?_
              rw [List.length_range]
              exact Nat.le_refl _
            omega
          · have := auds_len ha (by omega)
            omega
          · rw [mid_len]; omega
          · intro k0 hk0
            obtain ⟨s0, hs0, rfl⟩ := hkl k0 hk0
            refine ⟨people_ne tok hi (by omega) s0 hs0, fun x hx => by rw [q2]; exact people_lt x hx, nodup_map_on people_nd fun x hx y hy e => NN.inj (people_lt x hx) (people_lt y hy) e, ?_⟩
            have : (peopleM t kind s0).length ≤ t.folk := by
              refine Nat.le_trans (List.length_filter_le _ _) ?_
              rw [List.length_range]
              exact Nat.le_refl _
            omega
          refine aSs_cons (aS_set (i := 12) (aE_def G.lawAllTold (ok_allTold G U) hr (aA_ev (va_cons (ev_v 9) (va_cons (ev_v 1) (va_cons (ev_v 10) (va_cons (ev_v 6) (va_cons (ev_v 7) va_nil))))) ⟨t.ren ns (t.folk + 2), kind, i, ns, ws, rfl, rOk, by show (t.evs.map _).length ≤ 20; rw [List.length_map]; omega, by rw [ren_n]; exact hi, by rw [ren_n]; omega, fun p hp => NN.bd p hp, by omega, fun q hq => by rw [ren_n, q2]; exact hws q hq, by omega, people_ne rOk.evs (by rw [ren_n]; exact hi) (by omega), fun ks' l' ha' nl' ml' => ?_⟩)) nd)
          have law := told_law NN (by omega) hil (fun q hq => (hws q hq).2) ha ha' nl ml1 nl' ml' pm so
          generalize hT : toldD (t.ren ns (t.folk + 2)) kind i ns ks' l' = T at law
          obtain ⟨T0, hT0⟩ : ∃ T0, T = T0 ++ [optC (clashM (t.ren ns (t.folk + 2)) kind l')] := ⟨_, hT.symm⟩
          rw [hT0, List.dropLast_concat] at law
          subst hT0
          have hlT : T0.length ≤ 100 := by
            have := congrArg List.length hT
            unfold toldD at this
            simp only [List.length_append, List.length_cons, List.length_map, List.length_nil, List.length_singleton] at this
            omega
          refine aSs_one (aS_if (aT_not (aT_val (aE_def G.lawSame (ok_same G 3) (hr.mono (by decide)) (aA_ev (va_cons (ev_cast (y := .lst (renD ns left (t.kept (decide (kind = "long")) i) (midD t kind i) crowds (clashM t kind l))) (ev_cat (xs := T0) (ys := [manyD (clashM (t.ren ns (t.folk + 2)) kind l')]) (ev_slN (lo := none) (hi := some (-1)) (ev_v 12) .l trivial (ev_neg ev_int)) (ev_lst (va_cons (ev_cast (ev_ite (k := (optC (clashM (t.ren ns (t.folk + 2)) kind l')).isNon) (x := .non) (y := manyD (clashM (t.ren ns (t.folk + 2)) kind l')) (tv_isN (ev_ix (ev_v 12) (ev_neg ev_int) isl (atI_m1 _ _)) ev_non) (fun _ => ev_non) (fun hz => ?_)) ?_) va_nil)) (by rw [cutD_init]; exact .l) .l ?_) (by rw [law])) (va_cons (ev_v 11) va_nil)) ⟨_, rfl, ?_, ⟨_, rfl, ?_⟩⟩)))))
          · cases hcl : clashM (t.ren ns (t.folk + 2)) kind l' with
            | none => rw [hcl] at hz; cases hz
            | some c0 => exact ev_cast (ev_len (xs := c0.map pD) G.n_len (ev_ix (ev_v 12) (ev_neg ev_int) isl (atI_m1 _ _)) .t) (by rw [List.length_map]; rfl)
          · cases clashM (t.ren ns (t.folk + 2)) kind l' <;> rfl
          · rw [List.length_singleton, sizeLine_eq]; omega
          · have hkl : kl.length ≤ 32 := auds_len ha (by omega)
            refine fl_renD (fl_mid t kind i) (by rw [mid_len]; omega) ?_ ?_
            · rw [pm.length_eq, List.length_map]; omega
            · intro k0 hk0
              obtain ⟨k1, _, rfl⟩ := List.mem_map.mp (pm.mem_iff.mp hk0)
              have : (uni (k1.map (nm ns))).length ≤ 64 := by
                unfold uni
                refine Nat.le_trans (List.length_filter_le _ _) ?_
                rw [List.length_range]
                exact Nat.le_refl _
              unfold natI
              rw [List.length_map]
              omega
          · rw [Bool.not_true, if_neg Bool.false_ne_true]
            exact aSs_nil ⟨_, _, _, rfl, rfl⟩
        · obtain ⟨o10, o11, o12, rfl, rfl⟩ := z
          refine aSs_cons (aS_asg (aE_def G.lawMixed (ok_mixed G) (hr.mono (by decide)) ?_))
          refine aA_cons (aE_ev (ev_v 0) ?_)
          refine aA_cons (aE_ev (ev_v 2) ?_)
          refine aA_cons (aE_def G.lawLive (ok_live G) (hr.mono (by decide)) ?_)
          refine aA_cons (aE_ev (ev_v 0) ?_)
          refine aA_cons (aE_ev ev_2 ?_)
          refine aA_cons ?_
          refine aE_op (aE_ev ev_int (aE_take G (hr.mono (by decide)) (ev_v 0) (n := 2) ev_int hk ok5 (by omega) (by decide) (by decide) fun r6 b6 hr6 ok6 => aop_addI ?_))
          refine aA_cons (aE_ev ev_int (aA_nil ⟨pre, post2 ++ [lc], k, b6, c5 + 1, 2, 3 + r6, 3, rfl, hk, rfl, ok6, by omega, by decide, by decide, by omega, by omega, by decide, fun fs7 b7 hfs7 hfl7 _ _ ok7 => aA_nil ?_⟩))
          have hl7 : fs7.length ≤ 5 := by omega
          generalize hc7 : c5 + 1 + 3 * (3 + r6) + 1 = c7 at ok7
          refine ⟨pre, post2 ++ [lc], k, b7, c7, t, ⟨2, fs7⟩, rfl, hk, rfl, ok7, by omega, by omega, by show fs7.length ≤ 50; omega, (by show 2 ≤ 50; decide), by omega, hfs7, fun tags b8 h1 h2 ok8 => ?_⟩
          obtain ⟨M, hlen⟩ := mix_of (t1 := t) (t2 := ⟨2, fs7⟩) h1 h2 tok hfs7 (by show t.evs.length + fs7.length ≤ 30; omega)
          have mOk := mix_ok M hlen (by show t.folk + 2 ≤ 40; omega)
          have em : mixT t.folk (⟨2, fs7⟩ : Tab).folk tags = t.mix ⟨2, fs7⟩ tags := rfl
          rw [em]
          have hkept := fun (i : Nat) (hi : i < t.n) => M.kept rfl (decide (kind = "long")) hi
          have hget := fun (i : Nat) (hi : i < t.n) => M.get hi
          have hlt := fun (i : Nat) (hi : i < t.n) => M.lt hi
          have hn1' := M.n1
          generalize t.mix ⟨2, fs7⟩ tags = bt at mOk hkept hlt
          refine aG_pair 13 14 nd ?_
          refine aSs_cons (aS_set (i := 15) (aE_ev (ev_le (i := (((bt.evs.filter fun e => decide (2 < e.size)).map fun _ => nD 1).length : Int)) (j := 8) (ev_len G.n_len (aE_lc (c := false) (own := [("_law_deed", 18)]) (lcp (L := bt.evs) (enc := Ev.enc) (pr := fun e => decide (2 < e.size)) (g := fun _ => nD 1) (env := fun e => [some (.pr k), some (.str kind), some t.enc, some (.pr m), some (nD t.folk), some (.pr ml), some (.lst (ns.map nD)), some (.lst (ws.map pD)), some (.lst ((List.range t.folk).map nD)), some (t.ren ns (t.folk + 2)).enc, o10, o11, o12, some bt.enc, some (.lst ((placesOf tags).map nD)), o15, o16, none, some e.enc]) ?_ ?_ ?_ ?_ ?_ ⟨rfl, rfl⟩) (blkOk_by (by kernel_rfl)) nd) isl) ev_int) ?_) nd)
          · exact vi_tup (ev_t (i := 1) (ev_v 13))
          · have := mOk.len
            rw [sizeLine_eq]; omega
          · intro o _ s H C cl fp
            exact aGc_name (i := 18) ⟨rfl, rfl⟩ nd
          · intro e _ s H C cl fp
            obtain ⟨xs, ee, el, _⟩ := enc_len e
            rw [ee]
            exact tvs_one (tv_gtN (i := e.size) (j := 2) (ev_cast (ev_len G.n_len (ev_v 18) .t) (by rw [el])) ev_2)
          · intro e _ _ s H C cl fp
            exact ev_1
          generalize decide ((((bt.evs.filter fun e => decide (2 < e.size)).map fun _ => nD 1).length : Int) ≤ 8) = few
          refine aSs_one (aS_forL (L := (if few = true then placesOf tags else []).zipIdx) (enc := fun x => .tup [nD x.2, nD x.1]) (by rw [← enumD_map]; exact wi_enum G.n_enumerate (ev_cast (ev_ite (k := few) (x := .lst ((placesOf tags).map nD)) (y := .lst []) (tv_val (ev_v 15)) (fun _ => ev_v 14) (fun _ => ev_lst va_nil)) (by cases few <;> rfl)))
            (fun _ ρ μ' => ∃ o10 o16, ρ = [some (.pr k), some (.str kind), some t.enc, some (.pr m), some (nD t.folk), some (.pr ml), some (.lst (ns.map nD)), some (.lst (ws.map pD)), some (.lst ((List.range t.folk).map nD)), some (t.ren ns (t.folk + 2)).enc, o10, o11, o12, some bt.enc, some (.lst ((placesOf tags).map nD)), some (.bl few), o16, none, none] ∧ μ' = pre ++ bx b8 :: (post2 ++ [lc])) ⟨o10, o16, rfl, rfl⟩ (fun pr9 x rest9 ρ' μ' hL9 z => ?_) (fun ρ' μ' z => ?_))
          · obtain ⟨o10, o16, rfl, rfl⟩ := z
            obtain ⟨kk, i⟩ := x
            have hx : (kk, i) ∈ (if few = true then placesOf tags else []).zipIdx := by rw [hL9]; simp
            have hx := List.mem_zipIdx_iff_getElem?.mp hx
            simp only at hx
            have hx2 : (placesOf tags)[i]? = some kk := by
              cases few with
              | true => exact hx
              | false => cases hx
            have hi : i < t.n := by rw [← hn1']; exact (List.getElem?_eq_some_iff.mp hx2).1
            have hkk : kk = emb tags i := by
              have := hget i hi
              rw [hx2] at this
              exact Option.some.inj this
            subst hkk
            refine aG_pair 10 16 nd ?_
            have hkl : (bt.kept (decide (kind = "long")) (emb tags i)).length ≤ 40 := by
              refine Nat.le_trans (List.length_filter_le _ _) ?_
              rw [List.length_range]
              exact mOk.folk
            have hkt : (t.kept (decide (kind = "long")) i).length ≤ 40 := by
              refine Nat.le_trans (List.length_filter_le _ _) ?_
              rw [List.length_range]
              exact tOk.folk
            refine aSs_one (aS_if (aT_not (aT_val (aE_def G.lawSame (ok_same G 3) (hr.mono (by decide)) (aA_ev (va_cons (d := .lst ((bt.kept (decide (kind = "long")) (emb tags i)).map nD)) (aE_def G.keptFrom (ok_keptFrom G) (hr.mono (by decide)) (aA_ev (va_cons (ev_v 13) (va_cons (ev_v 1) (va_cons (ev_v 16) va_nil))) ⟨bt, kind, emb tags i, rfl, mOk, hlt i hi, rfl, rfl⟩)) (va_cons (ev_cast (ev_cat (aE_def G.keptFrom (ok_keptFrom G) (hr.mono (by decide)) (aA_ev (va_cons (ev_v 2) (va_cons (ev_v 1) (va_cons (ev_v 10) va_nil))) ⟨t, kind, i, rfl, tOk, hi, rfl, rfl⟩)) (ev_lst (va_cons (ev_v 4) (va_cons (ev_addN (i := t.folk) (j := 1) (ev_v 4) ev_1) va_nil))) .l .l ?_) ?_) va_nil)) ⟨_, rfl, fl_nats 2 _ (by omega), ⟨_, rfl, ?_⟩⟩)))))
            · rw [List.length_map, sizeLine_eq]; show (t.kept _ i).length + 2 ≤ _; omega
            · rw [hkept i hi, List.map_append]
              rfl
            · rw [Bool.not_true, if_neg Bool.false_ne_true]
              exact aSs_nil ⟨_, _, rfl, rfl⟩
          · obtain ⟨o10', o16', rfl, rfl⟩ := z
            refine ⟨_, _, _, _, _, _, _, _, _, _, _, _, _, _, _, _, b8, ext ++ ((webC m spots own hs N L ++ ext2) ++ [lc]), rfl, ?_, ok8.mono ?_⟩
            · rw [← hpost2, ← hpost1]
              simp only [List.append_assoc]
            · rw [List.length_append, List.length_singleton]
              omega
    · obtain ⟨o1, o2, o3, o4, o5, o6, o7, o8, o9, o10, o11, o12, o13, o14, o15, o16, b', ext, rfl, rfl, ok⟩ := z
      exact aSs_one (aS_ret (aE_ev ev_bl ⟨_, _, Exit.box rfl, q b'⟩))
end HF

/-! ## Q17 -/
namespace HF
open PySem PySem.Spec PyProof.Rows L2 NdefX
variable {P : Program} {w : World} {K : PySem.W.Frag} {mg : Str → Option Value} {base : Heap}
abbrev s_law : Stmt := topS 58
theorem sc_law : Scp ["_law_script", "_law_lap"] ["_law_script"] s_law := ⟨rfl, rfl, rfl, by decide +kernel, rfl, by decide +kernel, by decide +kernel⟩
def spLaw : ASp := fun ds μ R => ∃ ns : List Int, ds = [.scr (ns.map D.int)] ∧ R (.bl true) μ
theorem ok_law (G : Facts K mg) (U : SupF P K mg G) (D0 : DefF K mg "law" "law" s_law ["_law_script"]) : AOk P w K mg base 42 D0.f D0.fd ["_law_script"] spLaw := by
  refine fnA D0.F sc_law (fun ds μ R h => ?_) fun cdv Ar outer s H E ds μ R hr h => ?_
  · obtain ⟨ns, rfl, _⟩ := h
    rfl
  · obtain ⟨ns, rfl, q⟩ := h
    have nd := sc_law.nd
    refine aSs_one (aS_ret (aE_callB (id := "all") (aA_cons (aE_lc (c := false) (own := [("_law_lap", 1)]) (lcs (L := List.range (1 + min 2 ns.length)) (enc := nD) (cc := false) (wi_range (n := 1 + min 2 ns.length) G.n_range ?_ (by omega)) (by rw [List.length_range, sizeLine_eq]; omega)
      (fun L acc μ' => ∃ ext, acc = L.map (fun _ => D.bl true) ∧ μ' = μ ++ ext) ⟨[], rfl, by rw [List.append_nil]⟩ (fun L x rest acc μ' hL ⟨ext, e1, e2⟩ => ?_) (fun acc μ' ⟨ext, e1, e2⟩ => ?_)) (blkOk_by (by kernel_rfl)) nd)) G.n_all rfl))
    · refine ev_cast (ev_add (i := 1) (j := if ((ns.length : Nat) : Int) < 2 then ((ns.length : Nat) : Int) else 2) ev_int (ev_callB (va_cons ev_int (va_cons (ev_cast (ev_len G.n_len (ev_v 0) .s) (by rw [List.length_map])) va_nil)) (acall_min2 ⟨rfl, rfl⟩) G.n_min rfl)) ?_
      show D.int _ = D.int _
      congr 1
      split <;> omega
    · subst e1 e2
      have hx : x < 3 := by
        have : x ∈ List.range (1 + min 2 ns.length) := by rw [hL]; simp
        have := List.mem_range.mp this
        omega
      intro s H C cl fp
      refine aGc_name (i := 1) ?_ nd
      intro s H C cl fp
      refine aTs_mono tvs_nil fun kk μ3 ⟨e6, e7⟩ => ?_
      subst e6 e7
      rw [if_pos rfl]
      intro s H C cl fp
      refine aE_def G.lawRight (ok_right G U) hr (aA_cons (aE_def G.lawBox (ok_box G) (hr.mono (by decide)) (aA_ev (va_cons (ev_v 0) (va_cons (ev_v 1) va_nil)) ⟨ns, x, rfl, by omega, fun b hb => aA_nil ⟨μ ++ ext, [], (μ ++ ext).length, b, rfl, rfl, rfl, hb, fun b' => ?_⟩⟩)))
      exact ⟨ext ++ [bx b'], by rw [List.map_append]; rfl, by rw [List.append_assoc]⟩
    · subst e1 e2
      refine aA_nil (acall_all .l ?_)
      have : ((List.range (1 + min 2 ns.length)).all fun _ => true) = true := List.all_eq_true.mpr fun _ _ => rfl
      rw [this]
      exact ⟨_, _, Exit.drop rfl, q⟩
end HF

/-! ## Z0 -/
namespace HF
open PySem PySem.Spec PyProof.Rows L2
/-! ### what the top has written -/
section
variable {K : PySem.W.Frag} {h : Heap} {mg : Str → Option Value} {Goal : Prop} {x m qual : Str} {st : Stmt} {ps : List Str} {f C : Addr} {oc tc : Value} {od an td : Option Addr} {osl ts : Array (Option Value)} {kV doc pm cdv ct : Value}
abbrev HB (x qual : Str) (st : Stmt) (ps : List Str) : Prop := ∀ (kV doc pm : Value) (an : Option Addr) (cdv ct : Value) (us : List Value), us.length = ps.length → bindArgs (PySem.W.fnOf x qual (defArgs st) (defBody st) (defScope st) .none kV doc pm an cdv ct) ⟨us, []⟩ = pure (ps.zip us)
abbrev HBD (x qual : Str) (st : Stmt) (ps : List Str) (n d j : Nat) : Prop := ∀ (T : Addr) (kV doc pm : Value) (an : Option Addr) (cdv ct : Value) (us its : List Value), us.length = n → its.length = d →
  ∃ k, bindArgs (PySem.W.fnOf x qual (defArgs st) (defBody st) (defScope st) (.ref T) kV doc pm an cdv ct) ⟨us, []⟩ = seqItems? (.ref T) >>= k ∧ k (some its.toArray) = pure (ps.zip (us ++ its.drop j))
theorem go_def (X : K.In h) (Gm : h.Ns mainGlobals mg) (hb : HB x qual st ps) (a : PySem.W.nsIn K mainGlobals x = some (some (.ref f)))
    (l : K.lookup f = some ⟨oc, od, .func (PySem.W.fnOf x qual (defArgs st) (defBody st) (defScope st) .none kV doc pm an cdv ct), osl⟩) (c : PySem.W.codeIn K cdv qual = true) (k : PySem.W.keepIn K (.ref f) = true) (r : DefF K mg x qual st ps → Goal) : Goal :=
  r ⟨f, _, fun_mk l c k, PySem.W.mg_of X Gm a, (fun_mk l c k).binds hb⟩
theorem go_met (cl : Cls K C) (hb : HB m qual st ps) (a : PySem.W.findIn K (.ref C) m = some (some (.ref f))) (i : PySem.W.isFn K (.ref f) = true)
    (l : K.lookup f = some ⟨oc, od, .func (PySem.W.fnOf m qual (defArgs st) (defBody st) (defScope st) .none kV doc pm an cdv ct), osl⟩) (c : PySem.W.codeIn K cdv qual = true) (k : PySem.W.keepIn K (.ref f) = true) (r : MetF K C m qual st ps → Goal) : Goal :=
  r ⟨f, _, fun_mk l c k, ⟨a, i, k⟩, (fun_mk l c k).binds hb⟩
theorem go_mk (cl : Cls K C) (mk : PySem.W.makesIn K C = true) (kc : PySem.W.keepIn K (.ref C) = true) (hb : HB "__init__" qual st ps) (a : PySem.W.findIn K (.ref C) "__init__" = some (some (.ref f))) (i : PySem.W.isFn K (.ref f) = true)
    (l : K.lookup f = some ⟨oc, od, .func (PySem.W.fnOf "__init__" qual (defArgs st) (defBody st) (defScope st) .none kV doc pm an cdv ct), osl⟩) (c : PySem.W.codeIn K cdv qual = true) (k : PySem.W.keepIn K (.ref f) = true) (r : MkF K C qual st ps → Goal) : Goal :=
  r ⟨f, _, fun_mk l c k, ⟨mk, a, i, kc⟩, (fun_mk l c k).binds hb⟩
theorem go_cls (X : K.In h) (Gm : h.Ns mainGlobals mg) (x : Str) (a : PySem.W.nsIn K mainGlobals x = some (some (.ref C))) (pg : PySem.W.plainGet K C Str.empty = true) (hd : PySem.W.hasDictIn K C = true) (po : PySem.W.plainOver K C = true)
    (sa : PySem.W.findIn K (.ref C) "__setattr__" = some (some (.builtin "object.__setattr__"))) (mk : PySem.W.makesIn K C = true) (kc : PySem.W.keepIn K (.ref C) = true) (r : Cls K C → mg x = some (.ref C) → PySem.W.makesIn K C = true → PySem.W.keepIn K (.ref C) = true → Goal) : Goal := r ⟨pg, hd, po, sa⟩ (PySem.W.mg_of X Gm a) mk kc
theorem go_na (cl : Cls K C) (y : Str) (n : PySem.W.findIn K (.ref C) y = some none) (r : NoAttr K C y → Goal) : Goal := r n
theorem go_no (X : K.In h) (Gm : h.Ns mainGlobals mg) (y : Str) (n : PySem.W.nsIn K mainGlobals y = some none) (r : mg y = none → Goal) : Goal := r (PySem.W.mg_none_of X Gm n)
theorem go_gl (X : K.In h) (Gm : h.Ns mainGlobals mg) (y v : Str) {t : Tok} (n : PySem.W.nsIn K mainGlobals y = some (some (.str v t))) (r : (∃ t, mg y = some (.str v t)) → Goal) : Goal := r ⟨t, PySem.W.mg_of X Gm n⟩
theorem emptyT {E : Addr} {ed : Option Addr} {es : Array (Option Value)} {n : Nat} (lE : K.lookup E = some ⟨.type "tuple", ed, .seq #[] n, es⟩) : EmptyT K (.ref E) := fun α G => .tup (.inr ⟨_, #[], n, lE, rfl, rfl, Nat.zero_le _, .nil⟩) .nil
theorem funD_mk {params : Arguments} {body : List Stmt} {scope : Scope} {T : Addr} {n : Nat} {its : List Value} {dvs : List V} (l : K.lookup f = some ⟨oc, od, .func (PySem.W.fnOf x qual params body scope (.ref T) kV doc pm an cdv ct), osl⟩) (c : PySem.W.codeIn K cdv qual = true) (k : PySem.W.keepIn K (.ref f) = true)
    (lT : K.lookup T = some ⟨tc, td, .seq its.toArray n, ts⟩) (r : Vals dvs its) (h0 : dvs ≠ []) : FunD K x qual params body scope dvs [] f (PySem.W.fnOf x qual params body scope (.ref T) kV doc pm an cdv ct) :=
  ⟨⟨oc, od, .ref T, kV, doc, pm, an, cdv, ct, osl, rfl, l, c, .inr ⟨h0, T, _, its, n, rfl, lT, rfl, r⟩, .inl rfl⟩, k⟩
/-- one default () -/
theorem go_met1 (cl : Cls K C) {T E : Addr} {n en : Nat} {ed : Option Addr} {es : Array (Option Value)} (np : ps.length = 4) (h0 : HBD m qual st ps 3 1 0) (h1 : HBD m qual st ps 4 1 1) (a : PySem.W.findIn K (.ref C) m = some (some (.ref f))) (i : PySem.W.isFn K (.ref f) = true)
    (l : K.lookup f = some ⟨oc, od, .func (PySem.W.fnOf m qual (defArgs st) (defBody st) (defScope st) (.ref T) kV doc pm an cdv ct), osl⟩) (c : PySem.W.codeIn K cdv qual = true) (k : PySem.W.keepIn K (.ref f) = true) (lT : K.lookup T = some ⟨tc, td, .seq #[.ref E] n, ts⟩) (lE : K.lookup E = some ⟨.type "tuple", ed, .seq #[] en, es⟩)
    (r : MetD K C m qual st ps 1 → Goal) : Goal := by
  have F : FunD K m qual (defArgs st) (defBody st) (defScope st) [.ref E] [] f _ := funD_mk (its := [.ref E]) l c k lT (.cons rfl .nil) (by simp)
  refine r ⟨f, _, [.ref E], F, ⟨a, i, k⟩, fun j hj => ?_⟩
  match j, hj with
  | 0, _ =>
    obtain ⟨ds, v, b⟩ := F.binds1 3 0 (by simp) np.symm h0
    exact ⟨ds, ⟨v, fun α G => .cons (emptyT lE α G) .nil⟩, b⟩
  | 1, _ =>
    obtain ⟨ds, v, b⟩ := F.binds1 4 1 (by simp) np.symm h1
    exact ⟨ds, ⟨v, fun α G => .nil⟩, b⟩
/-- two defaults () -/
theorem go_mk2 (cl : Cls K C) (mk : PySem.W.makesIn K C = true) (kc : PySem.W.keepIn K (.ref C) = true) {T E E2 : Addr} {n en en2 : Nat} {ed ed2 : Option Addr} {es es2 : Array (Option Value)} (np : ps.length = 5) (h0 : HBD "__init__" qual st ps 3 2 0) (h1 : HBD "__init__" qual st ps 4 2 1) (h2 : HBD "__init__" qual st ps 5 2 2)
    (a : PySem.W.findIn K (.ref C) "__init__" = some (some (.ref f))) (i : PySem.W.isFn K (.ref f) = true)
    (l : K.lookup f = some ⟨oc, od, .func (PySem.W.fnOf "__init__" qual (defArgs st) (defBody st) (defScope st) (.ref T) kV doc pm an cdv ct), osl⟩) (c : PySem.W.codeIn K cdv qual = true) (k : PySem.W.keepIn K (.ref f) = true) (lT : K.lookup T = some ⟨tc, td, .seq #[.ref E, .ref E2] n, ts⟩)
    (lE : K.lookup E = some ⟨.type "tuple", ed, .seq #[] en, es⟩) (lE2 : K.lookup E2 = some ⟨.type "tuple", ed2, .seq #[] en2, es2⟩) (r : MkD K C qual st ps 2 → Goal) : Goal := by
  have F : FunD K "__init__" qual (defArgs st) (defBody st) (defScope st) [.ref E, .ref E2] [] f _ := funD_mk (its := [.ref E, .ref E2]) l c k lT (.cons rfl (.cons rfl .nil)) (by simp)
  refine r ⟨f, _, [.ref E, .ref E2], F, ⟨mk, a, i, kc⟩, fun j hj => ?_⟩
  match j, hj with
  | 0, _ =>
    obtain ⟨ds, v, b⟩ := F.binds1 3 0 (by simp) np.symm h0
    exact ⟨ds, ⟨v, fun α G => .cons (emptyT lE α G) (.cons (emptyT lE2 α G) .nil)⟩, b⟩
  | 1, _ =>
    obtain ⟨ds, v, b⟩ := F.binds1 4 1 (by simp) np.symm h1
    exact ⟨ds, ⟨v, fun α G => .cons (emptyT lE2 α G) .nil⟩, b⟩
  | 2, _ =>
    obtain ⟨ds, v, b⟩ := F.binds1 5 2 (by simp) np.symm h2
    exact ⟨ds, ⟨v, fun α G => .nil⟩, b⟩
/-! the defs about super() -/
abbrev ksF (x qual : Str) (st : Stmt) (dV kV doc pm : Value) (an : Option Addr) (cdv ct : Value) (cc : Addr) : FuncData := PySem.W.ksFn x qual (defArgs st) (defBody st) (defScope st) dV kV doc pm an cdv ct cc
theorem bindsS {cc T : Addr} {o : Obj} {n : Nat} {its : Array Value} {ds : List Value} (j : Nat) (lT : K.lookup T = some o) (oT : o.data = .seq its n) (hn : j + ds.length = ps.length)
    (hb : ∀ us : List Value, us.length = j → ∃ k, bindArgs (ksF x qual st (.ref T) kV doc pm an cdv ct cc) ⟨us, []⟩ = seqItems? (.ref T) >>= k ∧ k (some its) = pure (ps.zip (us ++ ds))) : Binds K (ksF x qual st (.ref T) kV doc pm an cdv ct cc) ps ds := fun s us X hl => by
  obtain ⟨k, e1, e2⟩ := hb us (by rw [List.length_append] at hl; omega)
  refine BindsTo.of_looks fun M => ?_
  rw [e1]
  exact looks_items X lT oT (.of_pure e2)
theorem funS_mk {P : Program} {dV : Value} {cda cc D : Addr} {cl ccl : Value} {cld cdd : Option Addr} {csl ccs : Array (Option Value)} {vs : Array Value} {file : Str} {tf : Tok} {cdD : ClassData} (l : K.lookup f = some ⟨oc, od, .func (ksF x qual st dV kV doc pm an (.ref cda) ct cc), osl⟩) (c : PySem.W.codeIn K (.ref cda) qual = true)
    (lc : K.lookup cc = some ⟨cl, cld, .cell (some (.ref D)), csl⟩) (la : K.lookup cda = some ⟨ccl, cdd, .fields vs, ccs⟩) (l2 : vs[2]? = some (.str file tf)) (lf : ((P.main.file : Str) == file) = true) (ld : PySem.W.clsIn K D = some cdD) : FunS P K x qual st f (ksF x qual st dV kV doc pm an (.ref cda) ct cc) cc cda D :=
  ⟨⟨oc, od, dV, kV, doc, pm, an, ct, osl, rfl, l⟩, c, ⟨cl, cld, csl, lc⟩, ⟨ccl, cdd, vs, ccs, file, tf, la, l2, lf⟩, ⟨cdD, ld⟩⟩
end
theorem hb_asTuples : HB "as_tuples" "as_tuples" s_asTuples ["thing"] := fun _ _ _ _ _ _ us hl => match us, hl with | [_], _ => rfl
theorem hb_eventsOf : HB "events_of" "events_of" s_eventsOf ["timetable", "word"] := fun _ _ _ _ _ _ us hl => match us, hl with | [_, _], _ => rfl
theorem hb_looks : HB "looks" "looks" s_looks ["timetable"] := fun _ _ _ _ _ _ us hl => match us, hl with | [_], _ => rfl
theorem hb_adds : HB "adds" "adds" s_adds ["timetable"] := fun _ _ _ _ _ _ us hl => match us, hl with | [_], _ => rfl
theorem hb_checkLook : HB "check_look" "check_look" s_checkLook ["timetable", "number"] := fun _ _ _ _ _ _ us hl => match us, hl with | [_, _], _ => rfl
theorem hb_choices : HB "choices" "choices" s_choices ["some", "size"] := fun _ _ _ _ _ _ us hl => match us, hl with | [_, _], _ => rfl
theorem hb_checkPeople : HB "check_people" "check_people" s_checkPeople ["timetable", "people"] := fun _ _ _ _ _ _ us hl => match us, hl with | [_, _], _ => rfl
theorem hb_checkWishes : HB "check_wishes" "check_wishes" s_checkWishes ["timetable", "wishes"] := fun _ _ _ _ _ _ us hl => match us, hl with | [_, _], _ => rfl
theorem hb_branch : HB "branch" "branch" s_branch ["bonds", "number"] := fun _ _ _ _ _ _ us hl => match us, hl with | [_, _], _ => rfl
theorem hb_keptPeople : HB "kept_people" "kept_people" s_keptPeople ["timetable", "kind", "number"] := fun _ _ _ _ _ _ us hl => match us, hl with | [_, _, _], _ => rfl
theorem hb_keptFrom : HB "kept_from" "kept_from" s_keptFrom ["timetable", "kind", "i"] := fun _ _ _ _ _ _ us hl => match us, hl with | [_, _, _], _ => rfl
theorem hb_knownAt : HB "known_at" "known_at" s_knownAt ["timetable", "kind", "i", "person"] := fun _ _ _ _ _ _ us hl => match us, hl with | [_, _, _, _], _ => rfl
theorem hb_wayOf : HB "way_of" "way_of" s_wayOf ["timetable", "kind", "wishes"] := fun _ _ _ _ _ _ us hl => match us, hl with | [_, _, _], _ => rfl
theorem hb_keepWay : HB "keep_way" "keep_way" s_keepWay ["timetable", "kind", "i", "people"] := fun _ _ _ _ _ _ us hl => match us, hl with | [_, _, _, _], _ => rfl
theorem hb_audiences : HB "audiences" "audiences" s_audiences ["timetable", "kind", "i"] := fun _ _ _ _ _ _ us hl => match us, hl with | [_, _, _], _ => rfl
theorem hb_clash : HB "clash" "clash" s_clash ["timetable", "kind", "wishes"] := fun _ _ _ _ _ _ us hl => match us, hl with | [_, _, _], _ => rfl
theorem hb_lawTake : HB "_law_take" "_law_take" s_lawTake ["_law_box_here", "_law_below"] := fun _ _ _ _ _ _ us hl => match us, hl with | [_, _], _ => rfl
theorem hb_lawEvent : HB "_law_event" "_law_event" s_lawEvent ["_law_box_here", "_law_folk", "_law_words"] := fun _ _ _ _ _ _ us hl => match us, hl with | [_, _, _], _ => rfl
theorem hb_lawTable : HB "_law_table" "_law_table" s_lawTable ["_law_box_here", "_law_folk", "_law_laps", "_law_words", "_law_most"] := fun _ _ _ _ _ _ us hl => match us, hl with | [_, _, _, _, _], _ => rfl
theorem hb_lawLive : HB "_law_live" "_law_live" s_lawLive ["_law_box_here", "_law_folk", "_law_laps", "_law_most"] := fun _ _ _ _ _ _ us hl => match us, hl with | [_, _, _, _], _ => rfl
theorem hb_lawCrossed : HB "_law_crossed" "_law_crossed" s_lawCrossed ["_law_some", "_law_more"] := fun _ _ _ _ _ _ us hl => match us, hl with | [_, _], _ => rfl
theorem hb_lawPassed : HB "_law_passed" "_law_passed" s_lawPassed ["_law_has", "_law_deed", "_law_sort_so"] := fun _ _ _ _ _ _ us hl => match us, hl with | [_, _, _], _ => rfl
theorem hb_lawClosed : HB "_law_closed" "_law_closed" s_lawClosed ["_law_web_here"] := fun _ _ _ _ _ _ us hl => match us, hl with | [_], _ => rfl
theorem hb_lawWeb : HB "_law_web" "_law_web" s_lawWeb ["_law_table_here", "_law_sort_so"] := fun _ _ _ _ _ _ us hl => match us, hl with | [_, _], _ => rfl
theorem hb_lawOf : HB "_law_of" "_law_of" s_lawOf ["_law_box_here", "_law_some"] := fun _ _ _ _ _ _ us hl => match us, hl with | [_, _], _ => rfl
theorem hb_lawDrawWants : HB "_law_draw_wants" "_law_draw_wants" s_lawDrawWants ["_law_box_here", "_law_web_here", "_law_many"] := fun _ _ _ _ _ _ us hl => match us, hl with | [_, _, _], _ => rfl
theorem hb_lawSame : HB "_law_same" "_law_same" s_lawSame ["_law_found", "_law_due"] := fun _ _ _ _ _ _ us hl => match us, hl with | [_, _], _ => rfl
theorem hb_lawBox : HB "_law_box" "_law_box" s_lawBox ["_law_script", "_law_lap"] := fun _ _ _ _ _ _ us hl => match us, hl with | [_, _], _ => rfl
theorem hb_lawMoved : HB "_law_moved" "_law_moved" s_lawMoved ["_law_deed", "_law_names"] := fun _ _ _ _ _ _ us hl => match us, hl with | [_, _], _ => rfl
theorem hb_lawAllTold : HB "_law_all_told" "_law_all_told" s_lawAllTold ["_law_table_here", "_law_sort_so", "_law_i", "_law_names", "_law_wants_so"] := fun _ _ _ _ _ _ us hl => match us, hl with | [_, _, _, _, _], _ => rfl
theorem hb_lawRenamed : HB "_law_renamed" "_law_renamed" s_lawRenamed ["_law_told", "_law_names", "_law_idle"] := fun _ _ _ _ _ _ us hl => match us, hl with | [_, _, _], _ => rfl
theorem hb_lawMixed : HB "_law_mixed" "_law_mixed" s_lawMixed ["_law_box_here", "_law_one", "_law_two"] := fun _ _ _ _ _ _ us hl => match us, hl with | [_, _, _], _ => rfl
theorem hb_lawRight : HB "_law_right" "_law_right" s_lawRight ["_law_box_here"] := fun _ _ _ _ _ _ us hl => match us, hl with | [_], _ => rfl
theorem hb_law : HB "law" "law" s_law ["_law_script"] := fun _ _ _ _ _ _ us hl => match us, hl with | [_], _ => rfl
theorem hb_bInit0 : HBD "__init__" "Bonds.__init__" s_bInit ["self", "timetable", "kind", "gone", "more"] 3 2 0 := fun _ _ _ _ _ _ _ us its h1 h2 => match us, h1, its, h2 with | [_, _, _], _, [_, _], _ => ⟨_, rfl, rfl⟩
theorem hb_bInit1 : HBD "__init__" "Bonds.__init__" s_bInit ["self", "timetable", "kind", "gone", "more"] 4 2 1 := fun _ _ _ _ _ _ _ us its h1 h2 => match us, h1, its, h2 with | [_, _, _, _], _, [_, _], _ => ⟨_, rfl, rfl⟩
theorem hb_bInit2 : HBD "__init__" "Bonds.__init__" s_bInit ["self", "timetable", "kind", "gone", "more"] 5 2 2 := fun _ _ _ _ _ _ _ us its h1 h2 => match us, h1, its, h2 with | [_, _, _, _, _], _, [_, _], _ => ⟨_, rfl, rfl⟩
theorem hb_bMany : HB "many" "Bonds.many" s_bMany ["self"] := fun _ _ _ _ _ _ us hl => match us, hl with | [_], _ => rfl
theorem hb_bIsAlike : HB "is_alike" "Bonds.is_alike" s_bIsAlike ["self", "one", "other"] := fun _ _ _ _ _ _ us hl => match us, hl with | [_, _, _], _ => rfl
theorem hb_bIsBelow : HB "is_below" "Bonds.is_below" s_bIsBelow ["self", "one", "other"] := fun _ _ _ _ _ _ us hl => match us, hl with | [_, _, _], _ => rfl
theorem hb_bHas : HB "has" "Bonds.has" s_bHas ["self", "person"] := fun _ _ _ _ _ _ us hl => match us, hl with | [_, _], _ => rfl
theorem hb_bBind0 : HBD "bind" "Bonds.bind" s_bBind ["self", "one", "other", "source"] 3 1 0 := fun _ _ _ _ _ _ _ us its h1 h2 => match us, h1, its, h2 with | [_, _, _], _, [_], _ => ⟨_, rfl, rfl⟩
theorem hb_bBind1 : HBD "bind" "Bonds.bind" s_bBind ["self", "one", "other", "source"] 4 1 1 := fun _ _ _ _ _ _ _ us its h1 h2 => match us, h1, its, h2 with | [_, _, _, _], _, [_], _ => ⟨_, rfl, rfl⟩
theorem hb_bLower0 : HBD "lower" "Bonds.lower" s_bLower ["self", "one", "other", "source"] 3 1 0 := fun _ _ _ _ _ _ _ us its h1 h2 => match us, h1, its, h2 with | [_, _, _], _, [_], _ => ⟨_, rfl, rfl⟩
theorem hb_bLower1 : HBD "lower" "Bonds.lower" s_bLower ["self", "one", "other", "source"] 4 1 1 := fun _ _ _ _ _ _ _ us its h1 h2 => match us, h1, its, h2 with | [_, _, _, _], _, [_], _ => ⟨_, rfl, rfl⟩
theorem hb_bGoThrough : HB "go_through" "Bonds.go_through" s_bGoThrough ["self"] := fun _ _ _ _ _ _ us hl => match us, hl with | [_], _ => rfl
theorem hb_bLooked : HB "looked" "Bonds.looked" s_bLooked ["self", "person", "number"] := fun _ _ _ _ _ _ us hl => match us, hl with | [_, _, _], _ => rfl
theorem hb_bCompared : HB "compared" "Bonds.compared" s_bCompared ["self", "event"] := fun _ _ _ _ _ _ us hl => match us, hl with | [_, _], _ => rfl
theorem hb_bIsLate : HB "is_late" "Bonds.is_late" s_bIsLate ["self", "one", "other"] := fun _ _ _ _ _ _ us hl => match us, hl with | [_, _, _], _ => rfl
theorem hb_bClose : HB "close" "Bonds.close" s_bClose ["self"] := fun _ _ _ _ _ _ us hl => match us, hl with | [_], _ => rfl
theorem hb_bRules : HB "rules" "Bonds.rules" s_bRules ["self", "one", "other"] := fun _ _ _ _ _ _ us hl => match us, hl with | [_, _, _], _ => rfl
theorem hb_bNewest : HB "newest" "Bonds.newest" s_bNewest ["self", "number"] := fun _ _ _ _ _ _ us hl => match us, hl with | [_, _], _ => rfl
theorem hb_bBefore : HB "before" "Bonds.before" s_bBefore ["self", "number"] := fun _ _ _ _ _ _ us hl => match us, hl with | [_, _], _ => rfl
theorem hb_pInit0 : HBD "__init__" "Peeling.__init__" s_pInit ["self", "timetable", "kind", "pairs", "alike"] 3 2 0 := fun _ _ _ _ _ _ _ us its h1 h2 => match us, h1, its, h2 with | [_, _, _], _, [_, _], _ => ⟨_, rfl, rfl⟩
theorem hb_pInit1 : HBD "__init__" "Peeling.__init__" s_pInit ["self", "timetable", "kind", "pairs", "alike"] 4 2 1 := fun _ _ _ _ _ _ _ us its h1 h2 => match us, h1, its, h2 with | [_, _, _, _], _, [_, _], _ => ⟨_, rfl, rfl⟩
theorem hb_pInit2 : HBD "__init__" "Peeling.__init__" s_pInit ["self", "timetable", "kind", "pairs", "alike"] 5 2 2 := fun _ _ _ _ _ _ _ us its h1 h2 => match us, h1, its, h2 with | [_, _, _, _, _], _, [_, _], _ => ⟨_, rfl, rfl⟩
theorem hb_pEverything : HB "everything" "Peeling.everything" s_pEverything ["self"] := fun _ _ _ _ _ _ us hl => match us, hl with | [_], _ => rfl
theorem hb_pLastAdd : HB "last_add" "Peeling.last_add" s_pLastAdd ["self", "look"] := fun _ _ _ _ _ _ us hl => match us, hl with | [_, _], _ => rfl
theorem hb_pStops : HB "stops" "Peeling.stops" s_pStops ["self", "look", "other"] := fun _ _ _ _ _ _ us hl => match us, hl with | [_, _, _], _ => rfl
theorem hb_pIsFirst : HB "is_first" "Peeling.is_first" s_pIsFirst ["self", "look", "part"] := fun _ _ _ _ _ _ us hl => match us, hl with | [_, _, _], _ => rfl
theorem hb_pParts : HB "parts" "Peeling.parts" s_pParts ["self", "some"] := fun _ _ _ _ _ _ us hl => match us, hl with | [_, _], _ => rfl
theorem hb_pFirsts : HB "firsts" "Peeling.firsts" s_pFirsts ["self", "part"] := fun _ _ _ _ _ _ us hl => match us, hl with | [_, _], _ => rfl
theorem hb_pStuck : HB "stuck" "Peeling.stuck" s_pStuck ["self", "some"] := fun _ _ _ _ _ _ us hl => match us, hl with | [_, _], _ => rfl
theorem hb_kIsFine : HB "is_fine" "Keeping.is_fine" s_kIsFine ["self"] := fun _ _ _ _ _ _ us hl => match us, hl with | [_], _ => rfl
theorem hb_aInit : HB "__init__" "Audience.__init__" s_aInit ["self", "timetable", "kind", "mark"] := fun _ _ _ _ _ _ us hl => match us, hl with | [_, _, _, _], _ => rfl
theorem hb_aNumbers : HB "numbers" "Audience.numbers" s_aNumbers ["self"] := fun _ _ _ _ _ _ us hl => match us, hl with | [_], _ => rfl
theorem hb_aSets : HB "sets" "Audience.sets" s_aSets ["self"] := fun _ _ _ _ _ _ us hl => match us, hl with | [_], _ => rfl
theorem hb_aIsPossible : HB "is_possible" "Audience.is_possible" s_aIsPossible ["self", "shown"] := fun _ _ _ _ _ _ us hl => match us, hl with | [_, _], _ => rfl
theorem hb_aPartOf : HB "part_of" "Audience.part_of" s_aPartOf ["self", "look", "shown"] := fun _ _ _ _ _ _ us hl => match us, hl with | [_, _, _], _ => rfl
theorem hb_aCut : HB "cut" "Audience.cut" s_aCut ["self", "look", "shown"] := fun _ _ _ _ _ _ us hl => match us, hl with | [_, _, _], _ => rfl
theorem hb_aPeople : HB "people" "Audience.people" s_aPeople ["self", "shown"] := fun _ _ _ _ _ _ us hl => match us, hl with | [_, _], _ => rfl
section
variable {K : PySem.W.Frag} {h : Heap} {mg : Str → Option Value} {Goal : Prop} {x m qual : Str} {st : Stmt} {ps : List Str} {f C : Addr} {oc tc : Value} {od an td : Option Addr} {osl ts : Array (Option Value)} {kV doc pm cdv ct : Value}
theorem go_law (X : K.In h) (Gm : h.Ns mainGlobals mg) (a : PySem.W.nsIn K mainGlobals "law" = some (some (.ref f)))
    (l : K.lookup f = some ⟨oc, od, .func (PySem.W.fnOf "law" "law" (defArgs s_law) (defBody s_law) (defScope s_law) .none kV doc pm an cdv ct), osl⟩) (c : PySem.W.codeIn K cdv "law" = true) (k : PySem.W.keepIn K (.ref f) = true)
    (r : ∀ D0 : DefF K mg "law" "law" s_law ["_law_script"], (∀ (s : Shared) (v : Value), BindsTo s D0.fd ⟨[v], []⟩ [("_law_script", v)]) → Goal) : Goal :=
  r ⟨f, _, fun_mk l c k, PySem.W.mg_of X Gm a, (fun_mk l c k).binds hb_law⟩ fun s v => .of_eq rfl
theorem go_kinit {P : Program} (cl : Cls K C) (mk : PySem.W.makesIn K C = true) (kc : PySem.W.keepIn K (.ref C) = true) {T cda cc : Addr} {n : Nat} {cl' ccl : Value} {cld cdd : Option Addr} {csl ccs : Array (Option Value)} {vs : Array Value} {file : Str} {tf : Tok} {cdD : ClassData}
    (a : PySem.W.findIn K (.ref C) "__init__" = some (some (.ref f))) (i : PySem.W.isFn K (.ref f) = true) (l : K.lookup f = some ⟨oc, od, .func (ksF "__init__" "Keeping.__init__" s_kInit (.ref T) kV doc pm an (.ref cda) ct cc), osl⟩) (c : PySem.W.codeIn K (.ref cda) "Keeping.__init__" = true)
    (lc : K.lookup cc = some ⟨cl', cld, .cell (some (.ref C)), csl⟩) (la : K.lookup cda = some ⟨ccl, cdd, .fields vs, ccs⟩) (l2 : vs[2]? = some (.str file tf)) (lf : ((P.main.file : Str) == file) = true) (ld : PySem.W.clsIn K C = some cdD) (lT : K.lookup T = some ⟨tc, td, .seq #[.bool false] n, ts⟩)
    (r : ∀ (iF : Addr) (iFd : FuncData) (iCc iCda : Addr), FunS P K "__init__" "Keeping.__init__" s_kInit iF iFd iCc iCda C → Mk K C iF → (∃ dvs dv, DefV K dvs dv [.bl false] ∧ Binds K iFd ["self", "timetable", "kind", "wishes", "is_chain"] dv) → Binds K iFd ["self", "timetable", "kind", "wishes", "is_chain"] [] → Goal) : Goal :=
  r f _ cc cda (funS_mk l c lc la l2 lf ld) ⟨mk, a, i, kc⟩
    ⟨[.bl false], [.bool false], ⟨.cons rfl .nil, fun α G => .cons .bl .nil⟩, bindsS (ds := [.bool false]) 4 lT rfl rfl fun us h => match us, h with | [_, _, _, _], _ => ⟨_, rfl, rfl⟩⟩
    (bindsS (ds := []) 5 lT rfl rfl fun us h => match us, h with | [_, _, _, _, _], _ => ⟨_, rfl, rfl⟩)
theorem go_kstops {P : Program} (cl : Cls K C) {cda cc : Addr} {cl' ccl : Value} {cld cdd : Option Addr} {csl ccs : Array (Option Value)} {vs : Array Value} {file : Str} {tf : Tok} {cdD : ClassData}
    (a : PySem.W.findIn K (.ref C) "stops" = some (some (.ref f))) (i : PySem.W.isFn K (.ref f) = true) (kp : PySem.W.keepIn K (.ref f) = true) (l : K.lookup f = some ⟨oc, od, .func (ksF "stops" "Keeping.stops" s_kStops .none kV doc pm an (.ref cda) ct cc), osl⟩) (c : PySem.W.codeIn K (.ref cda) "Keeping.stops" = true)
    (lc : K.lookup cc = some ⟨cl', cld, .cell (some (.ref C)), csl⟩) (la : K.lookup cda = some ⟨ccl, cdd, .fields vs, ccs⟩) (l2 : vs[2]? = some (.str file tf)) (lf : ((P.main.file : Str) == file) = true) (ld : PySem.W.clsIn K C = some cdD)
    (r : ∀ (sF : Addr) (sFd : FuncData) (sCc sCda : Addr), FunS P K "stops" "Keeping.stops" s_kStops sF sFd sCc sCda C → Meth K C "stops" sF → Binds K sFd ["self", "look", "other"] [] → Goal) : Goal :=
  r f _ cc cda (funS_mk l c lc la l2 lf ld) ⟨a, i, kp⟩ (.all fun us h => match us, h with | [_, _, _], _ => rfl)
theorem go_pinit {CP : Addr} {T E E2 : Addr} {n en en2 : Nat} {ed ed2 : Option Addr} {es es2 : Array (Option Value)} (cl : Cls K C) (aP : PySem.W.nsIn K mainGlobals "Peeling" = some (some (.ref CP))) (a : PySem.W.findIn K (.ref CP) "__init__" = some (some (.ref f)))
    (l : K.lookup f = some ⟨oc, od, .func (PySem.W.fnOf "__init__" "Peeling.__init__" (defArgs s_pInit) (defBody s_pInit) (defScope s_pInit) (.ref T) kV doc pm an cdv ct), osl⟩) (c : PySem.W.codeIn K cdv "Peeling.__init__" = true) (k : PySem.W.keepIn K (.ref f) = true) (lT : K.lookup T = some ⟨tc, td, .seq #[.ref E, .ref E2] n, ts⟩)
    (lE : K.lookup E = some ⟨.type "tuple", ed, .seq #[] en, es⟩) (lE2 : K.lookup E2 = some ⟨.type "tuple", ed2, .seq #[] en2, es2⟩)
    (s1 : PySem.W.mroIn K C (.ref C) = some true) (s2 : PySem.W.nsIn K PySem.cStatics "thirdparty.any" = some none) (s3 : PySem.W.ks_superIn K C C "__init__" = some (some (.ref f))) (s4 : PySem.W.typeIn K (.ref f) = some (.type "function")) (s5 : PySem.W.fnIn K f = true)
    (r : ∀ (pF : Addr) (pFd : FuncData) (pDv : List V), FunD K "__init__" "Peeling.__init__" (defArgs s_pInit) (defBody s_pInit) (defScope s_pInit) pDv [] pF pFd → SupM K C C "__init__" pF → Binds K pFd ["self", "timetable", "kind", "pairs", "alike"] [] → Goal) : Goal := by
  have F : FunD K "__init__" "Peeling.__init__" (defArgs s_pInit) (defBody s_pInit) (defScope s_pInit) [.ref E, .ref E2] [] f _ := funD_mk (its := [.ref E, .ref E2]) l c k lT (.cons rfl (.cons rfl .nil)) (by simp)
  refine r f _ [.ref E, .ref E2] F ⟨s1, s2, s3, s4, s5⟩ ?_
  obtain ⟨ds, v, b⟩ := F.binds1 (ps := ["self", "timetable", "kind", "pairs", "alike"]) 5 2 (by simp) rfl hb_pInit2
  cases v
  exact b
theorem go_pstops {CP : Addr} (cl : Cls K C) (aP : PySem.W.nsIn K mainGlobals "Peeling" = some (some (.ref CP))) (a : PySem.W.findIn K (.ref CP) "stops" = some (some (.ref f)))
    (l : K.lookup f = some ⟨oc, od, .func (PySem.W.fnOf "stops" "Peeling.stops" (defArgs s_pStops) (defBody s_pStops) (defScope s_pStops) .none kV doc pm an cdv ct), osl⟩) (c : PySem.W.codeIn K cdv "Peeling.stops" = true) (k : PySem.W.keepIn K (.ref f) = true)
    (s1 : PySem.W.mroIn K C (.ref C) = some true) (s2 : PySem.W.nsIn K PySem.cStatics "thirdparty.any" = some none) (s3 : PySem.W.ks_superIn K C C "stops" = some (some (.ref f))) (s4 : PySem.W.typeIn K (.ref f) = some (.type "function")) (s5 : PySem.W.fnIn K f = true)
    (r : ∀ (qF : Addr) (qFd : FuncData), Fun K "stops" "Peeling.stops" s_pStops qF qFd → SupM K C C "stops" qF → Binds K qFd ["self", "look", "other"] [] → Goal) : Goal :=
  r f _ (fun_mk l c k) ⟨s1, s2, s3, s4, s5⟩ ((fun_mk l c k).binds hb_pStops)
end
theorem walkH {l : PySem.W.OpenLaw} {q : Program} {loose : List Str} {XP : (Str → Option Value) → Heap → Prop} {YP : World → Heap → Prop} {d : DefRec} {K : Params → PySem.W.Frag} (hn : l.most = some 63) (hdf : d.params.defaults = [])
    (hY : ∀ (w : World) (h : Heap), YP w h → (K w.params).In h)
    (F : ∀ (w : World) (mg : Str → Option Value) (fa : Addr) (h : Heap), (K w.params).In h → h.Ns mainGlobals mg → mg d.name = some (.ref fa) →
      ∃ fd : FuncData, (∀ (s : Shared) (u : Value), BindsTo s fd ⟨[u], []⟩ [("_law_script", u)]) ∧ ∀ base : Heap, (K w.params).In base → base.Ns mainGlobals mg → FnOk l.prog w (K w.params) mg base CX0 42 fa fd ["_law_script"] (absSp (K w.params) spLaw)) :
    PySem.W.WalkO q loose XP YP l.row.toRowW d [] (fun f vs => PySem.call f vs) :=
  L2.walk_of (n := 63) (k := 42) (x := "_law_script") (CX := fun _ => CX0) (sp := fun w => absSp (K w.params) spLaw) hn (by decide) hdf ⟨rfl, by decide, by decide⟩ hY F (fun w H a ns hl _ hS => by
    have W : WOk (K w.params) [] [] [] H := ⟨rfl, List.nodup_nil, fun a h => (by cases h), fun b h => (by cases h), fun k a c e => (by cases e)⟩
    have hm : msk [] [] H = H := by
      funext b
      unfold msk
      rw [if_neg (by simp)]
    refine ⟨[], [], [], [.scr (ns.map D.int)], fun d _ => d = .bl true, W, .cons (.scr (by rw [hm]; exact hS) (Reps.of_ints ns)) .nil, ⟨ns, rfl, rfl⟩, fun d μ' e v H' α' _ _ r => ?_⟩
    subst e
    exact r.blV) fun _ _ _ _ _ z => z
theorem fin {l : PySem.W.OpenLaw} {w : World} {K : PySem.W.Frag} {mg : Str → Option Value} {fa : Addr} (G : Facts K mg) (U : SupF l.prog K mg G) (D0 : DefF K mg "law" "law" s_law ["_law_script"]) (hb : ∀ (s : Shared) (v : Value), BindsTo s D0.fd ⟨[v], []⟩ [("_law_script", v)]) (hfa : mg "law" = some (.ref fa)) :
    ∃ fd : FuncData, (∀ (s : Shared) (u : Value), BindsTo s fd ⟨[u], []⟩ [("_law_script", u)]) ∧ ∀ base : Heap, K.In base → base.Ns mainGlobals mg → FnOk l.prog w K mg base CX0 42 fa fd ["_law_script"] (absSp K spLaw) := by
  have e := hfa.symm.trans D0.m
  cases e
  exact ⟨D0.fd, hb, fun base _ _ => ok_law G U D0⟩
end HF
section
open PySem PySem.W PyProof.Rows
set_option maxHeartbeats 0
open_top hd for PySem.Challenge.rw_hiddenforks_k45_whole_other_names_and_ha
theorem PySem.Challenge.cw_hiddenforks_k45_whole_other_names_and_ha_holds : PySem.Challenge.rw_hiddenforks_k45_whole_other_names_and_ha.Holds :=
  hd (by
  k_fill
  refine HF.walkH (l := PySem.Challenge.rw_hiddenforks_k45_whole_other_names_and_ha) rfl rfl (fun w h Y => PySem.W.kIn_of Y) ?F
  case F =>
    intro w mg fa h KX G hmg
    refine' HF.go_def KX G HF.hb_asTuples ?a_1 ?l_1 ?c_1 ?k_1 ?r_1
    (case a_1 => k_is); (case l_1 => k_is); (case c_1 => k_is); (case k_1 => k_is)
    intro e_asTuples
    refine' HF.go_def KX G HF.hb_eventsOf ?a_2 ?l_2 ?c_2 ?k_2 ?r_2
    (case a_2 => k_is); (case l_2 => k_is); (case c_2 => k_is); (case k_2 => k_is)
    intro e_eventsOf
    refine' HF.go_def KX G HF.hb_looks ?a_3 ?l_3 ?c_3 ?k_3 ?r_3
    (case a_3 => k_is); (case l_3 => k_is); (case c_3 => k_is); (case k_3 => k_is)
    intro e_looks
    refine' HF.go_def KX G HF.hb_adds ?a_4 ?l_4 ?c_4 ?k_4 ?r_4
    (case a_4 => k_is); (case l_4 => k_is); (case c_4 => k_is); (case k_4 => k_is)
    intro e_adds
    refine' HF.go_def KX G HF.hb_checkLook ?a_5 ?l_5 ?c_5 ?k_5 ?r_5
    (case a_5 => k_is); (case l_5 => k_is); (case c_5 => k_is); (case k_5 => k_is)
    intro e_checkLook
    refine' HF.go_def KX G HF.hb_choices ?a_6 ?l_6 ?c_6 ?k_6 ?r_6
    (case a_6 => k_is); (case l_6 => k_is); (case c_6 => k_is); (case k_6 => k_is)
    intro e_choices
    refine' HF.go_def KX G HF.hb_checkPeople ?a_7 ?l_7 ?c_7 ?k_7 ?r_7
    (case a_7 => k_is); (case l_7 => k_is); (case c_7 => k_is); (case k_7 => k_is)
    intro e_checkPeople
    refine' HF.go_def KX G HF.hb_checkWishes ?a_8 ?l_8 ?c_8 ?k_8 ?r_8
    (case a_8 => k_is); (case l_8 => k_is); (case c_8 => k_is); (case k_8 => k_is)
    intro e_checkWishes
    refine' HF.go_def KX G HF.hb_branch ?a_9 ?l_9 ?c_9 ?k_9 ?r_9
    (case a_9 => k_is); (case l_9 => k_is); (case c_9 => k_is); (case k_9 => k_is)
    intro e_branch
    refine' HF.go_def KX G HF.hb_keptPeople ?a_10 ?l_10 ?c_10 ?k_10 ?r_10
    (case a_10 => k_is); (case l_10 => k_is); (case c_10 => k_is); (case k_10 => k_is)
    intro e_keptPeople
    refine' HF.go_def KX G HF.hb_keptFrom ?a_11 ?l_11 ?c_11 ?k_11 ?r_11
    (case a_11 => k_is); (case l_11 => k_is); (case c_11 => k_is); (case k_11 => k_is)
    intro e_keptFrom
    refine' HF.go_def KX G HF.hb_knownAt ?a_12 ?l_12 ?c_12 ?k_12 ?r_12
    (case a_12 => k_is); (case l_12 => k_is); (case c_12 => k_is); (case k_12 => k_is)
    intro e_knownAt
    refine' HF.go_def KX G HF.hb_wayOf ?a_13 ?l_13 ?c_13 ?k_13 ?r_13
    (case a_13 => k_is); (case l_13 => k_is); (case c_13 => k_is); (case k_13 => k_is)
    intro e_wayOf
    refine' HF.go_def KX G HF.hb_keepWay ?a_14 ?l_14 ?c_14 ?k_14 ?r_14
    (case a_14 => k_is); (case l_14 => k_is); (case c_14 => k_is); (case k_14 => k_is)
    intro e_keepWay
    refine' HF.go_def KX G HF.hb_audiences ?a_15 ?l_15 ?c_15 ?k_15 ?r_15
    (case a_15 => k_is); (case l_15 => k_is); (case c_15 => k_is); (case k_15 => k_is)
    intro e_audiences
    refine' HF.go_def KX G HF.hb_clash ?a_16 ?l_16 ?c_16 ?k_16 ?r_16
    (case a_16 => k_is); (case l_16 => k_is); (case c_16 => k_is); (case k_16 => k_is)
    intro e_clash
    refine' HF.go_def KX G HF.hb_lawTake ?a_17 ?l_17 ?c_17 ?k_17 ?r_17
    (case a_17 => k_is); (case l_17 => k_is); (case c_17 => k_is); (case k_17 => k_is)
    intro e_lawTake
    refine' HF.go_def KX G HF.hb_lawEvent ?a_18 ?l_18 ?c_18 ?k_18 ?r_18
    (case a_18 => k_is); (case l_18 => k_is); (case c_18 => k_is); (case k_18 => k_is)
    intro e_lawEvent
    refine' HF.go_def KX G HF.hb_lawTable ?a_19 ?l_19 ?c_19 ?k_19 ?r_19
    (case a_19 => k_is); (case l_19 => k_is); (case c_19 => k_is); (case k_19 => k_is)
    intro e_lawTable
    refine' HF.go_def KX G HF.hb_lawLive ?a_20 ?l_20 ?c_20 ?k_20 ?r_20
    (case a_20 => k_is); (case l_20 => k_is); (case c_20 => k_is); (case k_20 => k_is)
    intro e_lawLive
    refine' HF.go_def KX G HF.hb_lawCrossed ?a_21 ?l_21 ?c_21 ?k_21 ?r_21
    (case a_21 => k_is); (case l_21 => k_is); (case c_21 => k_is); (case k_21 => k_is)
    intro e_lawCrossed
    refine' HF.go_def KX G HF.hb_lawPassed ?a_22 ?l_22 ?c_22 ?k_22 ?r_22
    (case a_22 => k_is); (case l_22 => k_is); (case c_22 => k_is); (case k_22 => k_is)
    intro e_lawPassed
    refine' HF.go_def KX G HF.hb_lawClosed ?a_23 ?l_23 ?c_23 ?k_23 ?r_23
    (case a_23 => k_is); (case l_23 => k_is); (case c_23 => k_is); (case k_23 => k_is)
    intro e_lawClosed
    refine' HF.go_def KX G HF.hb_lawWeb ?a_24 ?l_24 ?c_24 ?k_24 ?r_24
    (case a_24 => k_is); (case l_24 => k_is); (case c_24 => k_is); (case k_24 => k_is)
    intro e_lawWeb
    refine' HF.go_def KX G HF.hb_lawOf ?a_25 ?l_25 ?c_25 ?k_25 ?r_25
    (case a_25 => k_is); (case l_25 => k_is); (case c_25 => k_is); (case k_25 => k_is)
    intro e_lawOf
    refine' HF.go_def KX G HF.hb_lawDrawWants ?a_26 ?l_26 ?c_26 ?k_26 ?r_26
    (case a_26 => k_is); (case l_26 => k_is); (case c_26 => k_is); (case k_26 => k_is)
    intro e_lawDrawWants
    refine' HF.go_def KX G HF.hb_lawSame ?a_27 ?l_27 ?c_27 ?k_27 ?r_27
    (case a_27 => k_is); (case l_27 => k_is); (case c_27 => k_is); (case k_27 => k_is)
    intro e_lawSame
    refine' HF.go_def KX G HF.hb_lawBox ?a_28 ?l_28 ?c_28 ?k_28 ?r_28
    (case a_28 => k_is); (case l_28 => k_is); (case c_28 => k_is); (case k_28 => k_is)
    intro e_lawBox
    refine' HF.go_def KX G HF.hb_lawMoved ?a_29 ?l_29 ?c_29 ?k_29 ?r_29
    (case a_29 => k_is); (case l_29 => k_is); (case c_29 => k_is); (case k_29 => k_is)
    intro e_lawMoved
    refine' HF.go_def KX G HF.hb_lawAllTold ?a_30 ?l_30 ?c_30 ?k_30 ?r_30
    (case a_30 => k_is); (case l_30 => k_is); (case c_30 => k_is); (case k_30 => k_is)
    intro e_lawAllTold
    refine' HF.go_def KX G HF.hb_lawRenamed ?a_31 ?l_31 ?c_31 ?k_31 ?r_31
    (case a_31 => k_is); (case l_31 => k_is); (case c_31 => k_is); (case k_31 => k_is)
    intro e_lawRenamed
    refine' HF.go_def KX G HF.hb_lawMixed ?a_32 ?l_32 ?c_32 ?k_32 ?r_32
    (case a_32 => k_is); (case l_32 => k_is); (case c_32 => k_is); (case k_32 => k_is)
    intro e_lawMixed
    refine' HF.go_def KX G HF.hb_lawRight ?a_33 ?l_33 ?c_33 ?k_33 ?r_33
    (case a_33 => k_is); (case l_33 => k_is); (case c_33 => k_is); (case k_33 => k_is)
    intro e_lawRight
    refine' HF.go_cls KX G "Bonds" ?a_34 ?pg_34 ?hd_34 ?po_34 ?sa_34 ?mk_34 ?kc_34 ?r_34
    (case a_34 => k_is); (case pg_34 => k_is); (case hd_34 => k_is); (case po_34 => k_is); (case sa_34 => k_is); (case mk_34 => k_is); (case kc_34 => k_is)
    intro c_Bonds m_Bonds k_Bonds q_Bonds
    refine' HF.go_cls KX G "Keeping" ?a_35 ?pg_35 ?hd_35 ?po_35 ?sa_35 ?mk_35 ?kc_35 ?r_35
    (case a_35 => k_is); (case pg_35 => k_is); (case hd_35 => k_is); (case po_35 => k_is); (case sa_35 => k_is); (case mk_35 => k_is); (case kc_35 => k_is)
    intro c_Keeping m_Keeping k_Keeping q_Keeping
    refine' HF.go_cls KX G "Audience" ?a_36 ?pg_36 ?hd_36 ?po_36 ?sa_36 ?mk_36 ?kc_36 ?r_36
    (case a_36 => k_is); (case pg_36 => k_is); (case hd_36 => k_is); (case po_36 => k_is); (case sa_36 => k_is); (case mk_36 => k_is); (case kc_36 => k_is)
    intro c_Audience m_Audience k_Audience q_Audience
    refine' HF.go_na c_Bonds "own_people" ?n_37 ?r_37
    (case n_37 => k_is)
    intro nB_own_people
    refine' HF.go_na c_Bonds "own_events" ?n_38 ?r_38
    (case n_38 => k_is)
    intro nB_own_events
    refine' HF.go_na c_Bonds "own_kind" ?n_39 ?r_39
    (case n_39 => k_is)
    intro nB_own_kind
    refine' HF.go_na c_Bonds "own_gone" ?n_40 ?r_40
    (case n_40 => k_is)
    intro nB_own_gone
    refine' HF.go_na c_Bonds "own_looks" ?n_41 ?r_41
    (case n_41 => k_is)
    intro nB_own_looks
    refine' HF.go_na c_Bonds "own_adds" ?n_42 ?r_42
    (case n_42 => k_is)
    intro nB_own_adds
    refine' HF.go_na c_Bonds "own_alike" ?n_43 ?r_43
    (case n_43 => k_is)
    intro nB_own_alike
    refine' HF.go_na c_Bonds "own_below" ?n_44 ?r_44
    (case n_44 => k_is)
    intro nB_own_below
    refine' HF.go_na c_Bonds "own_has" ?n_45 ?r_45
    (case n_45 => k_is)
    intro nB_own_has
    refine' HF.go_na c_Bonds "own_facts" ?n_46 ?r_46
    (case n_46 => k_is)
    intro nB_own_facts
    refine' HF.go_na c_Keeping "own_looks" ?n_47 ?r_47
    (case n_47 => k_is)
    intro nK_own_looks
    refine' HF.go_na c_Keeping "own_adds" ?n_48 ?r_48
    (case n_48 => k_is)
    intro nK_own_adds
    refine' HF.go_na c_Keeping "own_bonds" ?n_49 ?r_49
    (case n_49 => k_is)
    intro nK_own_bonds
    refine' HF.go_na c_Keeping "own_unlike" ?n_50 ?r_50
    (case n_50 => k_is)
    intro nK_own_unlike
    refine' HF.go_na c_Keeping "own_barred" ?n_51 ?r_51
    (case n_51 => k_is)
    intro nK_own_barred
    refine' HF.go_na c_Audience "own_bonds" ?n_52 ?r_52
    (case n_52 => k_is)
    intro nA_own_bonds
    refine' HF.go_na c_Audience "own_people" ?n_53 ?r_53
    (case n_53 => k_is)
    intro nA_own_people
    refine' HF.go_na c_Audience "own_mark" ?n_54 ?r_54
    (case n_54 => k_is)
    intro nA_own_mark
    refine' HF.go_na c_Audience "own_newest" ?n_55 ?r_55
    (case n_55 => k_is)
    intro nA_own_newest
    refine' HF.go_na c_Audience "own_before" ?n_56 ?r_56
    (case n_56 => k_is)
    intro nA_own_before
    refine' HF.go_mk2 c_Bonds k_Bonds q_Bonds rfl HF.hb_bInit0 HF.hb_bInit1 HF.hb_bInit2 ?a_57 ?i_57 ?l_57 ?c_57 ?k_57 ?lT_57 ?lE_57 ?lF_57 ?r_57
    (case a_57 => k_is); (case i_57 => k_is); (case l_57 => k_is); (case c_57 => k_is); (case k_57 => k_is); (case lT_57 => k_is); (case lE_57 => k_is); (case lF_57 => k_is)
    intro e_bInit
    refine' HF.go_met c_Bonds HF.hb_bMany ?a_58 ?i_58 ?l_58 ?c_58 ?k_58 ?r_58
    (case a_58 => k_is); (case i_58 => k_is); (case l_58 => k_is); (case c_58 => k_is); (case k_58 => k_is)
    intro e_bMany
    refine' HF.go_met c_Bonds HF.hb_bIsAlike ?a_59 ?i_59 ?l_59 ?c_59 ?k_59 ?r_59
    (case a_59 => k_is); (case i_59 => k_is); (case l_59 => k_is); (case c_59 => k_is); (case k_59 => k_is)
    intro e_bIsAlike
    refine' HF.go_met c_Bonds HF.hb_bIsBelow ?a_60 ?i_60 ?l_60 ?c_60 ?k_60 ?r_60
    (case a_60 => k_is); (case i_60 => k_is); (case l_60 => k_is); (case c_60 => k_is); (case k_60 => k_is)
    intro e_bIsBelow
    refine' HF.go_met c_Bonds HF.hb_bHas ?a_61 ?i_61 ?l_61 ?c_61 ?k_61 ?r_61
    (case a_61 => k_is); (case i_61 => k_is); (case l_61 => k_is); (case c_61 => k_is); (case k_61 => k_is)
    intro e_bHas
    refine' HF.go_met1 c_Bonds rfl HF.hb_bBind0 HF.hb_bBind1 ?a_62 ?i_62 ?l_62 ?c_62 ?k_62 ?lT_62 ?lE_62 ?r_62
    (case a_62 => k_is); (case i_62 => k_is); (case l_62 => k_is); (case c_62 => k_is); (case k_62 => k_is); (case lT_62 => k_is); (case lE_62 => k_is)
    intro e_bBind
    refine' HF.go_met1 c_Bonds rfl HF.hb_bLower0 HF.hb_bLower1 ?a_63 ?i_63 ?l_63 ?c_63 ?k_63 ?lT_63 ?lE_63 ?r_63
    (case a_63 => k_is); (case i_63 => k_is); (case l_63 => k_is); (case c_63 => k_is); (case k_63 => k_is); (case lT_63 => k_is); (case lE_63 => k_is)
    intro e_bLower
    refine' HF.go_met c_Bonds HF.hb_bGoThrough ?a_64 ?i_64 ?l_64 ?c_64 ?k_64 ?r_64
    (case a_64 => k_is); (case i_64 => k_is); (case l_64 => k_is); (case c_64 => k_is); (case k_64 => k_is)
    intro e_bGoThrough
    refine' HF.go_met c_Bonds HF.hb_bLooked ?a_65 ?i_65 ?l_65 ?c_65 ?k_65 ?r_65
    (case a_65 => k_is); (case i_65 => k_is); (case l_65 => k_is); (case c_65 => k_is); (case k_65 => k_is)
    intro e_bLooked
    refine' HF.go_met c_Bonds HF.hb_bCompared ?a_66 ?i_66 ?l_66 ?c_66 ?k_66 ?r_66
    (case a_66 => k_is); (case i_66 => k_is); (case l_66 => k_is); (case c_66 => k_is); (case k_66 => k_is)
    intro e_bCompared
    refine' HF.go_met c_Bonds HF.hb_bIsLate ?a_67 ?i_67 ?l_67 ?c_67 ?k_67 ?r_67
    (case a_67 => k_is); (case i_67 => k_is); (case l_67 => k_is); (case c_67 => k_is); (case k_67 => k_is)
    intro e_bIsLate
    refine' HF.go_met c_Bonds HF.hb_bClose ?a_68 ?i_68 ?l_68 ?c_68 ?k_68 ?r_68
    (case a_68 => k_is); (case i_68 => k_is); (case l_68 => k_is); (case c_68 => k_is); (case k_68 => k_is)
    intro e_bClose
    refine' HF.go_met c_Bonds HF.hb_bRules ?a_69 ?i_69 ?l_69 ?c_69 ?k_69 ?r_69
    (case a_69 => k_is); (case i_69 => k_is); (case l_69 => k_is); (case c_69 => k_is); (case k_69 => k_is)
    intro e_bRules
    refine' HF.go_met c_Bonds HF.hb_bNewest ?a_70 ?i_70 ?l_70 ?c_70 ?k_70 ?r_70
    (case a_70 => k_is); (case i_70 => k_is); (case l_70 => k_is); (case c_70 => k_is); (case k_70 => k_is)
    intro e_bNewest
    refine' HF.go_met c_Bonds HF.hb_bBefore ?a_71 ?i_71 ?l_71 ?c_71 ?k_71 ?r_71
    (case a_71 => k_is); (case i_71 => k_is); (case l_71 => k_is); (case c_71 => k_is); (case k_71 => k_is)
    intro e_bBefore
    refine' HF.go_met c_Keeping HF.hb_pEverything ?a_72 ?i_72 ?l_72 ?c_72 ?k_72 ?r_72
    (case a_72 => k_is); (case i_72 => k_is); (case l_72 => k_is); (case c_72 => k_is); (case k_72 => k_is)
    intro e_pEverything
    refine' HF.go_met c_Keeping HF.hb_pLastAdd ?a_73 ?i_73 ?l_73 ?c_73 ?k_73 ?r_73
    (case a_73 => k_is); (case i_73 => k_is); (case l_73 => k_is); (case c_73 => k_is); (case k_73 => k_is)
    intro e_pLastAdd
    refine' HF.go_met c_Keeping HF.hb_pIsFirst ?a_74 ?i_74 ?l_74 ?c_74 ?k_74 ?r_74
    (case a_74 => k_is); (case i_74 => k_is); (case l_74 => k_is); (case c_74 => k_is); (case k_74 => k_is)
    intro e_pIsFirst
    refine' HF.go_met c_Keeping HF.hb_pParts ?a_75 ?i_75 ?l_75 ?c_75 ?k_75 ?r_75
    (case a_75 => k_is); (case i_75 => k_is); (case l_75 => k_is); (case c_75 => k_is); (case k_75 => k_is)
    intro e_pParts
    refine' HF.go_met c_Keeping HF.hb_pFirsts ?a_76 ?i_76 ?l_76 ?c_76 ?k_76 ?r_76
    (case a_76 => k_is); (case i_76 => k_is); (case l_76 => k_is); (case c_76 => k_is); (case k_76 => k_is)
    intro e_pFirsts
    refine' HF.go_met c_Keeping HF.hb_pStuck ?a_77 ?i_77 ?l_77 ?c_77 ?k_77 ?r_77
    (case a_77 => k_is); (case i_77 => k_is); (case l_77 => k_is); (case c_77 => k_is); (case k_77 => k_is)
    intro e_pStuck
    refine' HF.go_met c_Keeping HF.hb_kIsFine ?a_78 ?i_78 ?l_78 ?c_78 ?k_78 ?r_78
    (case a_78 => k_is); (case i_78 => k_is); (case l_78 => k_is); (case c_78 => k_is); (case k_78 => k_is)
    intro e_kIsFine
    refine' HF.go_mk c_Audience k_Audience q_Audience HF.hb_aInit ?a_79 ?i_79 ?l_79 ?c_79 ?k_79 ?r_79
    (case a_79 => k_is); (case i_79 => k_is); (case l_79 => k_is); (case c_79 => k_is); (case k_79 => k_is)
    intro e_aInit
    refine' HF.go_met c_Audience HF.hb_aNumbers ?a_80 ?i_80 ?l_80 ?c_80 ?k_80 ?r_80
    (case a_80 => k_is); (case i_80 => k_is); (case l_80 => k_is); (case c_80 => k_is); (case k_80 => k_is)
    intro e_aNumbers
    refine' HF.go_met c_Audience HF.hb_aSets ?a_81 ?i_81 ?l_81 ?c_81 ?k_81 ?r_81
    (case a_81 => k_is); (case i_81 => k_is); (case l_81 => k_is); (case c_81 => k_is); (case k_81 => k_is)
    intro e_aSets
    refine' HF.go_met c_Audience HF.hb_aIsPossible ?a_82 ?i_82 ?l_82 ?c_82 ?k_82 ?r_82
    (case a_82 => k_is); (case i_82 => k_is); (case l_82 => k_is); (case c_82 => k_is); (case k_82 => k_is)
    intro e_aIsPossible
    refine' HF.go_met c_Audience HF.hb_aPartOf ?a_83 ?i_83 ?l_83 ?c_83 ?k_83 ?r_83
    (case a_83 => k_is); (case i_83 => k_is); (case l_83 => k_is); (case c_83 => k_is); (case k_83 => k_is)
    intro e_aPartOf
    refine' HF.go_met c_Audience HF.hb_aCut ?a_84 ?i_84 ?l_84 ?c_84 ?k_84 ?r_84
    (case a_84 => k_is); (case i_84 => k_is); (case l_84 => k_is); (case c_84 => k_is); (case k_84 => k_is)
    intro e_aCut
    refine' HF.go_met c_Audience HF.hb_aPeople ?a_85 ?i_85 ?l_85 ?c_85 ?k_85 ?r_85
    (case a_85 => k_is); (case i_85 => k_is); (case l_85 => k_is); (case c_85 => k_is); (case k_85 => k_is)
    intro e_aPeople
    refine' HF.go_no KX G "isinstance" ?n_86 ?r_86
    (case n_86 => k_is)
    intro n_isinstance
    refine' HF.go_no KX G "enumerate" ?n_87 ?r_87
    (case n_87 => k_is)
    intro n_enumerate
    refine' HF.go_no KX G "range" ?n_88 ?r_88
    (case n_88 => k_is)
    intro n_range
    refine' HF.go_no KX G "len" ?n_89 ?r_89
    (case n_89 => k_is)
    intro n_len
    refine' HF.go_no KX G "any" ?n_90 ?r_90
    (case n_90 => k_is)
    intro n_any
    refine' HF.go_no KX G "all" ?n_91 ?r_91
    (case n_91 => k_is)
    intro n_all
    refine' HF.go_no KX G "list" ?n_92 ?r_92
    (case n_92 => k_is)
    intro n_list
    refine' HF.go_no KX G "tuple" ?n_93 ?r_93
    (case n_93 => k_is)
    intro n_tuple
    refine' HF.go_no KX G "sorted" ?n_94 ?r_94
    (case n_94 => k_is)
    intro n_sorted
    refine' HF.go_no KX G "set" ?n_95 ?r_95
    (case n_95 => k_is)
    intro n_set
    refine' HF.go_no KX G "max" ?n_96 ?r_96
    (case n_96 => k_is)
    intro n_max
    refine' HF.go_no KX G "min" ?n_97 ?r_97
    (case n_97 => k_is)
    intro n_min
    refine' HF.go_no KX G "int" ?n_98 ?r_98
    (case n_98 => k_is)
    intro n_int
    refine' HF.go_no KX G "abs" ?n_99 ?r_99
    (case n_99 => k_is)
    intro n_abs
    refine' HF.go_no KX G "dict" ?n_100 ?r_100
    (case n_100 => k_is)
    intro n_dict
    refine' HF.go_no KX G "zip" ?n_101 ?r_101
    (case n_101 => k_is)
    intro n_zip
    refine' HF.go_no KX G "bool" ?n_102 ?r_102
    (case n_102 => k_is)
    intro n_bool
    refine' HF.go_no KX G "str" ?n_103 ?r_103
    (case n_103 => k_is)
    intro n_str
    refine' HF.go_gl KX G "LOOK" "look" ?n_104 ?r_104
    (case n_104 => k_is)
    intro g_LOOK
    refine' HF.go_gl KX G "ADD" "add" ?n_105 ?r_105
    (case n_105 => k_is)
    intro g_ADD
    refine' HF.go_gl KX G "MEET" "meet" ?n_106 ?r_106
    (case n_106 => k_is)
    intro g_MEET
    refine' HF.go_gl KX G "TELL" "tell" ?n_107 ?r_107
    (case n_107 => k_is)
    intro g_TELL
    refine' HF.go_gl KX G "LONG" "long" ?n_108 ?r_108
    (case n_108 => k_is)
    intro g_LONG
    refine' HF.go_gl KX G "ALIKE" "alike" ?n_109 ?r_109
    (case n_109 => k_is)
    intro g_ALIKE
    refine' HF.go_gl KX G "BEGINS" "begins" ?n_110 ?r_110
    (case n_110 => k_is)
    intro g_BEGINS
    refine' HF.go_gl KX G "NO" "no" ?n_111 ?r_111
    (case n_111 => k_is)
    intro g_NO
    refine' HF.go_gl KX G "DELAY" "delay" ?n_112 ?r_112
    (case n_112 => k_is)
    intro g_DELAY
    refine' HF.go_gl KX G "FORK" "fork" ?n_113 ?r_113
    (case n_113 => k_is)
    intro g_FORK
    refine' HF.go_no KX G "super" ?n_114 ?r_114
    (case n_114 => k_is)
    intro n_super
    refine' HF.go_law KX G ?a_115 ?l_115 ?c_115 ?k_115 ?r_115
    (case a_115 => k_is); (case l_115 => k_is); (case c_115 => k_is); (case k_115 => k_is)
    intro e_law b_law
    refine' HF.go_kinit (P := PySem.Challenge.rw_hiddenforks_k45_whole_other_names_and_ha.prog) c_Keeping k_Keeping q_Keeping ?a_116 ?i_116 ?l_116 ?c_116 ?lc_116 ?la_116 ?l2_116 ?lf_116 ?ld_116 ?lT_116 ?r_116
    (case a_116 => k_is); (case i_116 => k_is); (case l_116 => k_is); (case c_116 => k_is); (case lc_116 => k_is); (case la_116 => k_is)
    (case l2_116 => exact rfl); (case lf_116 => kernel_rfl)
    (case ld_116 => k_is); (case lT_116 => k_is)
    intro iF iFd iCc iCda iS iM iB0 iB1
    refine' HF.go_kstops (P := PySem.Challenge.rw_hiddenforks_k45_whole_other_names_and_ha.prog) c_Keeping ?a_117 ?i_117 ?kp_117 ?l_117 ?c_117 ?lc_117 ?la_117 ?l2_117 ?lf_117 ?ld_117 ?r_117
    (case a_117 => k_is); (case i_117 => k_is); (case kp_117 => k_is); (case l_117 => k_is); (case c_117 => k_is); (case lc_117 => k_is); (case la_117 => k_is)
    (case l2_117 => exact rfl); (case lf_117 => kernel_rfl)
    (case ld_117 => k_is)
    intro sF sFd sCc sCda sS sM sB
    refine' HF.go_pinit c_Keeping ?aP_118 ?a_118 ?l_118 ?c_118 ?k_118 ?lT_118 ?lE_118 ?lF_118 ?s1_118 ?s2_118 ?s3_118 ?s4_118 ?s5_118 ?r_118
    (case aP_118 => k_is); (case a_118 => k_is); (case l_118 => k_is); (case c_118 => k_is); (case k_118 => k_is); (case lT_118 => k_is); (case lE_118 => k_is); (case lF_118 => k_is); (case s1_118 => k_is); (case s2_118 => k_is)
    (case s3_118 => kernel_rfl)
    (case s4_118 => k_is); (case s5_118 => k_is)
    intro pF pFd pDv pFun pSup pB
    refine' HF.go_pstops c_Keeping ?aP_119 ?a_119 ?l_119 ?c_119 ?k_119 ?s1_119 ?s2_119 ?s3_119 ?s4_119 ?s5_119 ?r_119
    (case aP_119 => k_is); (case a_119 => k_is); (case l_119 => k_is); (case c_119 => k_is); (case k_119 => k_is); (case s1_119 => k_is); (case s2_119 => k_is)
    (case s3_119 => kernel_rfl)
    (case s4_119 => k_is); (case s5_119 => k_is)
    intro qF qFd qFun qSup qB
    exact HF.fin (l := PySem.Challenge.rw_hiddenforks_k45_whole_other_names_and_ha) { asTuples := e_asTuples, eventsOf := e_eventsOf, looks := e_looks, adds := e_adds, checkLook := e_checkLook, choices := e_choices, checkPeople := e_checkPeople, checkWishes := e_checkWishes, branch := e_branch, keptPeople := e_keptPeople, keptFrom := e_keptFrom, knownAt := e_knownAt, wayOf := e_wayOf, keepWay := e_keepWay, audiences := e_audiences, clash := e_clash, lawTake := e_lawTake, lawEvent := e_lawEvent, lawTable := e_lawTable, lawLive := e_lawLive, lawCrossed := e_lawCrossed, lawPassed := e_lawPassed, lawClosed := e_lawClosed, lawWeb := e_lawWeb, lawOf := e_lawOf, lawDrawWants := e_lawDrawWants, lawSame := e_lawSame, lawBox := e_lawBox, lawMoved := e_lawMoved, lawAllTold := e_lawAllTold, lawRenamed := e_lawRenamed, lawMixed := e_lawMixed, lawRight := e_lawRight, CBonds := _, clsBonds := c_Bonds, mBonds := m_Bonds, CKeeping := _, clsKeeping := c_Keeping, mKeeping := m_Keeping, CAudience := _, clsAudience := c_Audience, mAudience := m_Audience, naB_own_people := nB_own_people, naB_own_events := nB_own_events, naB_own_kind := nB_own_kind, naB_own_gone := nB_own_gone, naB_own_looks := nB_own_looks, naB_own_adds := nB_own_adds, naB_own_alike := nB_own_alike, naB_own_below := nB_own_below, naB_own_has := nB_own_has, naB_own_facts := nB_own_facts, naK_own_looks := nK_own_looks, naK_own_adds := nK_own_adds, naK_own_bonds := nK_own_bonds, naK_own_unlike := nK_own_unlike, naK_own_barred := nK_own_barred, naA_own_bonds := nA_own_bonds, naA_own_people := nA_own_people, naA_own_mark := nA_own_mark, naA_own_newest := nA_own_newest, naA_own_before := nA_own_before, bInit := e_bInit, bMany := e_bMany, bIsAlike := e_bIsAlike, bIsBelow := e_bIsBelow, bHas := e_bHas, bBind := e_bBind, bLower := e_bLower, bGoThrough := e_bGoThrough, bLooked := e_bLooked, bCompared := e_bCompared, bIsLate := e_bIsLate, bClose := e_bClose, bRules := e_bRules, bNewest := e_bNewest, bBefore := e_bBefore, pEverything := e_pEverything, pLastAdd := e_pLastAdd, pIsFirst := e_pIsFirst, pParts := e_pParts, pFirsts := e_pFirsts, pStuck := e_pStuck, kIsFine := e_kIsFine, aInit := e_aInit, aNumbers := e_aNumbers, aSets := e_aSets, aIsPossible := e_aIsPossible, aPartOf := e_aPartOf, aCut := e_aCut, aPeople := e_aPeople, n_isinstance := n_isinstance, n_enumerate := n_enumerate, n_range := n_range, n_len := n_len, n_any := n_any, n_all := n_all, n_list := n_list, n_tuple := n_tuple, n_sorted := n_sorted, n_set := n_set, n_max := n_max, n_min := n_min, n_int := n_int, n_abs := n_abs, n_dict := n_dict, n_zip := n_zip, n_bool := n_bool, n_str := n_str, g_LOOK := g_LOOK, g_ADD := g_ADD, g_MEET := g_MEET, g_TELL := g_TELL, g_LONG := g_LONG, g_ALIKE := g_ALIKE, g_BEGINS := g_BEGINS, g_NO := g_NO, g_DELAY := g_DELAY, g_FORK := g_FORK } ⟨by kernel_rfl, n_super, iF, iFd, iCc, iCda, iS, iM, iB0, iB1, sF, sFd, sCc, sCda, sS, sM, sB, pF, pFd, pDv, pFun, pSup, pB, qF, qFd, qFun, qSup, qB⟩ e_law b_law hmg)
end
#print axioms PySem.Challenge.cw_hiddenforks_k45_whole_other_names_and_ha_holds
