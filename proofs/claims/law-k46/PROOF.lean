import PyProof.Rows.All
import Wide.All
import OpenK.AllK
import Wide.FinOn
import HandS.ForMost
import HandS.IsInst
import HandS.TupAny
import HandS.TupMul
import HandS.TupLe
import HandS.Deep
import KE.DataEq
import KE.DataCmp
import KE.DataMinMax
import KE.DataFind
import KE.DataAny
import KE.SortData
import HandS.Zip
import HandS.Style
import HandS.Flow
import KE.GoesEnum
import KE.GoesMore
import KE.DatumIndex
import PySem.Challenge.RW_castlehold_k46_whole_clashes_of_arms
set_option Elab.async false
set_option linter.all false
set_option maxRecDepth 100000
set_option maxHeartbeats 4000000
namespace DL
open PySem PySem.Spec PyProof.Rows L2

/-! ### data -/
inductive D where
  | non | bl (b : Bool) | int (i : Int) | str (x : Str)
  | tup (xs : List D) | lst (xs : List D) | dct (ks vs : List D) | scr (ns : List Int)

/-- an object that may be changed in place -/
def Wr : Option HO → Prop
  | some (.lst _) => True
  | some (.ext _) => True
  | _ => False

/-- the script's list -/
def ScrAt (K : PySem.W.Frag) (H : Hp) (a : Addr) (ns : List Int) : Prop := (∃ o, H a = some (.frz o (.lst (ns.map V.int)))) ∨ ∀ H', SqL K H' a (ns.map V.int)
theorem ScrAt.seq {K : PySem.W.Frag} {H : Hp} {a : Addr} {ns : List Int} (h : ScrAt K H a ns) : SqL K H a (ns.map V.int) := by
  rcases h with ⟨o, h⟩ | h
  · exact .inl (.inr ⟨o, h⟩)
  · exact h H

mutual
def Rep (K : PySem.W.Frag) (U : Addr → Prop) (H : Hp) : D → V → Prop
  | .non, v => v = .non
  | .bl b, v => v = .bl b
  | .int i, v => v = .int i
  | .str x, v => v = .str x
  | .tup ds, v => ∃ a xs, v = .ref a ∧ SqT K H a xs ∧ Reps K U H ds xs
  | .lst ds, v => ∃ a xs, v = .ref a ∧ ¬ U a ∧ H a = some (.lst xs) ∧ Reps K U H ds xs
  | .dct _ _, _ => False
  | .scr ns, v => ∃ a, v = .ref a ∧ ScrAt K H a ns
def Reps (K : PySem.W.Frag) (U : Addr → Prop) (H : Hp) : List D → List V → Prop
  | [], xs => xs = []
  | d :: ds, xs => ∃ x r, xs = x :: r ∧ Rep K U H d x ∧ Reps K U H ds r
end

section
variable {K : PySem.W.Frag} {U U' W : Addr → Prop} {H H' : Hp}

theorem SqT.stepW {a : Addr} {xs : List V} (hF : ∀ b o, H b = some o → ¬ W b → H' b = some o) (hW : ∀ b, W b → Wr (H b)) (h : SqT K H a xs) : SqT K H' a xs := by
  rcases h with (h | ⟨o, h⟩) | h
  · refine .inl (.inl (hF _ _ h fun w => ?_))
    have := hW _ w
    rw [h] at this
    exact this
  · refine .inl (.inr ⟨o, hF _ _ h fun w => ?_⟩)
    have := hW _ w
    rw [h] at this
    exact this
  · exact .inr h
theorem SqL.stepW {a : Addr} {xs : List V} (hF : ∀ b o, H b = some o → ¬ W b → H' b = some o) (hn : ¬ W a) (h : SqL K H a xs) : SqL K H' a xs := by
  rcases h with (h | ⟨o, h⟩) | h
  · exact .inl (.inl (hF _ _ h hn))
  · exact .inl (.inr ⟨o, hF _ _ h hn⟩)
  · exact .inr h
theorem Rd.stepW {a : Addr} {u : HO} (hF : ∀ b o, H b = some o → ¬ W b → H' b = some o) (hn : ¬ W a) (h : Rd H a u) : Rd H' a u := by
  rcases h with h | ⟨o, h⟩
  · exact .inl (hF _ _ h hn)
  · exact .inr ⟨o, hF _ _ h hn⟩
theorem Rd.ne {a : Addr} {u : HO} (h : Rd H a u) : H a ≠ none := by
  rcases h with h | ⟨o, h⟩ <;> rw [h] <;> exact fun z => nomatch z

mutual
theorem Rep.step (hF : ∀ b o, H b = some o → ¬ W b → H' b = some o) (hW : ∀ b, W b → U b ∧ Wr (H b)) (hU : ∀ b, U' b → U b ∨ H b = none) :
    ∀ (d : D) (v : V), Rep K U H d v → Rep K U' H' d v
  | .non, _, h => h
  | .bl _, _, h => h
  | .int _, _, h => h
  | .str _, _, h => h
  | .tup ds, v, h => by
    simp only [Rep] at h ⊢
    obtain ⟨a, xs, e, hs, hr⟩ := h
    exact ⟨a, xs, e, SqT.stepW hF (fun b w => (hW b w).2) hs, Reps.step hF hW hU ds xs hr⟩
  | .lst ds, v, h => by
    simp only [Rep] at h ⊢
    obtain ⟨a, xs, e, hn, hs, hr⟩ := h
    refine ⟨a, xs, e, fun u => ?_, hF _ _ hs fun w => hn (hW a w).1, Reps.step hF hW hU ds xs hr⟩
    rcases hU a u with z | z
    · exact hn z
    · rw [hs] at z; cases z
  | .dct _ _, _, h => h.elim
  | .scr ns, v, h => by
    simp only [Rep] at h ⊢
    obtain ⟨a, e, hs⟩ := h
    refine ⟨a, e, ?_⟩
    rcases hs with ⟨o, hs⟩ | hs
    · refine .inl ⟨o, hF _ _ hs fun w => ?_⟩
      have := (hW _ w).2
      rw [hs] at this
      exact this
    · exact .inr hs
theorem Reps.step (hF : ∀ b o, H b = some o → ¬ W b → H' b = some o) (hW : ∀ b, W b → U b ∧ Wr (H b)) (hU : ∀ b, U' b → U b ∨ H b = none) :
    ∀ (ds : List D) (xs : List V), Reps K U H ds xs → Reps K U' H' ds xs
  | [], _, h => h
  | d :: ds, xs, h => by
    simp only [Reps] at h ⊢
    obtain ⟨x, r, e, h1, h2⟩ := h
    exact ⟨x, r, e, Rep.step hF hW hU d x h1, Reps.step hF hW hU ds r h2⟩
end
theorem Reps.len : ∀ (ds : List D) (xs : List V), Reps K U H ds xs → xs.length = ds.length
  | [], _, h => by simp only [Reps] at h; subst h; rfl
  | d :: ds, _, h => by
    simp only [Reps] at h
    obtain ⟨x, r, rfl, _, h2⟩ := h
    simp [Reps.len ds r h2]
theorem Reps.get : ∀ {ds : List D} {xs : List V} {i : Nat} {d : D}, Reps K U H ds xs → ds[i]? = some d → ∃ x, xs[i]? = some x ∧ Rep K U H d x
  | [], _, _, _, _, e => by simp at e
  | d :: ds, xs, i, d', h, e => by
    simp only [Reps] at h
    obtain ⟨x, r, rfl, h1, h2⟩ := h
    cases i with
    | zero => simp at e; subst e; exact ⟨x, rfl, h1⟩
    | succ i => simpa using Reps.get (i := i) h2 (by simpa using e)
theorem Reps.get' : ∀ {ds : List D} {xs : List V} {i : Nat} {x : V}, Reps K U H ds xs → xs[i]? = some x → ∃ d, ds[i]? = some d ∧ Rep K U H d x := by
  intro ds xs i x h e
  have hl := Reps.len _ _ h
  have hi : i < ds.length := by rw [← hl]; exact (List.getElem?_eq_some_iff.mp e).1
  obtain ⟨x', e', r⟩ := Reps.get (i := i) h (List.getElem?_eq_getElem hi)
  rw [e] at e'; cases e'
  exact ⟨_, List.getElem?_eq_getElem hi, r⟩
theorem Reps.append : ∀ {ds es : List D} {xs ys : List V}, Reps K U H ds xs → Reps K U H es ys → Reps K U H (ds ++ es) (xs ++ ys)
  | [], _, _, _, h, h' => by simp only [Reps] at h; subst h; simpa using h'
  | d :: ds, es, xs, ys, h, h' => by
    simp only [Reps] at h
    obtain ⟨x, r, rfl, h1, h2⟩ := h
    show Reps K U H (d :: (ds ++ es)) (x :: (r ++ ys))
    simp only [Reps]
    exact ⟨x, _, rfl, h1, Reps.append h2 h'⟩
theorem Reps.take : ∀ {ds : List D} {xs : List V} (n : Nat), Reps K U H ds xs → Reps K U H (ds.take n) (xs.take n)
  | [], _, n, h => by simp only [Reps] at h; subst h; simp [Reps]
  | d :: ds, xs, 0, h => by simp [Reps]
  | d :: ds, xs, n + 1, h => by
    simp only [Reps] at h
    obtain ⟨x, r, rfl, h1, h2⟩ := h
    simp only [List.take_succ_cons, Reps]
    exact ⟨x, _, rfl, h1, Reps.take n h2⟩
theorem Reps.drop : ∀ {ds : List D} {xs : List V} (n : Nat), Reps K U H ds xs → Reps K U H (ds.drop n) (xs.drop n)
  | [], _, n, h => by simp only [Reps] at h; subst h; simp [Reps]
  | d :: ds, xs, 0, h => by simpa using h
  | d :: ds, xs, n + 1, h => by
    simp only [Reps] at h
    obtain ⟨x, r, rfl, h1, h2⟩ := h
    simp only [List.drop_succ_cons]
    exact Reps.drop n h2
theorem Reps.set : ∀ {ds : List D} {xs : List V} {d : D} {x : V} (i : Nat), Reps K U H ds xs → Rep K U H d x → Reps K U H (ds.set i d) (xs.set i x)
  | [], _, _, _, _, h, _ => by simp only [Reps] at h; subst h; simp [Reps]
  | e :: ds, xs, d, x, i, h, hd => by
    simp only [Reps] at h
    obtain ⟨y, r, rfl, h1, h2⟩ := h
    cases i with
    | zero => simp only [List.set_cons_zero, Reps]; exact ⟨x, r, rfl, hd, h2⟩
    | succ i => simp only [List.set_cons_succ, Reps]; exact ⟨y, _, rfl, h1, Reps.set i h2 hd⟩
theorem Reps.of_all : ∀ {ds : List D} {xs : List V}, xs.length = ds.length → (∀ (i : Nat) (d : D) (x : V), ds[i]? = some d → xs[i]? = some x → Rep K U H d x) → Reps K U H ds xs
  | [], xs, hl, _ => by simp only [Reps]; cases xs with
    | nil => rfl
    | cons => simp at hl
  | d :: ds, xs, hl, h => by
    cases xs with
    | nil => simp at hl
    | cons x r =>
      simp only [Reps]
      exact ⟨x, r, rfl, h 0 d x rfl rfl, Reps.of_all (by simpa using hl) fun i d' x' e1 e2 => h (i + 1) d' x' (by simpa using e1) (by simpa using e2)⟩
theorem Reps.single {d : D} {x : V} (h : Rep K U H d x) : Reps K U H [d] [x] := by
  simp only [Reps]
  exact ⟨x, [], rfl, h, rfl⟩

/-! ### a changing object's content -/
def Top (K : PySem.W.Frag) (U : Addr → Prop) (H : Hp) (d : D) (a : Addr) : Prop := match d with
  | .lst ds => ∃ xs, H a = some (.lst xs) ∧ Reps K U H ds xs
  | _ => False
/-- a value whose own object may be one that is changed later -/
def RepT (K : PySem.W.Frag) (U : Addr → Prop) (H : Hp) (d : D) (v : V) : Prop := match d with
  | .lst ds => ∃ a xs, v = .ref a ∧ H a = some (.lst xs) ∧ Reps K U H ds xs
  | d => Rep K U H d v
def RepTs (K : PySem.W.Frag) (U : Addr → Prop) (H : Hp) : List D → List V → Prop
  | [], xs => xs = []
  | d :: ds, xs => ∃ x r, xs = x :: r ∧ RepT K U H d x ∧ RepTs K U H ds r
theorem Rep.t {d : D} {v : V} (h : Rep K U H d v) : RepT K U H d v := by
  cases d <;> first
    | exact h
    | (simp only [Rep] at h
       obtain ⟨a, xs, e, _, hs, hr⟩ := h
       exact ⟨a, xs, e, hs, hr⟩)
theorem Top.wr {d : D} {a : Addr} (h : Top K U H d a) : Wr (H a) := by
  cases d <;> first
    | exact h.elim
    | (obtain ⟨xs, e, _⟩ := h
       rw [e]
       trivial)
theorem Top.ne_none {d : D} {a : Addr} (h : Top K U H d a) : H a ≠ none := fun z => by
  have := h.wr
  rw [z] at this
  exact this
theorem Top.step (hF : ∀ b o, H b = some o → ¬ W b → H' b = some o) (hW : ∀ b, W b → U b ∧ Wr (H b)) (hU : ∀ b, U' b → U b ∨ H b = none) {d : D} {a : Addr} (ha : ¬ W a) (h : Top K U H d a) : Top K U' H' d a := by
  cases d <;> first
    | exact h.elim
    | (obtain ⟨xs, e, hr⟩ := h
       exact ⟨xs, hF _ _ e ha, Reps.step hF hW hU _ _ hr⟩)
theorem RepT.step (hF : ∀ b o, H b = some o → ¬ W b → H' b = some o) (hW : ∀ b, W b → U b ∧ Wr (H b)) (hU : ∀ b, U' b → U b ∨ H b = none) {d : D} {v : V} (ha : ∀ a, v = .ref a → ¬ W a) (h : RepT K U H d v) : RepT K U' H' d v := by
  cases d <;> first
    | exact Rep.step hF hW hU _ _ h
    | (obtain ⟨a, xs, e, hs, hr⟩ := h
       exact ⟨a, xs, e, hF _ _ hs (ha a e), Reps.step hF hW hU _ _ hr⟩)
theorem RepTs.step (hF : ∀ b o, H b = some o → ¬ W b → H' b = some o) (hW : ∀ b, W b → U b ∧ Wr (H b)) (hU : ∀ b, U' b → U b ∨ H b = none) : ∀ {ds : List D} {vs : List V}, (∀ a, V.ref a ∈ vs → ¬ W a) → RepTs K U H ds vs → RepTs K U' H' ds vs
  | [], _, _, h => h
  | d :: ds, _, hn, h => by
    obtain ⟨x, r, rfl, h1, h2⟩ := h
    exact ⟨x, r, rfl, h1.step hF hW hU fun a e => hn a (by rw [e]; exact List.mem_cons_self), RepTs.step hF hW hU (fun a m => hn a (List.mem_cons_of_mem _ m)) h2⟩
theorem Reps.ts : ∀ {ds : List D} {vs : List V}, Reps K U H ds vs → RepTs K U H ds vs
  | [], _, h => by simp only [Reps] at h; exact h
  | d :: ds, _, h => by
    simp only [Reps] at h
    obtain ⟨x, r, rfl, h1, h2⟩ := h
    exact ⟨x, r, rfl, h1.t, Reps.ts h2⟩
theorem Top.t {d : D} {a : Addr} (h : Top K U H d a) : RepT K U H d (.ref a) := by
  cases d <;> first
    | exact h.elim
    | (obtain ⟨xs, e, hr⟩ := h
       exact ⟨a, xs, rfl, e, hr⟩)
theorem Top.rep {d : D} {a : Addr} (h : Top K U H d a) (hn : ¬ U a) : Rep K U H d (.ref a) := by
  cases d <;> first
    | exact h.elim
    | (obtain ⟨xs, e, hr⟩ := h
       simp only [Rep]
       exact ⟨a, xs, rfl, hn, e, hr⟩)
end

/-! ### what the names hold -/
inductive Sl where
  | no | sh (d : D) | ow (d : D)
abbrev Env := List Sl
/-- the objects that only one name holds -/
abbrev Ow := Nat → Option Addr
def Un (O : Addr → Prop) (A : Ow) (b : Addr) : Prop := O b ∨ ∃ i, A i = some b
def SlotOk (K : PySem.W.Frag) (U : Addr → Prop) (σ : L2.St) (H : Hp) (o : Option Addr) (i : Nat) : Option Sl → Prop
  | none => o = none
  | some .no => o = none
  | some (.sh d) => o = none ∧ ∃ v, σ[i]? = some (some v) ∧ Rep K U H d v
  | some (.ow d) => ∃ a, o = some a ∧ σ[i]? = some (some (.ref a)) ∧ Top K U H d a
structure RelEnv (K : PySem.W.Frag) (O : Addr → Prop) (A : Ow) (σ : L2.St) (H : Hp) (env : Env) : Prop where
  len : σ.length = env.length
  ob : ∀ a, O a → H a ≠ none ∧ ∀ i, A i ≠ some a
  inj : ∀ i j a, A i = some a → A j = some a → i = j
  at_ : ∀ i, SlotOk K (Un O A) σ H (A i) i env[i]?
/-- what an expression leaves alone -/
structure Fr (A : Ow) (H H' : Hp) : Prop where
  keep : ∀ b o, H b = some o → (∀ i, A i ≠ some b) → H' b = some o
  more : ∀ b, H b ≠ none → H' b ≠ none
theorem Fr.refl {A : Ow} {H : Hp} : Fr A H H := ⟨fun _ _ e _ => e, fun _ h => h⟩
theorem Fr.trans {A : Ow} {H H1 H2 : Hp} (a : Fr A H H1) (b : Fr A H1 H2) : Fr A H H2 := ⟨fun c o e n => b.keep c o (a.keep c o e n) n, fun c h => b.more c (a.more c h)⟩
theorem Fr.same {A : Ow} {H H' : Hp} (h : Same H H') : Fr A H H' := ⟨fun b o e _ => h b o e, fun b n z => n (h.free z)⟩
section
variable {K : PySem.W.Frag} {O O' : Addr → Prop} {A : Ow} {σ : L2.St} {H H' H1 : Hp} {env : Env}
theorem RelEnv.owWr (R : RelEnv K O A σ H env) {i : Nat} {a : Addr} (e : A i = some a) : Wr (H a) := by
  have h := R.at_ i
  rw [e] at h
  cases q : env[i]? with
  | none => rw [q] at h; cases h
  | some s =>
    rw [q] at h
    cases s with
    | no => cases h
    | sh d => cases h.1
    | ow d => obtain ⟨b, e1, _, t⟩ := h; cases e1; exact t.wr
theorem RelEnv.owSome (R : RelEnv K O A σ H env) {i : Nat} {a : Addr} (e : A i = some a) : H a ≠ none := fun z => by
  have := R.owWr e
  rw [z] at this
  exact this
/-- the two premises of the step lemmas, with what the names hold in the place of W -/
theorem RelEnv.hW (R : RelEnv K O A σ H env) : ∀ b, (∃ i, A i = some b) → Un O A b ∧ Wr (H b) := fun b ⟨i, e⟩ => ⟨.inr ⟨i, e⟩, R.owWr e⟩
theorem Fr.hF (F : Fr A H H') : ∀ b o, H b = some o → ¬ (∃ i, A i = some b) → H' b = some o := fun b o e n => F.keep b o e fun i z => n ⟨i, z⟩
theorem Same.hF {W : Addr → Prop} (F : Same H H') : ∀ b o, H b = some o → ¬ W b → H' b = some o := fun b o e _ => F b o e
theorem SlotOk.step {U U' W : Addr → Prop} {o : Option Addr} {i : Nat} {s : Option Sl} (hF : ∀ b o, H b = some o → ¬ W b → H' b = some o) (hW : ∀ b, W b → U b ∧ Wr (H b)) (hU : ∀ b, U' b → U b ∨ H b = none) (hn : ∀ a, o = some a → ¬ W a)
    (h : SlotOk K U σ H o i s) : SlotOk K U' σ H' o i s := by
  cases s with
  | none => exact h
  | some s =>
    cases s with
    | no => exact h
    | sh d => obtain ⟨e, v, e1, r⟩ := h; exact ⟨e, v, e1, Rep.step hF hW hU _ _ r⟩
    | ow d => obtain ⟨a, e, e1, t⟩ := h; exact ⟨a, e, e1, t.step hF hW hU (hn a e)⟩
theorem RelEnv.same (R : RelEnv K O A σ H env) (F : Same H H') : RelEnv K O A σ H' env :=
  ⟨R.len, fun a h => ⟨fun z => (R.ob a h).1 (F.free z), (R.ob a h).2⟩, R.inj, fun i => (R.at_ i).step (W := fun _ => False) (Same.hF F) (fun _ z => z.elim) (fun _ u => .inl u) fun _ _ z => z⟩
/-- less is held fast -/
theorem RelEnv.weaken (R : RelEnv K O A σ H env) (h : ∀ a, O' a → O a) : RelEnv K O' A σ H env :=
  ⟨R.len, fun a q => R.ob a (h a q), R.inj, fun i => (R.at_ i).step (W := fun _ => False) (fun _ _ e _ => e) (fun _ z => z.elim) (fun b u => .inl (by rcases u with u | u; exact .inl (h b u); exact .inr u)) fun _ _ z => z⟩
/-- more is held fast: what is new -/
theorem RelEnv.hold (R : RelEnv K O A σ H env) (h : ∀ a, O' a → O a ∨ H a = none) (F : Same H H') (ht : ∀ a, O' a → H' a ≠ none) : RelEnv K O' A σ H' env := by
  refine ⟨R.len, fun a q => ⟨ht a q, fun i e => ?_⟩, R.inj, fun i => (R.at_ i).step (W := fun _ => False) (Same.hF F) (fun _ z => z.elim) (fun b u => ?_) fun _ _ z => z⟩
  · rcases h a q with z | z
    · exact (R.ob a z).2 i e
    · exact R.owSome e z
  · rcases u with u | u
    · rcases h b u with z | z
      · exact .inl (.inl z)
      · exact .inr z
    · exact .inl (.inr u)
theorem Un.mono {O O' : Addr → Prop} {A : Ow} (h : ∀ a, O a → O' a) {b : Addr} (u : Un O A b) : Un O' A b := u.imp (h b) id
/-- the object that slot i alone holds has changed -/
theorem RelEnv.write (R : RelEnv K O A σ H env) {i : Nat} {a : Addr} {d d' : D} (e : A i = some a) (hF : ∀ b o, H b = some o → b ≠ a → H' b = some o) (ht : Top K (Un O A) H' d' a)
    (hs : env[i]? = some (.ow d)) : RelEnv K O A σ H' (env.set i (.ow d')) := by
  have hi : i < env.length := (List.getElem?_eq_some_iff.mp hs).1
  have hF' : ∀ b o, H b = some o → ¬ (b = a) → H' b = some o := hF
  have hW : ∀ b, b = a → Un O A b ∧ Wr (H b) := fun b z => by subst z; exact R.hW b ⟨i, e⟩
  refine ⟨by rw [List.length_set]; exact R.len, fun b q => ⟨fun z => ?_, (R.ob b q).2⟩, R.inj, fun j => ?_⟩
  · have hb : b ≠ a := fun z => (R.ob b q).2 i (by rw [z]; exact e)
    cases w : H b with
    | none => exact (R.ob b q).1 w
    | some o =>
      rw [hF b o w hb] at z
      cases z
  · by_cases hj : j = i
    · subst hj
      rw [List.getElem?_set_self hi]
      have h := R.at_ j
      rw [hs, e] at h
      rw [e]
      obtain ⟨b, eb, es, _⟩ := h
      cases eb
      exact ⟨_, rfl, es, ht⟩
    · rw [List.getElem?_set_ne (Ne.symm hj)]
      exact (R.at_ j).step (W := fun b => b = a) hF' hW (fun b u => .inl u) fun b eb z => hj (R.inj j i a (by rw [eb, z]) e)
end

/-! ### results -/
structure R where
  d : D
  fr : Bool
def RRes (K : PySem.W.Frag) (U : Addr → Prop) (H H' : Hp) (r : R) (v : V) : Prop := match r.fr with
  | false => Rep K U H' r.d v
  | true => ∃ a, v = .ref a ∧ H a = none ∧ Top K (fun b => U b ∨ b = a) H' r.d a
def Res (K : PySem.W.Frag) (O : Addr → Prop) (A : Ow) (σ : L2.St) (H H' : Hp) (env : Env) (r : R) (v : V) : Prop := match r.fr with
  | false => RelEnv K O A σ H' env ∧ Rep K (Un O A) H' r.d v
  | true => ∃ a, v = .ref a ∧ H a = none ∧ RelEnv K (fun b => O b ∨ b = a) A σ H' env ∧ Top K (Un (fun b => O b ∨ b = a) A) H' r.d a
section
variable {K : PySem.W.Frag} {O : Addr → Prop} {A : Ow} {σ σ0 : L2.St} {H H' : Hp} {env env0 : Env} {r : R} {v : V}
theorem Res.sh (h : Res K O A σ H H' env r v) (R0 : RelEnv K O A σ0 H env0) : RelEnv K O A σ H' env ∧ Rep K (Un O A) H' r.d v := by
  unfold Res at h
  cases q : r.fr with
  | false => rw [q] at h; exact h
  | true =>
    rw [q] at h
    obtain ⟨a, rfl, hn, R1, t⟩ := h
    refine ⟨R1.weaken fun _ z => .inl z, ?_⟩
    have t2 : Top K (Un O A) H' r.d a := t.step (W := fun _ => False) (fun _ _ e _ => e) (fun _ z => z.elim) (fun b u => .inl (Un.mono (fun _ z => .inl z) u)) (fun z => z)
    refine t2.rep fun u => ?_
    rcases u with u | ⟨i, e⟩
    · exact (R0.ob a u).1 hn
    · exact (R1.ob a (.inr rfl)).2 i e
theorem RRes.res (h : RRes K (Un O A) H H' r v) (R0 : RelEnv K O A σ H env) (F : Same H H') : Res K O A σ H H' env r v := by
  unfold RRes at h
  unfold Res
  cases q : r.fr with
  | false => rw [q] at h; exact ⟨R0.same F, h⟩
  | true =>
    rw [q] at h
    obtain ⟨a, rfl, hn, t⟩ := h
    refine ⟨a, rfl, hn, R0.hold (fun b z => ?_) F (fun b z => ?_), ?_⟩
    · rcases z with z | z
      · exact .inl z
      · exact .inr (by rw [z]; exact hn)
    · rcases z with z | z
      · exact fun w => (R0.ob b z).1 (F.free w)
      · rw [z]; exact t.ne_none
    · refine t.step (W := fun _ => False) (fun _ _ e _ => e) (fun _ z => z.elim) (fun b u => .inl ?_) (fun z => z)
      rcases u with (u | u) | u
      · exact .inl (.inl u)
      · exact .inr u
      · exact .inl (.inr u)
theorem Res.of_rep (R0 : RelEnv K O A σ H' env) {d : D} (h : Rep K (Un O A) H' d v) : Res K O A σ H H' env ⟨d, false⟩ v := ⟨R0, h⟩
end

/-! ### judgements -/
def tE (K : PySem.W.Frag) (f : Env → Option (R × Env)) : TE := fun σ H Q => ∃ O A env r env', RelEnv K O A σ H env ∧ f env = some (r, env') ∧ ∀ v H', Fr A H H' → Res K O A σ H H' env' r v → Q v H'
def tT (K : PySem.W.Frag) (f : Env → Option (Bool × Env)) : TT := fun σ H Q => ∃ O A env b env', RelEnv K O A σ H env ∧ f env = some (b, env') ∧ ∀ H', Fr A H H' → RelEnv K O A σ H' env' → Q b H'
abbrev DE (X : Cx) (e : Expr) (f : Env → Option (R × Env)) : Prop := PE X e (tE X.K f)
abbrev DT (X : Cx) (e : Expr) (f : Env → Option (Bool × Env)) : Prop := PT X e (tT X.K f)
abbrev DW (X : Cx) (e : Expr) (f : Env → Option (Bool × Env)) : Prop := PW X e (tT X.K f)
theorem pe_imp {X : Cx} {e : Expr} {t t' : TE} (h : PE X e t) (q : ∀ σ H Q, t' σ H Q → t σ H Q) : PE X e t' := ⟨fun pins s σ H Q I hw => h.run pins s σ H Q I (q σ H Q hw)⟩
theorem pt_imp {X : Cx} {e : Expr} {t t' : TT} (h : PT X e t) (q : ∀ σ H Q, t' σ H Q → t σ H Q) : PT X e t' := ⟨fun pins s σ H Q I hw => h.run pins s σ H Q I (q σ H Q hw)⟩
theorem pw_imp {X : Cx} {e : Expr} {t t' : TT} (h : PW X e t) (q : ∀ σ H Q, t' σ H Q → t σ H Q) : PW X e t' := ⟨fun wh pins s σ H Q I hw => h.run wh pins s σ H Q I (q σ H Q hw)⟩
theorem ps_imp {X : Cx} {st : Stmt} {t t' : TS} (h : PS X st t) (q : ∀ D σ H, t' D σ H → t D σ H) : PS X st t' := ⟨fun pins s σ H D I hw => h.run pins s σ H D I (q D σ H hw)⟩
theorem pss_imp {X : Cx} {st : List Stmt} {t t' : TS} (h : PSs X st t) (q : ∀ D σ H, t' D σ H → t D σ H) : PSs X st t' := ⟨fun pins s σ H D I hw => h.run pins s σ H D I (q D σ H hw)⟩

/-! ### operands -/
inductive Opn where
  | nm (i : Nat) | ex (f : Env → Option (R × Env))
def sld (env : Env) (i : Nat) : Option (D × Bool) := match env[i]? with
  | some (.sh d) => some (d, false)
  | some (.ow d) => some (d, true)
  | _ => none
theorem RelEnv.sld {K : PySem.W.Frag} {O : Addr → Prop} {A : Ow} {σ : L2.St} {H : Hp} {env : Env} {i : Nat} {d : D} {o : Bool} (R : RelEnv K O A σ H env) (e : sld env i = some (d, o)) : ∃ v, σ[i]? = some (some v) ∧ RepT K (Un O A) H d v ∧ (o = false → Rep K (Un O A) H d v) := by
  unfold DL.sld at e
  have h := R.at_ i
  cases w : env[i]? with
  | none => rw [w] at e; cases e
  | some s =>
    rw [w] at e h
    cases s with
    | no => cases e
    | sh d' =>
      simp only [Option.some.injEq, Prod.mk.injEq] at e
      obtain ⟨rfl, rfl⟩ := e
      obtain ⟨_, v, hv, r⟩ := h
      exact ⟨v, hv, r.t, fun _ => r⟩
    | ow d' =>
      simp only [Option.some.injEq, Prod.mk.injEq] at e
      obtain ⟨rfl, rfl⟩ := e
      obtain ⟨a, _, hv, t⟩ := h
      exact ⟨_, hv, t.t, fun z => nomatch z⟩
def evOps : List Opn → Env → Option (List D × Bool × Env)
  | [], env => some ([], false, env)
  | .nm i :: os, env => do
    let _ ← sld env i
    let (ds, fl, env') ← evOps os env
    let (d, o) ← sld env' i
    some (d :: ds, fl || o, env')
  | .ex f :: os, env => do
    let (r, env1) ← f env
    let (ds, fl, env2) ← evOps os env1
    some (r.d :: ds, fl, env2)
def teOp (K : PySem.W.Frag) : Opn → TE
  | .nm i => tVar i
  | .ex f => tE K f
def tList : List TE → TA
  | [] => tNil
  | t :: ts => tCons t (tList ts)
theorem ops_fold {K : PySem.W.Frag} {A : Ow} {σ : L2.St} : ∀ (os : List Opn) (O : Addr → Prop) (H : Hp) (env : Env) (ds : List D) (fl : Bool) (env' : Env) (Q : List V → Hp → Prop), RelEnv K O A σ H env → evOps os env = some (ds, fl, env') →
    (∀ vs H', Fr A H H' → RelEnv K O A σ H' env' → RepTs K (Un O A) H' ds vs → (fl = false → Reps K (Un O A) H' ds vs) → Q vs H') → tList (os.map (teOp K)) σ H Q
  | [], O, H, env, ds, fl, env', Q, R, e, q => by
    simp only [evOps, Option.some.injEq, Prod.mk.injEq] at e
    obtain ⟨rfl, rfl, rfl⟩ := e
    exact q [] H .refl R rfl fun _ => rfl
  | .nm i :: os, O, H, env, ds, fl, env', Q, R, e, q => by
    simp only [evOps, Option.bind_eq_bind, Option.bind_eq_some_iff] at e
    obtain ⟨⟨d0, o0⟩, e0, ⟨ds1, fl1, env1⟩, e1, ⟨d, o⟩, e2, e3⟩ := e
    simp only [Option.some.injEq, Prod.mk.injEq] at e3
    obtain ⟨rfl, rfl, rfl⟩ := e3
    obtain ⟨v, hv, _⟩ := R.sld e0
    refine ⟨v, hv, ops_fold os O H env ds1 fl1 env1 _ R e1 fun vs H' F R1 rt rf => ?_⟩
    obtain ⟨v', hv', r1, r2⟩ := R1.sld e2
    rw [hv] at hv'; cases hv'
    refine q _ H' F R1 ⟨v, vs, rfl, r1, rt⟩ fun z => ?_
    rw [Bool.or_eq_false_iff] at z
    simp only [Reps]
    exact ⟨v, vs, rfl, r2 z.2, rf z.1⟩
  | .ex f :: os, O, H, env, ds, fl, env', Q, R, e, q => by
    simp only [evOps, Option.bind_eq_bind, Option.bind_eq_some_iff] at e
    obtain ⟨⟨r, env1⟩, e1, ⟨ds1, fl1, env2⟩, e2, e3⟩ := e
    simp only [Option.some.injEq, Prod.mk.injEq] at e3
    obtain ⟨rfl, rfl, rfl⟩ := e3
    refine ⟨O, A, env, r, env1, R, e1, fun v H1 F1 hr => ?_⟩
    cases w : r.fr with
    | false =>
      unfold Res at hr
      rw [w] at hr
      obtain ⟨R1, rp⟩ := hr
      refine ops_fold os O H1 env1 ds1 fl1 env2 _ R1 e2 fun vs H' F R2 rt rf => ?_
      have r2 : Rep K (Un O A) H' r.d v := Rep.step (W := fun b => ∃ i, A i = some b) F.hF R1.hW (fun _ u => .inl u) _ _ rp
      exact q _ H' (F1.trans F) R2 ⟨v, vs, rfl, r2.t, rt⟩ fun z => by simp only [Reps]; exact ⟨v, vs, rfl, r2, rf z⟩
    | true =>
      have hr' := hr
      unfold Res at hr'
      rw [w] at hr'
      obtain ⟨a, rfl, hn, R1, t⟩ := hr'
      refine ops_fold os (fun b => O b ∨ b = a) H1 env1 ds1 fl1 env2 _ R1 e2 fun vs H' F R2 rt rf => ?_
      have hna : ¬ ∃ i, A i = some a := fun ⟨i, e⟩ => (R1.ob a (.inr rfl)).2 i e
      have t2 : Top K (Un O A) H' r.d a := t.step (W := fun b => ∃ i, A i = some b) F.hF R1.hW (fun b u => .inl (Un.mono (fun _ z => .inl z) u)) hna
      have r2 : Rep K (Un O A) H' r.d (.ref a) := t2.rep fun u => by
        rcases u with u | u
        · exact (R.ob a u).1 hn
        · exact hna u
      have R3 : RelEnv K O A σ H' env2 := R2.weaken fun _ z => .inl z
      have rt2 : RepTs K (Un O A) H' ds1 vs := rt.step (W := fun _ => False) (fun _ _ e _ => e) (fun _ z => z.elim) (fun b u => .inl (Un.mono (fun _ z => .inl z) u)) fun _ _ z => z
      exact q _ H' (F1.trans F) R3 ⟨_, vs, rfl, r2.t, rt2⟩ fun z => by
        simp only [Reps]
        exact ⟨_, vs, rfl, r2, Reps.step (W := fun _ => False) (fun _ _ e _ => e) (fun _ z => z.elim) (fun b u => .inl (Un.mono (fun _ z => .inl z) u)) _ _ (rf z)⟩
end DL

namespace DL
open PySem PySem.Spec PyProof.Rows L2

section
variable {K : PySem.W.Frag} {O : Addr → Prop} {A : Ow} {σ : L2.St} {H H' H2 : Hp} {env : Env} {r : R} {v : V} {U : Addr → Prop}
theorem Res.back (h : Res K O A σ H' H2 env r v) (m : ∀ b, H b ≠ none → H' b ≠ none) : Res K O A σ H H2 env r v := by
  unfold Res at h ⊢
  cases q : r.fr with
  | false => rw [q] at h; exact h
  | true =>
    rw [q] at h
    obtain ⟨a, e, hn, x⟩ := h
    exact ⟨a, e, Classical.byContradiction fun z => m a z hn, x⟩
theorem same_upd' {p : Addr} {o : HO} (h : H p = none) : Same H (upd H p o) := fun b x e => by
  rw [upd_ne (ne_of_none e h)]
  exact e
theorem Reps.same {ds : List D} {xs : List V} (h : Reps K U H ds xs) (F : Same H H') : Reps K U H' ds xs := Reps.step (W := fun _ => False) (Same.hF F) (fun _ z => z.elim) (fun _ u => .inl u) _ _ h
theorem Rep.same {d : D} {x : V} (h : Rep K U H d x) (F : Same H H') : Rep K U H' d x := Rep.step (W := fun _ => False) (Same.hF F) (fun _ z => z.elim) (fun _ u => .inl u) _ _ h
theorem RRes.newT {ds : List D} {xs : List V} {p : Addr} (h : Reps K U H ds xs) (hp : H p = none) : RRes K U H (upd H p (.tup xs)) ⟨.tup ds, false⟩ (.ref p) := by
  show Rep K U _ (.tup ds) (.ref p)
  simp only [Rep]
  exact ⟨p, xs, rfl, SqT.of upd_same, h.same (same_upd' hp)⟩
theorem RRes.newL {ds : List D} {xs : List V} {p : Addr} (h : Reps K U H ds xs) (hp : H p = none) : RRes K U H (upd H p (.lst xs)) ⟨.lst ds, true⟩ (.ref p) := by
  refine ⟨p, rfl, hp, xs, upd_same, Reps.step (W := fun _ => False) (Same.hF (same_upd' hp)) (fun _ z => z.elim) (fun b u => ?_) _ _ h⟩
  rcases u with u | u
  · exact .inl u
  · exact .inr (by rw [u]; exact hp)
theorem RRes.old {d : D} (h : Rep K U H d v) : RRes K U H H ⟨d, false⟩ v := h
end

/-! ### built-ins by values -/
def VR (K : PySem.W.Frag) (r : List V → Hp → VK → Prop) (g : Bool → List D → Option R) : Prop :=
  ∀ (U : Addr → Prop) (H : Hp) (ds : List D) (vs : List V) (fl : Bool) (rr : R) (Q : VK), RepTs K U H ds vs → (fl = false → Reps K U H ds vs) → g fl ds = some rr → (∀ v H', Same H H' → RRes K U H H' rr v → Q v H') → r vs H Q
def cP (g : Bool → List D → Option R) (os : List Opn) : Env → Option (R × Env) := fun env => do
  let (ds, fl, env') ← evOps os env
  let r ← g fl ds
  some (r, env')
theorem vr_fold {K : PySem.W.Frag} {r : List V → Hp → VK → Prop} {g : Bool → List D → Option R} (vr : VR K r g) {os : List Opn} {σ : L2.St} {H : Hp} {Q : VK} (h : tE K (cP g os) σ H Q) : tList (os.map (teOp K)) σ H fun vs H' => r vs H' Q := by
  obtain ⟨O, A, env, rr, env', R, e, q⟩ := h
  simp only [cP, Option.bind_eq_bind, Option.bind_eq_some_iff] at e
  obtain ⟨⟨ds, fl, env1⟩, e1, rr', e2, e3⟩ := e
  simp only [Option.some.injEq, Prod.mk.injEq] at e3
  obtain ⟨rfl, rfl⟩ := e3
  refine ops_fold os O H env ds fl _ _ R e1 fun vs H' F R1 rt rf => ?_
  exact vr (Un O A) H' ds vs fl _ _ rt rf e2 fun v H2 S rr => q v H2 (F.trans (Fr.same S)) ((rr.res R1 S).back F.more)
/-- either of two -/
theorem VR.or {K : PySem.W.Frag} {r r' : List V → Hp → VK → Prop} {g g' : Bool → List D → Option R} (h : VR K r g) (h' : VR K r' g') : VR K (fun xs H Q => r xs H Q ∨ r' xs H Q) (fun fl ds => (g fl ds).or (g' fl ds)) := by
  intro U H ds vs fl rr Q rt rf e q
  cases w : g fl ds with
  | some x =>
    have e' : (some x : Option R) = some rr := by
      have e2 := e
      simp only [w, Option.some_or] at e2
      exact e2
    cases e'
    exact .inl (h U H ds vs fl _ Q rt rf w q)
  | none =>
    have e' : g' fl ds = some rr := by
      have e2 := e
      simp only [w, Option.none_or] at e2
      exact e2
    exact .inr (h' U H ds vs fl _ Q rt rf e' q)
def Opnds (X : Cx) (es : List Expr) (os : List Opn) : Prop := PA X es (tList (os.map (teOp X.K)))
section
variable {X : Cx} {e a b : Expr} {es : List Expr} {os : List Opn} {f fa fb : Env → Option (R × Env)} {pos : Pos}
/-- one operand -/
def Opd (X : Cx) (e : Expr) (o : Opn) : Prop := PE X e (teOp X.K o)
theorem od_nm (i : Nat) {x : Str} {pos : Pos} (hN : X.N[i]? = some x := by rfl) (hv : Vis X.env.scope x := by first | exact Or.inl rfl | exact Or.inr (Or.inl rfl) | exact Or.inr (Or.inr rfl)) (hd : (x == ("__debug__" : Str)) = false := by decide)
    (hcd : (x == ("__classdict__" : Str)) = false := by decide) : Opd X (.Name x pos) (.nm i) := pe_var hN hv hd hcd
theorem od_ex (h : DE X e f) : Opd X e (.ex f) := h
theorem ops_nil : Opnds X [] [] := pa_nil
theorem ops_cons {o : Opn} (h : Opd X e o) (hr : Opnds X es os) (hs : starEach (e :: es) X.env = (false, eval e X.env) :: starEach es X.env := by rfl) : Opnds X (e :: es) (o :: os) := pa_cons h hr hs

/-! ### names, constants -/
def cNm (i : Nat) : Env → Option (R × Env) := fun env => match env[i]? with
  | some (.sh d) => some (⟨d, false⟩, env)
  | _ => none
theorem de_nm (i : Nat) {x : Str} {pos : Pos} (hN : X.N[i]? = some x := by rfl) (hv : Vis X.env.scope x := by first | exact Or.inl rfl | exact Or.inr (Or.inl rfl) | exact Or.inr (Or.inr rfl)) (hd : (x == ("__debug__" : Str)) = false := by decide)
    (hcd : (x == ("__classdict__" : Str)) = false := by decide) : DE X (.Name x pos) (cNm i) := pe_imp (pe_var hN hv hd hcd) fun σ H Q h => by
  obtain ⟨O, A, env, r, env', R, e, q⟩ := h
  unfold cNm at e
  have hi := R.at_ i
  cases w : env[i]? with
  | none => rw [w] at e; cases e
  | some s =>
    rw [w] at e hi
    cases s <;> first
      | (cases e; done)
      | (cases e
         obtain ⟨_, v, hv, rp⟩ := hi
         exact ⟨v, hv, q v H .refl (Res.of_rep R rp)⟩)
def cC (d : D) : Env → Option (R × Env) := fun env => some (⟨d, false⟩, env)
theorem de_const {v : V} {d : D} (h : PE X e (tC v)) (hd : ∀ U H, Rep X.K U H d v) : DE X e (cC d) := pe_imp h fun σ H Q h => by
  obtain ⟨O, A, env, r, env', R, e, q⟩ := h
  cases e
  exact q v H .refl (Res.of_rep R (hd _ _))
theorem de_int {i j} : DE X (.Constant (.int i) j pos) (cC (.int i)) := de_const pe_int fun _ _ => by simp only [Rep]
theorem de_bl {b j} : DE X (.Constant (.bool b) j pos) (cC (.bl b)) := de_const pe_bl fun _ _ => by simp only [Rep]
theorem de_non {j} : DE X (.Constant .none j pos) (cC .non) := de_const pe_non fun _ _ => by simp only [Rep]
theorem de_str {x j} : DE X (.Constant (.str x) j pos) (cC (.str x)) := de_const pe_str fun _ _ => by simp only [Rep]
/-- a constant of the module -/
structure GC (K : PySem.W.Frag) (mg : Str → Option Value) (x : Str) (d : D) : Prop where
  ex : ∃ (u : Value) (v : V), mg x = some u ∧ RelV v u ∧ ∀ U H, Rep K U H d v
theorem de_glob {x : Str} {d : D} (g : GC X.K X.mg x d) (hg : Gl X x := by rfl) (hd : (x == ("__debug__" : Str)) = false := by decide) : DE X (.Name x pos) (cC d) := by
  obtain ⟨u, v, hm, r, hr⟩ := g.ex
  exact de_const (pe_glob hg hm r hd) hr

/-! ### operators -/
def r2 (r : R2) : List V → Hp → VK → Prop := fun vs H Q => match vs with
  | [x, y] => r x y H Q
  | _ => False
def r1 (r : V → Hp → VK → Prop) : List V → Hp → VK → Prop := fun vs H Q => match vs with
  | [x] => r x H Q
  | _ => False
theorem de_bin {op : Operator} {r : R2} {g : Bool → List D → Option R} {oa ob : Opn} (ho : OpR X (binaryOp op) r) (vr : VR X.K (r2 r) g) (ha : Opd X a oa) (hb : Opd X b ob) : DE X (.BinOp a op b pos) (cP g [oa, ob]) :=
  pe_imp (pe_op ho ha hb) fun σ H Q h => vr_fold vr h
theorem de_un {op : UnaryOp} {r : V → Hp → VK → Prop} {g : Bool → List D → Option R} {oa : Opn} (ho : UnR X (unaryOp op) r) (vr : VR X.K (r1 r) g) (ha : Opd X a oa) : DE X (.UnaryOp op a pos) (cP g [oa]) :=
  pe_imp (pe_un ho ha) fun σ H Q h => vr_fold vr h
theorem de_cmp {op : CmpOp} {r : R2} {g : Bool → List D → Option R} {oa ob : Opn} (ho : OpR X (compareOp op) r) (vr : VR X.K (r2 r) g) (ha : Opd X a oa) (hb : Opd X b ob) (hm : behindInMarks op b = false := by first | exact nomark _ | rfl) : DE X (.Compare a [op] [b] pos) (cP g [oa, ob]) :=
  pe_imp (pe_cmpR ho ha hb hm) fun σ H Q h => vr_fold vr h
/-- a bool -/
def cBo (f : Env → Option (R × Env)) : Env → Option (Bool × Env) := fun env => do
  let (r, env') ← f env
  match r.d with
  | .bl b => some (b, env')
  | _ => none
theorem tT_of {K : PySem.W.Frag} {f : Env → Option (R × Env)} {σ : L2.St} {H : Hp} {Q : Bool → Hp → Prop} (h : tT K (cBo f) σ H Q) : tE K f σ H fun x H' => ∃ k, x = .bl k ∧ Q k H' := by
  obtain ⟨O, A, env, b, env', R, e, q⟩ := h
  simp only [cBo, Option.bind_eq_bind, Option.bind_eq_some_iff] at e
  obtain ⟨⟨r, env1⟩, e1, e2⟩ := e
  refine ⟨O, A, env, r, env1, R, e1, fun v H' F hr => ?_⟩
  have := hr.sh R
  dsimp only at e2
  cases w : r.d with
  | bl c =>
    rw [w] at e2 this
    cases e2
    simp only [Rep] at this
    exact ⟨b, this.2, q H' F this.1⟩
  | _ => rw [w] at e2; cases e2
theorem dt_cmp {op : CmpOp} {r : R2} {g : Bool → List D → Option R} {oa ob : Opn} (ho : OpR X (compareOp op) r) (vr : VR X.K (r2 r) g) (ha : Opd X a oa) (hb : Opd X b ob) (hm : behindInMarks op b = false := by first | exact nomark _ | rfl) : DT X (.Compare a [op] [b] pos) (cBo (cP g [oa, ob])) :=
  pt_imp (pt_cmpR ho ha hb hm) fun σ H Q h => vr_fold vr (tT_of h)
/-- a value that is a bool, as a test -/
theorem dt_val (h : DE X e f) (he : ∀ whole, isTrue e X.env whole = (do let v ← whole; standAt e.pos; holding [v] (truthy v)) := by intro _; rfl) : DT X e (cBo f) :=
  pt_imp (pt_val h he) fun σ H Q h => tT_of h
/-- truth -/
def dTru : D → Option Bool
  | .non => some false
  | .bl b => some b
  | .int i => some (i != 0)
  | .str x => if x.length ≤ 1000000 then some ((x.length : Int) != 0) else none
  | .tup ds => some (!ds.isEmpty)
  | .lst ds => some (!ds.isEmpty)
  | _ => none
def cTr (o : Opn) : Env → Option (Bool × Env) := fun env => do
  let (ds, _, env') ← evOps [o] env
  match ds with
  | [d] => do
    let b ← dTru d
    some (b, env')
  | _ => none
theorem RepT.tru {K : PySem.W.Frag} {U : Addr → Prop} {H : Hp} {d : D} {v : V} {b : Bool} (h : RepT K U H d v) (e : dTru d = some b) : TruV K v H b := by
  have iso : ∀ {ds : List D} {xs : List V}, Reps K U H ds xs → xs.isEmpty = ds.isEmpty := fun {ds xs} h => by
    have := Reps.len _ _ h
    cases ds <;> cases xs <;> simp_all
  cases d with
  | non => cases e; simp only [RepT, Rep] at h; subst h; rfl
  | bl c => cases e; simp only [RepT, Rep] at h; subst h; rfl
  | int i => cases e; simp only [RepT, Rep] at h; subst h; rfl
  | str x =>
    simp only [RepT, Rep] at h; subst h
    simp only [dTru] at e
    split at e
    · rename_i hl
      cases e
      exact ⟨Nat.le_trans hl (by rw [sizeLine_eq]; decide), rfl⟩
    · cases e
  | tup ds =>
    cases e
    simp only [RepT, Rep] at h
    obtain ⟨a, xs, rfl, hs, hr⟩ := h
    exact .inr (.inl ⟨xs, hs, by rw [iso hr]⟩)
  | lst ds =>
    cases e
    obtain ⟨a, xs, rfl, hs, hr⟩ := h
    exact .inl ⟨xs, SqL.of hs, by rw [iso hr]⟩
  | dct ks vs => cases e
  | scr ns => cases e
theorem dt_tru {o : Opn} (h : Opd X a o) (he : ∀ whole, isTrue a X.env whole = (do let v ← whole; standAt a.pos; holding [v] (truthy v)) := by intro _; rfl) : DT X a (cTr o) :=
  pt_imp (pt_truth h he) fun σ H Q h => by
    obtain ⟨O, A, env, b, env', R, e, q⟩ := h
    simp only [cTr, Option.bind_eq_bind, Option.bind_eq_some_iff] at e
    obtain ⟨⟨ds, fl, env1⟩, e1, e2⟩ := e
    refine ops_fold [o] O H env ds fl env1 (fun vs H' => match vs with | [x] => ∃ k, TruV X.K x H' k ∧ Q k H' | _ => False) R e1 fun vs H' F R1 rt rf => ?_
    match ds, rt, e2 with
    | [d], rt, e2 =>
      obtain ⟨x, r', rfl, h1, h2⟩ := rt
      simp only [RepTs] at h2
      subst h2
      simp only [Option.bind_eq_some_iff] at e2
      obtain ⟨b', eb, e3⟩ := e2
      cases e3
      exact ⟨_, h1.tru eb, q H' F R1⟩

/-! ### and, or, not, if -/
def cAnd (f g : Env → Option (Bool × Env)) : Env → Option (Bool × Env) := fun env => do
  let (b, env') ← f env
  if b then g env' else some (false, env')
def cOr (f g : Env → Option (Bool × Env)) : Env → Option (Bool × Env) := fun env => do
  let (b, env') ← f env
  if b then some (true, env') else g env'
def cNot (f : Env → Option (Bool × Env)) : Env → Option (Bool × Env) := fun env => do
  let (b, env') ← f env
  some (!b, env')
/-- the next part behind a test -/
theorem tT_then {K : PySem.W.Frag} {f : Env → Option (Bool × Env)} {σ : L2.St} {H : Hp} {O : Addr → Prop} {A : Ow} {env env1 : Env} {b : Bool} {Q : Bool → Hp → Prop} (R : RelEnv K O A σ H env) (e : f env = some (b, env1))
    (q : ∀ H', Fr A H H' → RelEnv K O A σ H' env1 → Q b H') : tT K f σ H Q := ⟨O, A, env, b, env1, R, e, q⟩
variable {ft gt : Env → Option (Bool × Env)} {rest : List Expr}
theorem and_fold {K : PySem.W.Frag} {σ : L2.St} {H : Hp} {Q : Bool → Hp → Prop} (h : tT K (cAnd ft gt) σ H Q) : tAnd (tT K ft) (tT K gt) σ H Q := by
  obtain ⟨O, A, env, b, env', R, e, q⟩ := h
  simp only [cAnd, Option.bind_eq_bind, Option.bind_eq_some_iff] at e
  obtain ⟨⟨c, env1⟩, e1, e2⟩ := e
  refine ⟨O, A, env, c, env1, R, e1, fun H' F R1 => ?_⟩
  cases c with
  | true =>
    rw [if_pos rfl] at e2 ⊢
    exact ⟨O, A, env1, b, env', R1, e2, fun H2 F2 R2 => q H2 (F.trans F2) R2⟩
  | false =>
    rw [if_neg Bool.false_ne_true] at e2 ⊢
    cases e2
    exact q H' F R1
theorem or_fold {K : PySem.W.Frag} {σ : L2.St} {H : Hp} {Q : Bool → Hp → Prop} (h : tT K (cOr ft gt) σ H Q) : tOr (tT K ft) (tT K gt) σ H Q := by
  obtain ⟨O, A, env, b, env', R, e, q⟩ := h
  simp only [cOr, Option.bind_eq_bind, Option.bind_eq_some_iff] at e
  obtain ⟨⟨c, env1⟩, e1, e2⟩ := e
  refine ⟨O, A, env, c, env1, R, e1, fun H' F R1 => ?_⟩
  cases c with
  | true =>
    rw [if_pos rfl] at e2 ⊢
    cases e2
    exact q H' F R1
  | false =>
    rw [if_neg Bool.false_ne_true] at e2 ⊢
    exact ⟨O, A, env1, b, env', R1, e2, fun H2 F2 R2 => q H2 (F.trans F2) R2⟩
theorem dw_and1 (ha : DT X a ft) : DW X (.BoolOp .And [a] pos) ft := pw_and1 ha
theorem dw_or1 (ha : DT X a ft) : DW X (.BoolOp .Or [a] pos) ft := pw_or1 ha
theorem dw_and (ha : DT X a ft) (hb : DW X (.BoolOp .And (b :: rest) pos) gt) : DW X (.BoolOp .And (a :: b :: rest) pos) (cAnd ft gt) := pw_imp (pw_and ha hb) fun _ _ _ h => and_fold h
theorem dw_or (ha : DT X a ft) (hb : DW X (.BoolOp .Or (b :: rest) pos) gt) : DW X (.BoolOp .Or (a :: b :: rest) pos) (cOr ft gt) := pw_imp (pw_or ha hb) fun _ _ _ h => or_fold h
theorem dw_t (h : DW X e ft) : DT X e ft := h.pt
theorem dt_not (ha : DT X a ft) : DT X (.UnaryOp .Not a pos) (cNot ft) := pt_imp (pt_not ha) fun σ H Q h => by
  obtain ⟨O, A, env, b, env', R, e, q⟩ := h
  simp only [cNot, Option.bind_eq_bind, Option.bind_eq_some_iff] at e
  obtain ⟨⟨c, env1⟩, e1, e2⟩ := e
  cases e2
  exact ⟨O, A, env, c, env1, R, e1, q⟩
/-! as values -/
def cAndV (f g : Env → Option (R × Env)) : Env → Option (R × Env) := fun env => do
  let (r, env') ← f env
  match r.d with
  | .bl true => g env'
  | .bl false => some (⟨.bl false, false⟩, env')
  | _ => none
def cOrV (f g : Env → Option (R × Env)) : Env → Option (R × Env) := fun env => do
  let (r, env') ← f env
  match r.d with
  | .bl true => some (⟨.bl true, false⟩, env')
  | .bl false => g env'
  | _ => none
def cNotV (f : Env → Option (R × Env)) : Env → Option (R × Env) := fun env => do
  let (r, env') ← f env
  match r.d with
  | .bl b => some (⟨.bl !b, false⟩, env')
  | _ => none
theorem de_one {op} (h : DE X a f) : DE X (.BoolOp op [a] pos) f := pe_one h
theorem de_and (ha : DE X a fa) (hb : DE X (.BoolOp .And (b :: rest) pos) fb) : DE X (.BoolOp .And (a :: b :: rest) pos) (cAndV fa fb) := pe_imp (pe_and ha hb) fun σ H Q h => by
  obtain ⟨O, A, env, r, env', R, e, q⟩ := h
  simp only [cAndV, Option.bind_eq_bind, Option.bind_eq_some_iff] at e
  obtain ⟨⟨r1, env1⟩, e1, e2⟩ := e
  refine ⟨O, A, env, r1, env1, R, e1, fun v H' F hr => ?_⟩
  have := hr.sh R
  dsimp only at e2
  cases w : r1.d with
  | bl c =>
    rw [w] at e2 this
    simp only [Rep] at this
    refine ⟨c, this.2, ?_⟩
    cases c with
    | true => exact ⟨O, A, env1, r, env', this.1, e2, fun v2 H2 F2 hr2 => q v2 H2 (F.trans F2) (hr2.back F.more)⟩
    | false =>
      cases e2
      exact q _ H' F (Res.of_rep this.1 (by simp only [Rep]))
  | _ => rw [w] at e2; cases e2
theorem de_or (ha : DE X a fa) (hb : DE X (.BoolOp .Or (b :: rest) pos) fb) : DE X (.BoolOp .Or (a :: b :: rest) pos) (cOrV fa fb) := pe_imp (pe_or ha hb) fun σ H Q h => by
  obtain ⟨O, A, env, r, env', R, e, q⟩ := h
  simp only [cOrV, Option.bind_eq_bind, Option.bind_eq_some_iff] at e
  obtain ⟨⟨r1, env1⟩, e1, e2⟩ := e
  refine ⟨O, A, env, r1, env1, R, e1, fun v H' F hr => ?_⟩
  have := hr.sh R
  dsimp only at e2
  cases w : r1.d with
  | bl c =>
    rw [w] at e2 this
    simp only [Rep] at this
    refine ⟨c, this.2, ?_⟩
    cases c with
    | false => exact ⟨O, A, env1, r, env', this.1, e2, fun v2 H2 F2 hr2 => q v2 H2 (F.trans F2) (hr2.back F.more)⟩
    | true =>
      cases e2
      exact q _ H' F (Res.of_rep this.1 (by simp only [Rep]))
  | _ => rw [w] at e2; cases e2
theorem de_not (ha : DE X a fa) : DE X (.UnaryOp .Not a pos) (cNotV fa) := pe_imp (pe_not ha) fun σ H Q h => by
  obtain ⟨O, A, env, r, env', R, e, q⟩ := h
  simp only [cNotV, Option.bind_eq_bind, Option.bind_eq_some_iff] at e
  obtain ⟨⟨r1, env1⟩, e1, e2⟩ := e
  refine ⟨O, A, env, r1, env1, R, e1, fun v H' F hr => ?_⟩
  have := hr.sh R
  dsimp only at e2
  cases w : r1.d with
  | bl c =>
    rw [w] at e2 this
    simp only [Rep] at this
    refine ⟨c, this.2, ?_⟩
    cases e2
    exact q _ H' F (Res.of_rep this.1 (by simp only [Rep]))
  | _ => rw [w] at e2; cases e2
def cIte {α : Type} (c : Env → Option (Bool × Env)) (f g : Env → Option α) : Env → Option α := fun env => do
  let (b, env') ← c env
  if b then f env' else g env'
theorem de_if {c : Expr} (hc : DT X c ft) (ha : DE X a fa) (hb : DE X b fb) : DE X (.IfExp c a b pos) (cIte ft fa fb) := pe_imp (pe_ifExp hc ha hb) fun σ H Q h => by
  obtain ⟨O, A, env, r, env', R, e, q⟩ := h
  simp only [cIte, Option.bind_eq_bind, Option.bind_eq_some_iff] at e
  obtain ⟨⟨k, env1⟩, e1, e2⟩ := e
  refine ⟨O, A, env, k, env1, R, e1, fun H' F R1 => ?_⟩
  cases k with
  | true =>
    rw [if_pos rfl] at e2 ⊢
    exact ⟨O, A, env1, r, env', R1, e2, fun v2 H2 F2 hr2 => q v2 H2 (F.trans F2) (hr2.back F.more)⟩
  | false =>
    rw [if_neg Bool.false_ne_true] at e2 ⊢
    exact ⟨O, A, env1, r, env', R1, e2, fun v2 H2 F2 hr2 => q v2 H2 (F.trans F2) (hr2.back F.more)⟩

/-! ### displays, calls of built-ins -/
def gTup : Bool → List D → Option R := fun fl ds => if fl then none else if ds.length ≤ 1000 then some ⟨.tup ds, false⟩ else none
def gLst : Bool → List D → Option R := fun fl ds => if fl then none else if ds.length ≤ 1000 then some ⟨.lst ds, true⟩ else none
theorem le_line {n : Nat} (h : n ≤ 1000) : n ≤ sizeLine := Nat.le_of_lt (small1000 h)
theorem vr_tup {K : PySem.W.Frag} : VR K (fun xs H Q => xs.length ≤ sizeLine ∧ ∀ p, H p = none → Q (.ref p) (upd H p (.tup xs))) gTup := by
  intro U H ds vs fl rr Q rt rf e q
  unfold gTup at e
  cases fl with
  | true => cases e
  | false =>
    rw [if_neg Bool.false_ne_true] at e
    split at e
    · cases e
      have hr := rf rfl
      exact ⟨by rw [Reps.len _ _ hr]; exact le_line (by assumption), fun p hp => q _ _ (same_upd' hp) (RRes.newT hr hp)⟩
    · cases e
theorem vr_lst {K : PySem.W.Frag} : VR K (fun xs H Q => xs.length ≤ sizeLine ∧ ∀ p, H p = none → Q (.ref p) (upd H p (.lst xs))) gLst := by
  intro U H ds vs fl rr Q rt rf e q
  unfold gLst at e
  cases fl with
  | true => cases e
  | false =>
    rw [if_neg Bool.false_ne_true] at e
    split at e
    · cases e
      have hr := rf rfl
      exact ⟨by rw [Reps.len _ _ hr]; exact le_line (by assumption), fun p hp => q _ _ (same_upd' hp) (RRes.newL hr hp)⟩
    · cases e
theorem de_tup {k} (h : Opnds X es os) : DE X (.Tuple es k pos) (cP gTup os) := pe_imp (pe_tup h) fun σ H Q q => vr_fold vr_tup q
theorem de_lst (h : Opnds X es os) : DE X (.List es pos) (cP gLst os) := pe_imp (pe_lst h) fun σ H Q q => vr_fold vr_lst q
variable {id T : String} {x : Str} {p : Pos} {r : List V → Hp → VK → Prop} {g : Bool → List D → Option R}
theorem de_callB (hc : CallR X (.builtin id) r) (vr : VR X.K r g) (hm : X.mg x = none) (hv : bootBuiltins x = some (.builtin id)) (ha : Opnds X (e :: es) os) (hg : Gl X x := by rfl) (hn : x ≠ "__name__" := by decide) (hdb : (x == ("__debug__" : Str)) = false := by decide)
    (he : starEach (e :: es) X.env = (false, eval e X.env) :: starEach es X.env := by rfl) (hpl : (backTo pos (starEach es X.env)).any (·.1) = false := by rfl) : DE X (.Call (.Name x p) (e :: es) [] pos) (cP g os) :=
  pe_imp (pe_callB hc hg hm hv ha hn hdb he hpl) fun σ H Q q => vr_fold vr q
theorem de_callTy (hc : CallR X (.type T) r) (vr : VR X.K r g) (hm : X.mg x = none) (hv : bootBuiltins x = some (.type T)) (ha : Opnds X (e :: es) os) (hg : Gl X x := by rfl) (hn : x ≠ "__name__" := by decide) (hdb : (x == ("__debug__" : Str)) = false := by decide)
    (he : starEach (e :: es) X.env = (false, eval e X.env) :: starEach es X.env := by rfl) (hpl : (backTo pos (starEach es X.env)).any (·.1) = false := by rfl) : DE X (.Call (.Name x p) (e :: es) [] pos) (cP g os) :=
  pe_imp (pe_callTy hc hg hm hv ha hn hdb he hpl) fun σ H Q q => vr_fold vr q
end
end DL

namespace DL
open PySem PySem.Spec PyProof.Rows L2

/-! ### targets -/
def setSh (i : Nat) (d : D) (env : Env) : Option Env := match env[i]? with
  | some .no => some (env.set i (.sh d))
  | some (.sh _) => some (env.set i (.sh d))
  | _ => none
section
variable {K : PySem.W.Frag} {O : Addr → Prop} {A : Ow} {σ : L2.St} {H : Hp} {env env' : Env} {d : D} {v : V}
theorem setSh_some {i : Nat} (e : setSh i d env = some env') : env' = env.set i (.sh d) ∧ i < env.length ∧ (env[i]? = some .no ∨ ∃ d', env[i]? = some (.sh d')) := by
  unfold setSh at e
  split at e
  · rename_i w
    cases e
    exact ⟨rfl, (List.getElem?_eq_some_iff.mp w).1, .inl w⟩
  · rename_i w
    cases e
    exact ⟨rfl, (List.getElem?_eq_some_iff.mp w).1, .inr ⟨_, w⟩⟩
  · cases e
theorem SlotOk.none_of {U : Addr → Prop} {o : Option Addr} {i : Nat} {s : Option Sl} (h : SlotOk K U σ H o i s) (q : s = some .no ∨ ∃ d', s = some (.sh d')) : o = none := by
  rcases q with q | ⟨d', q⟩
  · subst q; exact h
  · subst q; exact h.1
theorem SlotOk.set_ne {U : Addr → Prop} {o : Option Addr} {i j : Nat} {s : Option Sl} {y : Option V} (h : SlotOk K U σ H o j s) (hj : j ≠ i) : SlotOk K U (σ.set i y) H o j s := by
  have e : (σ.set i y)[j]? = σ[j]? := List.getElem?_set_ne (Ne.symm hj)
  cases s with
  | none => exact h
  | some s => cases s with
    | no => exact h
    | sh d => obtain ⟨h1, v, h2, h3⟩ := h; exact ⟨h1, v, e.trans h2, h3⟩
    | ow d => obtain ⟨a, h1, h2, h3⟩ := h; exact ⟨a, h1, e.trans h2, h3⟩
theorem RelEnv.setSh (R : RelEnv K O A σ H env) {i : Nat} (e : setSh i d env = some env') (h : Rep K (Un O A) H d v) : RelEnv K O A (σ.set i (some v)) H env' := by
  obtain ⟨rfl, hi, q⟩ := setSh_some e
  refine ⟨by rw [List.length_set, List.length_set]; exact R.len, R.ob, R.inj, fun j => ?_⟩
  by_cases hj : j = i
  · subst hj
    rw [List.getElem?_set_self hi]
    exact ⟨(R.at_ j).none_of q, v, List.getElem?_set_self (by rw [R.len]; exact hi), h⟩
  · rw [List.getElem?_set_ne (Ne.symm hj)]
    exact (R.at_ j).set_ne hj
end
def tG (K : PySem.W.Frag) (vs : List Nat) (g : D → Env → Option Env) : TG := fun v σ H Q => ∃ O A env d env', RelEnv K O A σ H env ∧ Rep K (Un O A) H d v ∧ g d env = some env' ∧ ∀ σ', RelEnv K O A σ' H env' → (∀ i, i ∉ vs → σ'[i]? = σ[i]?) ∧ σ'.length = σ.length → Q σ' H
def tGs (K : PySem.W.Frag) (vs : List Nat) (g : List D → Env → Option Env) : TGs := fun xs σ H Q => ∃ O A env ds env', RelEnv K O A σ H env ∧ Reps K (Un O A) H ds xs ∧ g ds env = some env' ∧ ∀ σ', RelEnv K O A σ' H env' → (∀ i, i ∉ vs → σ'[i]? = σ[i]?) ∧ σ'.length = σ.length → Q σ' H
abbrev DG (X : Cx) (tg : Expr) (vs : List Nat) (g : D → Env → Option Env) : Prop := PG X tg (tG X.K vs g)
abbrev DGs (X : Cx) (ts : List Expr) (vs : List Nat) (g : List D → Env → Option Env) : Prop := PGs X ts (tGs X.K vs g)
theorem pg_imp {X : Cx} {e : Expr} {t t' : TG} (h : PG X e t) (q : ∀ v σ H Q, t' v σ H Q → t v σ H Q) : PG X e t' := ⟨fun pins s σ H v u Q I r hw => h.run pins s σ H v u Q I r (q v σ H Q hw)⟩
theorem pgs_imp {X : Cx} {e : List Expr} {t t' : TGs} (h : PGs X e t) (q : ∀ v σ H Q, t' v σ H Q → t v σ H Q) : PGs X e t' := ⟨fun pins s σ H v u Q I r hw => h.run pins s σ H v u Q I r (q v σ H Q hw)⟩
def gNilD : List D → Env → Option Env := fun ds env => match ds with
  | [] => some env
  | _ => none
def gConsD (g : D → Env → Option Env) (gs : List D → Env → Option Env) : List D → Env → Option Env := fun ds env => match ds with
  | d :: r => do
    let env1 ← g d env
    gs r env1
  | _ => none
def gTupD (n : Nat) (gs : List D → Env → Option Env) : D → Env → Option Env := fun d env => match d with
  | .tup ds => if ds.length = n then gs ds env else none
  | _ => none
section
variable {X : Cx} {pos : Pos}
theorem dg_nm (hN : X.N.Nodup) (i : Nat) {x : Str} (hi : X.N[i]? = some x := by rfl) (hx : Loc X.env.scope x := by first | exact Or.inl rfl | exact Or.inr rfl) (hf : X.fn x = true ∨ X.env.scope.names.lookup x = some .local := by first | exact .inl rfl | exact .inr rfl) :
    DG X (.Name x pos) [i] (setSh i) := pg_imp (pg_name hN hi hx hf) fun v σ H Q h => by
  obtain ⟨O, A, env, d, env', R, r, e, q⟩ := h
  exact q _ (R.setSh e r) ⟨fun j hj => List.getElem?_set_ne fun z => hj (by rw [z]; exact List.mem_cons_self), List.length_set⟩
theorem dgs_nil : DGs X [] [] gNilD := pgs_imp pgs_nil fun xs σ H Q h => by
  obtain ⟨O, A, env, ds, env', R, r, e, q⟩ := h
  cases ds with
  | nil =>
    cases e
    simp only [Reps] at r
    exact ⟨r, q σ R ⟨fun _ _ => rfl, rfl⟩⟩
  | cons => cases e
theorem dgs_cons {e : Expr} {es : List Expr} {vs ws : List Nat} {g : D → Env → Option Env} {gs : List D → Env → Option Env} (h1 : DG X e vs g) (h2 : DGs X es ws gs)
    (hs : (assignEach (e :: es) X.env).map (·.2) = assign e X.env :: (assignEach es X.env).map (·.2) := by rfl) : DGs X (e :: es) (vs ++ ws) (gConsD g gs) := pgs_imp (pgs_cons h1 h2 hs) fun xs σ H Q h => by
  obtain ⟨O, A, env, ds, env', R, r, e, q⟩ := h
  cases ds with
  | nil => cases e
  | cons d ds =>
    simp only [Reps] at r
    obtain ⟨x, xr, rfl, rx, rr⟩ := r
    simp only [gConsD, Option.bind_eq_bind, Option.bind_eq_some_iff] at e
    obtain ⟨env1, e1, e2⟩ := e
    refine ⟨x, xr, rfl, O, A, env, d, env1, R, rx, e1, fun σ1 R1 k1 => ?_⟩
    refine ⟨O, A, env1, ds, env', R1, rr, e2, fun σ2 R2 k2 => q σ2 R2 ⟨fun i hi => ?_, k2.2.trans k1.2⟩⟩
    rw [List.mem_append, not_or] at hi
    exact (k2.1 i hi.2).trans (k1.1 i hi.1)
theorem dg_tup {es : List Expr} {k n : Nat} {vs : List Nat} {gs : List D → Env → Option Env} (hc : X.calm = true) (h : DGs X es vs gs)
    (hn : (assignEach es X.env).length = n := by rfl) (hst : (assignEach es X.env).findIdx? (·.1) = none := by rfl) : DG X (.Tuple es k pos) vs (gTupD n gs) := pg_imp (pg_tup hc h hn hst) fun v σ H Q h => by
  obtain ⟨O, A, env, d, env', R, r, e, q⟩ := h
  cases d with
  | tup ds =>
    simp only [gTupD] at e
    split at e
    · rename_i hl
      simp only [Rep] at r
      obtain ⟨a, xs, rfl, hs, hr⟩ := r
      exact ⟨a, xs, rfl, hs, by rw [Reps.len _ _ hr, hl], O, A, env, ds, env', R, hr, e, q⟩
    · cases e
  | _ => cases e
end

/-! ### what is walked -/
structure ItOk (K : PySem.W.Frag) (U : Addr → Prop) (J : It) (H : Hp) (ds : List D) : Prop where
  turn : ∀ (W U2 : Addr → Prop) (H2 : Hp), (∀ b o, H b = some o → ¬ W b → H2 b = some o) → (∀ b, W b → U b ∧ Wr (H b)) → (∀ b, U2 b → U b ∨ H b = none) →
    (∀ i d, ds[i]? = some d → J.go i H2 ∧ ∀ x H3, J.yld i H2 x H3 → Same H2 H3 ∧ Rep K U2 H3 d x) ∧ J.stop ds.length H2
def tI (K : PySem.W.Frag) (f : Env → Option (List D × Env)) : TI := fun σ H Rw => ∃ O A env ds env', RelEnv K O A σ H env ∧ f env = some (ds, env') ∧ ∀ J H', Fr A H H' → RelEnv K O A σ H' env' → ItOk K (Un O A) J H' ds → Rw J H'
abbrev DI (X : Cx) (tg iter : Expr) (f : Env → Option (List D × Env)) : Prop := PI X tg iter (tI X.K f)
theorem pi_imp {X : Cx} {tg e : Expr} {t t' : TI} (h : PI X tg e t) (q : ∀ σ H Q, t' σ H Q → t σ H Q) : PI X tg e t' := ⟨fun pins s σ H Q I hw => h.run pins s σ H Q I (q σ H Q hw)⟩
/-- an iterator by values -/
def PIV (X : Cx) (tg : Expr) (r : V → Hp → (It → Hp → Prop) → Prop) : Prop :=
  ∀ (pins : List (Addr × Obj)) (s : Shared) (σ : L2.St) (H : Hp) (x : V) (v : Value) (Rw : It → Hp → Prop), Inv X pins σ H s → RelV x v → r x H Rw → wpAny (model X.prog X.w) X.A (pyIter v) (PIE X pins σ tg Rw) X.xe s
section
variable {X : Cx} {tg : Expr}
theorem pi_val {l : Expr} {tl : TE} {r : V → Hp → (It → Hp → Prop) → Prop} (hv : PIV X tg r) (hl : PE X l tl) : PI X tg l (fun σ H Rw => tl σ H fun x H1 => r x H1 Rw) :=
  ⟨fun pins s σ H Rw I h => thn (hl.run pins s σ H _ I h) fun v s1 ⟨x, H1, I1, r1, q1⟩ => hv pins s1 σ H1 x v Rw I1 r1 q1⟩
theorem PIV.or {r r' : V → Hp → (It → Hp → Prop) → Prop} (h : PIV X tg r) (h' : PIV X tg r') : PIV X tg (fun x H Rw => r x H Rw ∨ r' x H Rw) := fun pins s σ H x v Rw I rx q =>
  q.elim (h pins s σ H x v Rw I rx) (h' pins s σ H x v Rw I rx)
theorem newIt {pins : List (Addr × Obj)} {σ : L2.St} {H : Hp} {s : Shared} (I : Inv X pins σ H s) {b : Addr} (hb : b ∈ [s.heap.objs.size]) : FpOk X pins H b := by
  have e := List.mem_singleton.mp hb
  rw [e]
  exact I.fpOk (Nat.le_refl _) (I.hok.fresh (Nat.le_refl _))
theorem piv_list : PIV X tg (fun x H Rw => ∃ a, x = .ref a ∧ (∃ xs, SqL X.K H a xs) ∧ Rw (Itl X.K a) H) := fun pins s σ H x v Rw I rx q => by
  obtain ⟨a, rfl, ⟨xs, hq⟩, q⟩ := q
  cases rx
  obtain ⟨its, _, pl, _⟩ := I.list hq
  exact wpAny_pyIter_list pl.isList ⟨_, [s.heap.objs.size], _, _, H, rfl, I.kept (t' := s.toks) fun _ _ z => Heap.get?_push_of_some _ z, turn_list a _, ⟨_, Heap.get?_push_size _ rfl, rfl, rfl⟩, fun b hb => newIt I hb, q⟩
theorem piv_tup : PIV X tg (fun x H Rw => ∃ a, x = .ref a ∧ (∃ xs, SqT X.K H a xs) ∧ Rw (Itt X.K a) H) := fun pins s σ H x v Rw I rx q => by
  obtain ⟨a, rfl, ⟨xs, hq⟩, q⟩ := q
  cases rx
  obtain ⟨its, _, pl, _⟩ := I.tuple hq
  exact wpAny_pyIter_tuple (show s.heap.IsTuple a its.toArray from pl) ⟨_, [s.heap.objs.size], _, _, H, rfl, I.kept (t' := s.toks) fun _ _ z => Heap.get?_push_of_some _ z, turn_tuple a _, ⟨_, Heap.get?_push_size _ rfl, rfl, rfl⟩, fun b hb => newIt I hb, q⟩
end
section
variable {K : PySem.W.Frag} {U : Addr → Prop} {H : Hp}
theorem SqL.fun_ {X : Cx} {pins : List (Addr × Obj)} {σ : L2.St} {s : Shared} {a : Addr} {xs ys : List V} (I : Inv X pins σ H s) (h : SqL X.K H a xs) (h' : SqL X.K H a ys) : xs = ys := I.list_inj h h'
end
/-! the two kinds of sequences; a list's rows are known by the tracked heap alone -/
theorem itok_list {K : PySem.W.Frag} {U : Addr → Prop} {H : Hp} {a : Addr} {xs : List V} {ds : List D} (hn : ¬ U a) (hs : H a = some (.lst xs)) (hr : Reps K U H ds xs) : ItOk K U (Itl K a) H ds := by
  refine ⟨fun W U2 H2 hF hW hU => ⟨fun i d e => ?_, ?_⟩⟩
  · have hs2 : H2 a = some (.lst xs) := hF _ _ hs fun w => hn (hW a w).1
    obtain ⟨x, ex, rx⟩ := hr.get e
    refine ⟨⟨xs, x, SqL.of hs2, ex⟩, fun y H3 hy => ?_⟩
    obtain ⟨rfl, fy⟩ := hy
    have ey := fy xs (SqL.of hs2)
    rw [ex] at ey; cases ey
    exact ⟨Same.refl _, Rep.step hF hW hU _ _ rx⟩
  · have hs2 : H2 a = some (.lst xs) := hF _ _ hs fun w => hn (hW a w).1
    exact ⟨xs, SqL.of hs2, by rw [Reps.len _ _ hr]; exact Nat.le_refl _⟩
theorem itok_tup {K : PySem.W.Frag} {U : Addr → Prop} {H : Hp} {a : Addr} {xs : List V} {ds : List D} (hs : SqT K H a xs) (hr : Reps K U H ds xs) : ItOk K U (Itt K a) H ds := by
  refine ⟨fun W U2 H2 hF hW hU => ⟨fun i d e => ?_, ?_⟩⟩
  · have hs2 : SqT K H2 a xs := SqT.stepW hF (fun b w => (hW b w).2) hs
    obtain ⟨x, ex, rx⟩ := hr.get e
    refine ⟨⟨xs, x, hs2, ex⟩, fun y H3 hy => ?_⟩
    obtain ⟨rfl, fy⟩ := hy
    have ey := fy xs hs2
    rw [ex] at ey; cases ey
    exact ⟨Same.refl _, Rep.step hF hW hU _ _ rx⟩
  · exact ⟨xs, SqT.stepW hF (fun b w => (hW b w).2) hs, by rw [Reps.len _ _ hr]; exact Nat.le_refl _⟩
/-- a text's signs -/
def signs (z : Str) : List D := z.cps.toList.map fun c => D.str ⟨#[c]⟩
theorem itok_str {K : PySem.W.Frag} {U : Addr → Prop} {H : Hp} {z : Str} : ItOk K U (Its z) H (signs z) := by
  refine ⟨fun W U2 H2 hF hW hU => ⟨fun i d e => ?_, ?_⟩⟩
  · unfold signs at e
    rw [List.getElem?_map, Array.getElem?_toList] at e
    cases w : z.cps[i]? with
    | none => rw [w] at e; cases e
    | some c =>
      rw [w] at e
      cases e
      obtain ⟨hlt, _⟩ := Array.getElem?_eq_some_iff.mp w
      refine ⟨hlt, fun y H3 hy => ?_⟩
      obtain ⟨rfl, c', ec, rfl⟩ := hy
      rw [w] at ec; cases ec
      exact ⟨Same.refl _, by simp only [Rep]⟩
  · show z.cps.size ≤ (signs z).length
    unfold signs
    rw [List.length_map, Array.length_toList]
    exact Nat.le_refl _
theorem piv_str {X : Cx} {tg : Expr} : PIV X tg (fun x H Rw => ∃ z, x = .str z ∧ Rw (Its z) H) := fun pins s σ H x v Rw I rx q => by
  obtain ⟨z, rfl, q⟩ := q
  obtain ⟨t, rfl⟩ := rx
  cases ha : z.cps.all (· < 128)
  · exact wpAny_pyIter_wide ha (pi_one (tk := s.toks) I _ (turn_str _ z t "str_iterator" (.inr rfl)) ⟨_, Heap.get?_push_size _ rfl, rfl, rfl⟩ q)
  · exact wpAny_pyIter_ascii ha (pi_one (tk := s.toks) I _ (turn_str _ z t "str_ascii_iterator" (.inl rfl)) ⟨_, Heap.get?_push_size _ rfl, rfl, rfl⟩ q)
/-- for over a list or a tuple that no name alone holds -/
def itSeq : D → Option (List D)
  | .str z => some (signs z)
  | .lst ds => some ds
  | .tup ds => some ds
  | _ => none
def cIt (f : Env → Option (R × Env)) : Env → Option (List D × Env) := fun env => do
  let (r, env') ← f env
  let ds ← itSeq r.d
  some (ds, env')
theorem di_seq {X : Cx} {tg e : Expr} {f : Env → Option (R × Env)} (h : DE X e f) : DI X tg e (cIt f) := pi_imp (pi_val (piv_list.or (piv_tup.or piv_str)) h) fun σ H Rw q => by
  obtain ⟨O, A, env, ds, env', R, e, q⟩ := q
  simp only [cIt, Option.bind_eq_bind, Option.bind_eq_some_iff] at e
  obtain ⟨⟨r, env1⟩, e1, ds1, e2, e3⟩ := e
  cases e3
  refine ⟨O, A, env, r, _, R, e1, fun v H' F hr => ?_⟩
  obtain ⟨R1, rp⟩ := hr.sh R
  cases w : r.d with
  | lst es =>
    rw [w] at e2 rp
    cases e2
    simp only [Rep] at rp
    obtain ⟨a, xs, rfl, hn, hs, hr⟩ := rp
    exact .inl ⟨a, rfl, ⟨xs, SqL.of hs⟩, q _ H' F R1 (itok_list hn hs hr)⟩
  | tup es =>
    rw [w] at e2 rp
    cases e2
    simp only [Rep] at rp
    obtain ⟨a, xs, rfl, hs, hr⟩ := rp
    exact .inr (.inl ⟨a, rfl, ⟨xs, hs⟩, q _ H' F R1 (itok_tup hs hr)⟩)
  | str z =>
    rw [w] at e2 rp
    cases e2
    simp only [Rep] at rp
    subst rp
    exact .inr (.inr ⟨z, rfl, q _ H' F R1 itok_str⟩)
  | _ => rw [w] at e2; cases e2
/-! ranges -/
def rng (i : Int) (n : Nat) : List D := (List.range n).map fun (k : Nat) => D.int (i + k)
theorem itok_rng {K : PySem.W.Frag} {U : Addr → Prop} {H : Hp} {lo : Int} {n : Nat} : ItOk K U (Itr lo n) H (rng lo n) := by
  refine ⟨fun W U2 H2 _ _ _ => ⟨fun i d e => ?_, ?_⟩⟩
  · unfold rng at e
    rw [List.getElem?_map] at e
    cases w : (List.range n)[i]? with
    | none => rw [w] at e; cases e
    | some k =>
      rw [w] at e
      cases e
      obtain ⟨hk, ek⟩ := List.getElem?_eq_some_iff.mp w
      rw [List.getElem_range] at ek
      subst ek
      rw [List.length_range] at hk
      refine ⟨hk, fun x H3 hy => ?_⟩
      obtain ⟨rfl, rfl⟩ := hy
      exact ⟨Same.refl _, by simp only [Rep]⟩
  · show n ≤ (rng lo n).length
    unfold rng
    rw [List.length_map, List.length_range]
    exact Nat.le_refl _
def okR (i : Int) : Bool := decide (-1000000000 ≤ i) && decide (i ≤ 1000000000)
theorem okR_le {i : Int} (h : okR i = true) : -(2 ^ 62) ≤ i ∧ i < 2 ^ 62 := by
  unfold okR at h
  rw [Bool.and_eq_true, decide_eq_true_eq, decide_eq_true_eq] at h
  omega
def cRg1 (o : Opn) : Env → Option (List D × Env) := fun env => do
  let (ds, _, env') ← evOps [o] env
  match ds with
  | [.int j] => if okR j then some (rng 0 j.toNat, env') else none
  | _ => none
def cRg2 (o o' : Opn) : Env → Option (List D × Env) := fun env => do
  let (ds, _, env') ← evOps [o, o'] env
  match ds with
  | [.int i, .int j] => if okR i && okR j then some (rng i (j - i).toNat, env') else none
  | _ => none
theorem di_rg1 {X : Cx} {tg a : Expr} {o : Opn} {p pos : Pos} (hm : X.mg "range" = none) (ha : Opd X a o) (hg : Gl X "range" := by rfl) (hs : starEach [a] X.env = [(false, eval a X.env)] := by rfl) : DI X tg (.Call (.Name "range" p) [a] [] pos) (cRg1 o) :=
  pi_imp (pi_range1 hg hm (ops_cons ha ops_nil hs) hs) fun σ H Rw q => by
  obtain ⟨O, A, env, ds, env', R, e, q⟩ := q
  simp only [cRg1, Option.bind_eq_bind, Option.bind_eq_some_iff] at e
  obtain ⟨⟨es, fl, env1⟩, e1, e2⟩ := e
  refine ops_fold [o] O H env es fl env1 _ R e1 fun vs H' F R1 rt rf => ?_
  dsimp only at e2
  split at e2
  · rename_i j
    split at e2
    · rename_i hj
      cases e2
      obtain ⟨x, r', rfl, h1, h2⟩ := rt
      simp only [RepTs] at h2
      simp only [RepT, Rep] at h1
      subst h1 h2
      exact ⟨j, rfl, (okR_le hj).1, (okR_le hj).2, q _ H' F R1 itok_rng⟩
    · cases e2
  · cases e2
theorem di_rg2 {X : Cx} {tg a b : Expr} {o o' : Opn} {p pos : Pos} (hm : X.mg "range" = none) (ha : Opd X a o) (hb : Opd X b o') (hg : Gl X "range" := by rfl) (hs : starEach [a, b] X.env = [(false, eval a X.env), (false, eval b X.env)] := by rfl) (hs2 : starEach [b] X.env = [(false, eval b X.env)] := by rfl) :
    DI X tg (.Call (.Name "range" p) [a, b] [] pos) (cRg2 o o') :=
  pi_imp (pi_range2 hg hm (ops_cons ha (ops_cons hb ops_nil hs2) (by rw [hs, hs2])) hs hs2) fun σ H Rw q => by
  obtain ⟨O, A, env, ds, env', R, e, q⟩ := q
  simp only [cRg2, Option.bind_eq_bind, Option.bind_eq_some_iff] at e
  obtain ⟨⟨es, fl, env1⟩, e1, e2⟩ := e
  refine ops_fold [o, o'] O H env es fl env1 _ R e1 fun vs H' F R1 rt rf => ?_
  dsimp only at e2
  split at e2
  · rename_i i j
    split at e2
    · rename_i hj
      rw [Bool.and_eq_true] at hj
      cases e2
      obtain ⟨x, r', rfl, h1, h2⟩ := rt
      obtain ⟨y, r'', rfl, h3, h4⟩ := h2
      simp only [RepTs] at h4
      simp only [RepT, Rep] at h1 h3
      subst h1 h3 h4
      exact ⟨i, j, rfl, ⟨(okR_le hj.1).1, (okR_le hj.1).2, (okR_le hj.2).1, (okR_le hj.2).2⟩, q _ H' F R1 itok_rng⟩
    · cases e2
  · cases e2

/-! ### list comprehensions -/
def wipeE (vs : List Nat) (env : Env) : Option Env :=
  if vs.all (fun i => match env[i]? with
    | some .no => true
    | some (.sh _) => true
    | _ => false) then some (vs.foldr (fun v e => e.set v .no) env) else none
def shOf : Option Sl → Sl
  | some (.sh d) => .sh d
  | _ => .no
def backE (vs : List Nat) (e0 e1 : Env) : Env := vs.foldr (fun v e => e.set v (shOf e0[v]?)) e1
def lcL (vs : List Nat) (g : D → Env → Option Env) (t : Env → Option (Bool × Env)) (f : Env → Option (R × Env)) : List D → List D → Env → Option (List D × Env)
  | [], acc, env => some (acc, env)
  | d :: ds, acc, env => do
    let env1 ← g d env
    let (b, env2) ← t env1
    if b then do
      let (r, env3) ← f env2
      let env4 ← wipeE vs env3
      if acc.length < 1000000 then lcL vs g t f ds (acc ++ [r.d]) env4 else none
    else do
      let env4 ← wipeE vs env2
      lcL vs g t f ds acc env4
def cLC (vs : List Nat) (it : Env → Option (List D × Env)) (g : D → Env → Option Env) (t : Env → Option (Bool × Env)) (f : Env → Option (R × Env)) : Env → Option (R × Env) := fun env => do
  let (ds, env1) ← it env
  let env2 ← wipeE vs env1
  let (acc, env3) ← lcL vs g t f ds [] env2
  some (⟨.lst acc, true⟩, backE vs env1 env3)
section
variable {K : PySem.W.Frag} {O : Addr → Prop} {A : Ow} {σ : L2.St} {H : Hp} {env env' : Env}
theorem RelEnv.unset (R : RelEnv K O A σ H env) {i : Nat} (q : env[i]? = some .no ∨ ∃ d', env[i]? = some (.sh d')) : RelEnv K O A (σ.set i none) H (env.set i .no) := by
  have hi : i < env.length := by
    rcases q with q | ⟨_, q⟩ <;> exact (List.getElem?_eq_some_iff.mp q).1
  refine ⟨by rw [List.length_set, List.length_set]; exact R.len, R.ob, R.inj, fun j => ?_⟩
  by_cases hj : j = i
  · subst hj
    rw [List.getElem?_set_self hi]
    exact (R.at_ j).none_of q
  · rw [List.getElem?_set_ne (Ne.symm hj)]
    exact (R.at_ j).set_ne hj
theorem foldr_no (vs : List Nat) (env : Env) (i : Nat) : (vs.foldr (fun v e => e.set v Sl.no) env)[i]? = if i ∈ vs ∧ i < env.length then some .no else env[i]? := by
  induction vs with
  | nil => simp
  | cons v vs ih =>
    have hl : (vs.foldr (fun v e => e.set v Sl.no) env).length = env.length := by
      clear ih
      induction vs with
      | nil => rfl
      | cons v vs ih => simp [ih]
    rw [List.foldr_cons]
    by_cases hv : v = i
    · subst hv
      by_cases hh : v < env.length
      · rw [List.getElem?_set_self (by rw [hl]; exact hh), if_pos ⟨List.mem_cons_self, hh⟩]
      · rw [List.getElem?_eq_none (by rw [List.length_set, hl]; omega), if_neg (fun z => hh z.2), List.getElem?_eq_none (by omega)]
    · rw [List.getElem?_set_ne hv, ih]
      have : (i ∈ vs ∧ i < env.length) ↔ (i ∈ v :: vs ∧ i < env.length) := by
        rw [List.mem_cons]
        constructor
        · exact fun z => ⟨.inr z.1, z.2⟩
        · exact fun z => ⟨z.1.resolve_left fun e => hv e.symm, z.2⟩
      by_cases h : i ∈ vs ∧ i < env.length
      · rw [if_pos h, if_pos (this.mp h)]
      · rw [if_neg h, if_neg fun z => h (this.mpr z)]
theorem RelEnv.wipe (R : RelEnv K O A σ H env) {vs : List Nat} (e : wipeE vs env = some env') : RelEnv K O A (wipe σ vs) H env' := by
  unfold wipeE at e
  split at e
  · rename_i ha
    cases e
    have ha' : ∀ i, i ∈ vs → env[i]? = some .no ∨ ∃ d', env[i]? = some (.sh d') := fun i hi => by
      have := List.all_eq_true.mp ha i hi
      split at this
      · exact .inl (by assumption)
      · exact .inr ⟨_, by assumption⟩
      · cases this
    clear ha
    induction vs with
    | nil => exact R
    | cons v vs ih =>
      have R1 := ih fun i hi => ha' i (List.mem_cons_of_mem _ hi)
      show RelEnv K O A ((L2.wipe σ vs).set v none) H ((vs.foldr (fun v e => e.set v Sl.no) env).set v .no)
      refine R1.unset ?_
      rw [foldr_no]
      split
      · exact .inl rfl
      · exact ha' v List.mem_cons_self
  · cases e
theorem backE_len (vs : List Nat) (e0 e1 : Env) : (backE vs e0 e1).length = e1.length := by
  unfold backE
  induction vs with
  | nil => rfl
  | cons v vs ih =>
    rw [List.foldr_cons, List.length_set, ih]
theorem backE_get (vs : List Nat) (e0 e1 : Env) (i : Nat) (hi : i < e1.length) : (backE vs e0 e1)[i]? = if i ∈ vs then some (shOf e0[i]?) else e1[i]? := by
  induction vs with
  | nil => simp [backE]
  | cons v vs ih =>
    have e : backE (v :: vs) e0 e1 = (backE vs e0 e1).set v (shOf e0[v]?) := rfl
    rw [e]
    have hl := backE_len vs e0 e1
    by_cases hv : v = i
    · subst hv
      rw [if_pos List.mem_cons_self, List.getElem?_set_self (by rw [hl]; exact hi)]
    · have hm : i ∈ v :: vs ↔ i ∈ vs := by
        rw [List.mem_cons]
        exact ⟨fun z => z.resolve_left fun e => hv e.symm, .inr⟩
      rw [List.getElem?_set_ne hv, ih]
      by_cases h : i ∈ vs
      · rw [if_pos h, if_pos (hm.mpr h)]
      · rw [if_neg h, if_neg fun z => h (hm.mp z)]
theorem wipe_in {σ : L2.St} {i : Nat} : ∀ {vs : List Nat}, i ∈ vs → i < σ.length → (L2.wipe σ vs)[i]? = some none
  | [], h, _ => nomatch h
  | v :: vs, h, hl => by
    unfold L2.wipe
    by_cases hv : v = i
    · subst hv
      exact List.getElem?_set_self (by rw [wipe_length]; exact hl)
    · rw [List.getElem?_set_ne hv]
      exact wipe_in ((List.mem_cons.mp h).resolve_left fun e => hv e.symm) hl
/-- behind the comprehension -/
theorem RelEnv.back {O1 : Addr → Prop} {H1 : Hp} {env1 env2 : Env} {vs : List Nat} (R1 : RelEnv K O1 A σ H1 env1) (F : Fr A H1 H) (hO : ∀ b, O b → O1 b ∨ H1 b = none) (R2 : RelEnv K O A (L2.wipe σ vs) H env2) (hl : env2.length = env1.length)
    (hw : ∀ i, i ∈ vs → A i = none) : RelEnv K O A σ H (backE vs env1 env2) := by
  have hlen : σ.length = env2.length := by
    have := R2.len
    rw [wipe_length] at this
    exact this
  refine ⟨by rw [backE_len]; exact hlen, R2.ob, R2.inj, fun i => ?_⟩
  by_cases hi : i < env2.length
  · rw [backE_get _ _ _ _ hi]
    by_cases hv : i ∈ vs
    · rw [if_pos hv]
      have h1 := R1.at_ i
      cases w : env1[i]? with
      | none => exact hw i hv
      | some s => cases s with
        | sh d =>
          rw [w] at h1
          obtain ⟨e, v, ev, rp⟩ := h1
          refine ⟨e, v, ev, Rep.step (W := fun b => ∃ i, A i = some b) F.hF R1.hW (fun b u => ?_) _ _ rp⟩
          rcases u with u | u
          · rcases hO b u with z | z
            · exact .inl (.inl z)
            · exact .inr z
          · exact .inl (.inr u)
        | _ => exact hw i hv
    · rw [if_neg hv]
      have h2 := R2.at_ i
      have ew : (L2.wipe σ vs)[i]? = σ[i]? := wipe_out hv
      cases w : env2[i]? with
      | none => rw [w] at h2; exact h2
      | some s =>
        rw [w] at h2
        cases s with
        | no => exact h2
        | sh d => obtain ⟨h3, v, h4, h5⟩ := h2; exact ⟨h3, v, ew.symm.trans h4, h5⟩
        | ow d => obtain ⟨a, h3, h4, h5⟩ := h2; exact ⟨a, h3, ew.symm.trans h4, h5⟩
  · rw [List.getElem?_eq_none (by rw [backE_len]; omega)]
    have h2 := R2.at_ i
    rw [List.getElem?_eq_none (by omega)] at h2
    exact h2
theorem wipeE_len {vs : List Nat} (e : wipeE vs env = some env') : env'.length = env.length := by
  unfold wipeE at e
  split at e
  · cases e
    have : ∀ ws : List Nat, (ws.foldr (fun v e => e.set v Sl.no) env).length = env.length := fun ws => by
      induction ws with
      | nil => rfl
      | cons v vs ih => simp [ih]
    exact this vs
  · cases e
/-- an object that is held fast has changed -/
theorem RelEnv.poke {H' : Hp} {a : Addr} {u : HO} (R : RelEnv K O A σ H env) (ha : O a) (hw : Wr (H a)) (e : H' = upd H a u) : RelEnv K O A σ H' env := by
  subst e
  have hF : ∀ b o, H b = some o → ¬ (b = a) → upd H a u b = some o := fun b o e n => by rw [upd_ne n]; exact e
  refine ⟨R.len, fun b q => ⟨?_, (R.ob b q).2⟩, R.inj, fun i => (R.at_ i).step (W := fun b => b = a) hF (fun b z => by rw [z]; exact ⟨.inl ha, hw⟩) (fun _ u => .inl u) fun b e z => (R.ob a ha).2 i (by rw [e, z])⟩
  by_cases hb : b = a
  · rw [hb, upd_same]; exact fun z => nomatch z
  · rw [upd_ne hb]; exact (R.ob b q).1
theorem wipeE_none (R : RelEnv K O A σ H env) {vs : List Nat} (e : wipeE vs env = some env') : ∀ i, i ∈ vs → A i = none := fun i hi => by
  unfold wipeE at e
  split at e
  · rename_i ha
    have := List.all_eq_true.mp ha i hi
    have h := R.at_ i
    split at this
    · rename_i w; rw [w] at h; exact h
    · rename_i w; rw [w] at h; exact h.1
    · cases this
  · cases e
end
/-- several tests of a comprehension -/
def cYes : Env → Option (Bool × Env) := fun env => some (true, env)
abbrev DTs (X : Cx) (ifs : List Expr) (f : Env → Option (Bool × Env)) : Prop := PTs X ifs (tT X.K f)
theorem pts_imp {X : Cx} {e : List Expr} {t t' : TT} (h : PTs X e t) (q : ∀ σ H Q, t' σ H Q → t σ H Q) : PTs X e t' := ⟨fun pins s σ H Q I hw => h.run pins s σ H Q I (q σ H Q hw)⟩
theorem dts_nil {X : Cx} : DTs X [] cYes := pts_imp pts_nil fun σ H Q h => by
  obtain ⟨O, A, env, b, env', R, e, q⟩ := h
  cases e
  exact q H .refl R
theorem dts_one {X : Cx} {c : Expr} {f : Env → Option (Bool × Env)} (h : DT X c f) : DTs X [c] f := pts_one h

theorem lc_fold {K : PySem.W.Frag} {vs : List Nat} {ws : List Nat} {it : Env → Option (List D × Env)} {g : D → Env → Option Env} {t : Env → Option (Bool × Env)} {f : Env → Option (R × Env)} (hws : ∀ i, i ∈ ws → i ∈ vs) {σ : L2.St} {H : Hp} {Q : VK}
    (h : tE K (cLC vs it g t f) σ H Q) : tLc (tI K it) (tG K ws g) (tT K t) (tE K f) vs σ H Q := by
  obtain ⟨O, A, env, rr, env', R, e, q⟩ := h
  simp only [cLC, Option.bind_eq_bind, Option.bind_eq_some_iff] at e
  obtain ⟨⟨ds, env1⟩, e1, env2, e2, ⟨acc, env3⟩, e3, e4⟩ := e
  cases e4
  refine ⟨O, A, env, ds, env1, R, e1, fun J H1 F1 R1 ok Dd hD => ?_⟩
  have R2 := R1.wipe e2
  have hOD : ∀ b, (O b ∨ b = Dd) → O b ∨ H1 b = none := fun b z => z.imp id fun z => by rw [z]; exact hD
  have SD : Same H1 (upd H1 Dd (.lst [])) := same_upd' hD
  have R3 : RelEnv K (fun b => O b ∨ b = Dd) A (L2.wipe σ vs) (upd H1 Dd (.lst [])) env2 := R2.hold hOD SD fun b z => by
    rcases z with z | z
    · exact fun w => (R2.ob b z).1 (SD.free w)
    · rw [z, upd_same]; exact fun w => nomatch w
  have hnA : ∀ i, A i ≠ some Dd := fun i z => R2.owSome z hD
  let U : Addr → Prop := Un (fun b => O b ∨ b = Dd) A
  have hUD : U Dd := .inl (.inr rfl)
  let Nx : Nat → Hp → Prop := fun i H2 => ∃ (xs : List V) (as : List D) (ei : Env), Fr A H1 H2 ∧ RelEnv K (fun b => O b ∨ b = Dd) A (L2.wipe σ vs) H2 ei ∧ H2 Dd = some (.lst xs) ∧ Reps K U H2 as xs ∧ lcL vs g t f (ds.drop i) as ei = some (acc, env3)
  refine ⟨fun i m H2 => m + i = ds.length ∧ Nx i H2, ⟨ds.length, rfl, [], [], env2, Fr.same SD, R3, upd_same, by simp only [Reps], by simpa using e3⟩, fun i m H2 hw => ?_⟩
  obtain ⟨hm, xs, as, ei, F2, RI, hDx, hr, hc⟩ := hw
  have turn := ok.turn (fun b => ∃ i, A i = some b) U H2 F2.hF R1.hW fun b u => by
    rcases u with u | u
    · rcases u with u | u
      · exact .inl (.inl u)
      · exact .inr (by rw [u]; exact hD)
    · exact .inl (.inr u)
  by_cases hi : i < ds.length
  · refine .inr ?_
    have ei' : ds[i]? = some ds[i] := List.getElem?_eq_getElem hi
    obtain ⟨go, yl⟩ := turn.1 i _ ei'
    have hdr : ds.drop i = ds[i] :: ds.drop (i + 1) := List.drop_eq_getElem_cons hi
    rw [hdr] at hc
    simp only [lcL, Option.bind_eq_bind, Option.bind_eq_some_iff] at hc
    obtain ⟨g1, eg, ⟨b, g2⟩, et, hc⟩ := hc
    refine ⟨go, Nx (i + 1), fun H3 h3 => ⟨m - 1, by omega, by omega, h3⟩, fun x H3 hy => ?_⟩
    obtain ⟨S3, rx⟩ := yl x H3 hy
    refine ⟨_, A, ei, _, g1, RI.same S3, rx, eg, fun σ2 Rg kg => ?_⟩
    have hws2 : L2.wipe σ2 vs = L2.wipe σ vs := by
      refine List.ext_getElem? fun j => ?_
      have hlσ : σ2.length = σ.length := kg.2.trans (wipe_length σ vs)
      by_cases hj : j ∈ vs
      · by_cases hjl : j < σ2.length
        · rw [wipe_in hj hjl, wipe_in hj (by rw [← hlσ]; exact hjl)]
        · rw [List.getElem?_eq_none (by rw [wipe_length]; omega), List.getElem?_eq_none (by rw [wipe_length]; omega)]
      · rw [wipe_out hj, kg.1 j fun z => hj (hws j z)]
    refine ⟨hws2, _, A, g1, b, g2, Rg, et, fun H4 F4 Rt => ?_⟩
    have F14 : Fr A H1 H4 := F2.trans ((Fr.same S3).trans F4)
    have hD4 : H4 Dd = some (.lst xs) := F4.keep _ _ (S3 _ _ hDx) hnA
    have hr4 : Reps K U H4 as xs := Reps.step (W := fun b => ∃ i, A i = some b) (((Fr.same S3).trans F4).hF) RI.hW (fun _ u => .inl u) _ _ hr
    cases b with
    | true =>
      show if true = true then _ else _
      rw [if_pos rfl]
      rw [if_pos rfl] at hc
      simp only [Option.bind_eq_some_iff] at hc
      obtain ⟨⟨rr, g3⟩, ef, g4, ew, hc⟩ := hc
      split at hc
      · rename_i hlen
        refine ⟨_, A, g2, rr, g3, Rt, ef, fun v H5 F5 hres => ?_⟩
        obtain ⟨R5, rp⟩ := hres.sh Rt
        have hD5 : H5 Dd = some (.lst xs) := F5.keep _ _ hD4 hnA
        have hr5 : Reps K U H5 as xs := Reps.step (W := fun b => ∃ i, A i = some b) F5.hF Rt.hW (fun _ u => .inl u) _ _ hr4
        have R6 := R5.wipe ew
        rw [hws2] at R6
        have wr5 : Wr (H5 Dd) := by rw [hD5]; trivial
        have hF6 : ∀ b o, H5 b = some o → ¬ (b = Dd) → upd H5 Dd (.lst (xs ++ [v])) b = some o := fun b o e n => by rw [upd_ne n]; exact e
        have hW6 : ∀ b, b = Dd → U b ∧ Wr (H5 b) := fun b z => by rw [z]; exact ⟨hUD, wr5⟩
        refine ⟨xs, hD5, ?_, xs ++ [v], as ++ [rr.d], g4, ?_, R6.poke (.inr rfl) wr5 rfl, upd_same, ?_, hc⟩
        · rw [Reps.len _ _ hr5, sizeLine_eq]
          omega
        · have F15 := F14.trans F5
          refine ⟨fun b o e n => ?_, fun b n => ?_⟩
          · rw [upd_ne (ne_of_none e hD)]
            exact F15.keep b o e n
          · by_cases hb : b = Dd
            · rw [hb, upd_same]; exact fun z => nomatch z
            · rw [upd_ne hb]; exact F15.more b n
        · exact Reps.append (Reps.step (W := fun b => b = Dd) hF6 hW6 (fun _ u => .inl u) _ _ hr5) (Reps.single (Rep.step (W := fun b => b = Dd) hF6 hW6 (fun _ u => .inl u) _ _ rp))
      · cases hc
    | false =>
      show if false = true then _ else _
      rw [if_neg Bool.false_ne_true]
      rw [if_neg Bool.false_ne_true] at hc
      simp only [Option.bind_eq_some_iff] at hc
      obtain ⟨g4, ew, hc⟩ := hc
      have R6 := Rt.wipe ew
      rw [hws2] at R6
      exact ⟨xs, as, g4, F14, R6, hD4, hr4, hc⟩
  · refine .inl ?_
    have ei' : i = ds.length := by omega
    subst ei'
    refine ⟨turn.2, ?_⟩
    rw [List.drop_length] at hc
    simp only [lcL, Option.some.injEq, Prod.mk.injEq] at hc
    obtain ⟨rfl, rfl⟩ := hc
    refine q (.ref Dd) H2 (F1.trans F2) ⟨Dd, rfl, Classical.byContradiction fun z => F1.more Dd z hD, ?_, xs, hDx, hr⟩
    have hl : ei.length = env1.length := by
      have h1 := RI.len
      rw [wipe_length] at h1
      exact h1.symm.trans R1.len
    exact R1.back F2 hOD RI hl (wipeE_none R1 e2)
/-- a comprehension as an expression -/
theorem de_lc {X : Cx} {elt tg iter : Expr} {ifs : List Expr} {scope : Scope} {own : List (Str × Nat)} {pos : Pos} {ws : List Nat} {it : Env → Option (List D × Env)} {g : D → Env → Option Env} {t : Env → Option (Bool × Env)} {f : Env → Option (R × Env)}
    (hc : X.calm = true) (hN : X.N.Nodup) (hi : DI X tg iter it) (ok : blkC X.N X.env.scope scope own = true)
    (hg : ∀ (s : Shared) (H : Hp) (C : Addr) (cl : List (Str × Addr)) (fp : List Addr), DG (X.blk s H scope (compEnvC scope cl C X.env) fp) tg ws g)
    (ht : ∀ (s : Shared) (H : Hp) (C : Addr) (cl : List (Str × Addr)) (fp : List Addr), DTs (X.blk s H scope (compEnvC scope cl C X.env) fp) ifs t)
    (he : ∀ (s : Shared) (H : Hp) (C : Addr) (cl : List (Str × Addr)) (fp : List Addr), DE (X.blk s H scope (compEnvC scope cl C X.env) fp) elt f)
    (hws : ∀ i, i ∈ ws → i ∈ own.map (·.2) := by decide) (hs : ∀ x, foldedSetIterable iter X.env x = pure x := by intro _; rfl) : DE X (.ListComp elt [⟨tg, iter, ifs, 0⟩] scope pos) (cLC (own.map (·.2)) it g t f) :=
  pe_imp (pe_lc hc hN hi (blkOk_by ok) hg ht he hs) fun σ H Q h => lc_fold hws h
end DL

namespace DL
open PySem PySem.Spec PyProof.Rows L2

/-! ### statements -/
inductive Out where
  | nx (e : Env) | ret (r : R) (e : Env) | bk (e : Env) | ct (e : Env)
/-- lk: the slots that keep their object -/
structure Step (lk : List Nat) (A : Ow) (H : Hp) (A' : Ow) (H' : Hp) : Prop where
  fr : Fr A H H'
  gr : ∀ i a, A' i = some a → A i = some a ∨ H a = none
  lk : ∀ i, i ∈ lk → A' i = A i
section
variable {lk : List Nat} {A A1 A2 : Ow} {H H1 H2 : Hp}
theorem Step.of_fr (F : Fr A H H1) : Step lk A H A H1 := ⟨F, fun _ _ e => .inl e, fun _ _ => rfl⟩
theorem Step.trans (a : Step lk A H A1 H1) (b : Step lk A1 H1 A2 H2) : Step lk A H A2 H2 := by
  refine ⟨⟨fun c o e n => b.fr.keep c o (a.fr.keep c o e n) fun i z => ?_, fun c n => b.fr.more c (a.fr.more c n)⟩, fun i c e => ?_, fun i hi => (b.lk i hi).trans (a.lk i hi)⟩
  · rcases a.gr i c z with w | w
    · exact n i w
    · rw [e] at w; cases w
  · rcases b.gr i c e with w | w
    · exact a.gr i c w
    · exact .inr (Classical.byContradiction fun z => a.fr.more c z w)
end
def ResS (K : PySem.W.Frag) (lk : List Nat) (O : Addr → Prop) (A : Ow) (H : Hp) (A' : Ow) (σ' : L2.St) (H' : Hp) (env' : Env) (r : R) (v : V) : Prop := match r.fr with
  | false => RelEnv K O A' σ' H' env' ∧ Rep K (Un O A') H' r.d v
  | true => ∃ a, v = .ref a ∧ (H a = none ∨ ∃ j, j ∉ lk ∧ A j = some a) ∧ RelEnv K (fun b => O b ∨ b = a) A' σ' H' env' ∧ Top K (Un (fun b => O b ∨ b = a) A') H' r.d a
def SPost (K : PySem.W.Frag) (lk : List Nat) (O : Addr → Prop) (A : Ow) (H : Hp) (Dn : Ends) : Out → Prop
  | .nx env' => ∀ σ' H' A', Step lk A H A' H' → RelEnv K O A' σ' H' env' → Dn.nx σ' H'
  | .bk env' => ∀ σ' H' A', Step lk A H A' H' → RelEnv K O A' σ' H' env' → Dn.bk σ' H'
  | .ct env' => ∀ σ' H' A', Step lk A H A' H' → RelEnv K O A' σ' H' env' → Dn.ct σ' H'
  | .ret r env' => ∀ v σ' H' A', Step lk A H A' H' → ResS K lk O A H A' σ' H' env' r v → Dn.rt v H'
section
variable {K : PySem.W.Frag} {lk : List Nat} {O : Addr → Prop} {A A1 A2 : Ow} {H H1 H2 : Hp} {σ : L2.St} {env : Env} {r : R} {v : V} {Dn : Ends} {out : Out}
theorem ResS.back (a : Step lk A H A1 H1) (h : ResS K lk O A1 H1 A2 σ H2 env r v) : ResS K lk O A H A2 σ H2 env r v := by
  unfold ResS at h ⊢
  cases w : r.fr with
  | false => rw [w] at h; exact h
  | true =>
    rw [w] at h
    obtain ⟨b, e, n, x⟩ := h
    refine ⟨b, e, ?_, x⟩
    rcases n with n | ⟨j, hj, n⟩
    · exact .inl (Classical.byContradiction fun z => a.fr.more b z n)
    · rcases a.gr j b n with z | z
      · exact .inr ⟨j, hj, z⟩
      · exact .inl z
theorem SPost.back (a : Step lk A H A1 H1) (h : SPost K lk O A H Dn out) : SPost K lk O A1 H1 Dn out := by
  cases out with
  | nx e => exact fun σ' H' A' s R => h σ' H' A' (a.trans s) R
  | bk e => exact fun σ' H' A' s R => h σ' H' A' (a.trans s) R
  | ct e => exact fun σ' H' A' s R => h σ' H' A' (a.trans s) R
  | ret r e => exact fun v σ' H' A' s R => h v σ' H' A' (a.trans s) (R.back a)
theorem Res.s (h : Res K O A σ H H1 env r v) : ResS K lk O A H A σ H1 env r v := by
  unfold Res at h
  unfold ResS
  cases w : r.fr with
  | false => rw [w] at h; exact h
  | true =>
    rw [w] at h
    obtain ⟨a, e, n, x⟩ := h
    exact ⟨a, e, .inl n, x⟩
end
def tS (K : PySem.W.Frag) (lk : List Nat) (f : Env → Option Out) : TS := fun Dn σ H => ∃ O A env out, RelEnv K O A σ H env ∧ f env = some out ∧ SPost K lk O A H Dn out
abbrev DS (X : Cx) (lk : List Nat) (st : Stmt) (f : Env → Option Out) : Prop := PS X st (tS X.K lk f)
abbrev DSs (X : Cx) (lk : List Nat) (st : List Stmt) (f : Env → Option Out) : Prop := PSs X st (tS X.K lk f)
def cNx : Env → Option Out := fun env => some (.nx env)
def cSeq (f g : Env → Option Out) : Env → Option Out := fun env => match f env with
  | some (.nx e) => g e
  | o => o
section
variable {X : Cx} {lk : List Nat} {st : Stmt} {rest : List Stmt} {f g : Env → Option Out} {e : Expr} {fe : Env → Option (R × Env)} {pos : Pos}
theorem dss_nil : DSs X lk [] cNx := pss_imp pss_nil fun Dn σ H h => by
  obtain ⟨O, A, env, out, R, e, q⟩ := h
  cases e
  exact q σ H A (.of_fr .refl) R
theorem dss_cons (h1 : DS X lk st f) (h2 : DSs X lk rest g) : DSs X lk (st :: rest) (cSeq f g) := pss_imp (pss_cons h1 h2) fun Dn σ H h => by
  obtain ⟨O, A, env, out, R, e, q⟩ := h
  unfold cSeq at e
  cases w : f env with
  | none => rw [w] at e; cases e
  | some o =>
    rw [w] at e
    refine ⟨O, A, env, o, R, w, ?_⟩
    cases o with
    | nx e1 => exact fun σ1 H1 A1 s R1 => ⟨O, A1, e1, out, R1, e, q.back s⟩
    | bk e1 => cases e; exact q
    | ct e1 => cases e; exact q
    | ret r e1 => cases e; exact q
theorem dss_one (h1 : DS X lk st f) : DSs X lk [st] f := pss_one h1
/-! an expression -/
def cDrop (f : Env → Option (R × Env)) : Env → Option Out := fun env => do
  let (_, env') ← f env
  some (.nx env')
theorem ds_expr (he : DE X e fe) (hs : swapsWith e none pos.line X.env = pure false := by rfl) : DS X lk (.Expr e pos) (cDrop fe) := ps_imp (ps_expr he hs) fun Dn σ H h => by
  obtain ⟨O, A, env, out, R, e, q⟩ := h
  simp only [cDrop, Option.bind_eq_bind, Option.bind_eq_some_iff] at e
  obtain ⟨⟨r, env1⟩, e1, e2⟩ := e
  cases e2
  exact ⟨O, A, env, r, env1, R, e1, fun v H' F hr => q σ H' A (.of_fr F) (hr.sh R).1⟩
theorem ds_doc {x j pos pos'} : DS X lk (.Expr (.Constant (.str x) j pos) pos') cNx := ps_imp ps_doc fun Dn σ H h => by
  obtain ⟨O, A, env, out, R, e, q⟩ := h
  cases e
  exact q σ H A (.of_fr .refl) R
/-! return -/
def cRet (f : Env → Option (R × Env)) : Env → Option Out := fun env => do
  let (r, env') ← f env
  some (.ret r env')
theorem ds_ret (he : DE X e fe) : DS X lk (.Return (some e) pos) (cRet fe) := ps_imp (ps_ret he) fun Dn σ H h => by
  obtain ⟨O, A, env, out, R, e, q⟩ := h
  simp only [cRet, Option.bind_eq_bind, Option.bind_eq_some_iff] at e
  obtain ⟨⟨r, env1⟩, e1, e2⟩ := e
  cases e2
  exact ⟨O, A, env, r, env1, R, e1, fun v H' F hr => q v σ H' A (.of_fr F) hr.s⟩
def cRetO (i : Nat) : Env → Option Out := fun env => match env[i]? with
  | some (.ow d) => some (.ret ⟨d, true⟩ (env.set i .no))
  | some (.sh d) => some (.ret ⟨d, false⟩ env)
  | _ => none
def off (A : Ow) (i : Nat) : Ow := fun j => if j = i then none else A j
theorem off_some {A : Ow} {i j : Nat} {a : Addr} (h : off A i j = some a) : A j = some a ∧ j ≠ i := by
  unfold off at h
  split at h
  · cases h
  · exact ⟨h, by assumption⟩
theorem RelEnv.let_go {K : PySem.W.Frag} {O : Addr → Prop} {A : Ow} {σ : L2.St} {H : Hp} {env : Env} {i : Nat} {a : Addr} (R : RelEnv K O A σ H env) (e : A i = some a) : RelEnv K (fun b => O b ∨ b = a) (off A i) σ H (env.set i .no) := by
  refine ⟨by rw [List.length_set]; exact R.len, fun b z => ?_, fun j k b h1 h2 => R.inj j k b (off_some h1).1 (off_some h2).1, fun j => ?_⟩
  · rcases z with z | z
    · exact ⟨(R.ob b z).1, fun j w => (R.ob b z).2 j (off_some w).1⟩
    · subst z
      exact ⟨R.owSome e, fun j w => (off_some w).2 (R.inj j i b (off_some w).1 e)⟩
  · by_cases hj : j = i
    · subst hj
      have ho : off A j j = none := by unfold off; rw [if_pos rfl]
      rw [ho]
      by_cases hl : j < env.length
      · rw [List.getElem?_set_self hl]; rfl
      · rw [List.getElem?_eq_none (by rw [List.length_set]; omega)]; rfl
    · have ho : off A i j = A j := by unfold off; rw [if_neg hj]
      rw [List.getElem?_set_ne (Ne.symm hj), ho]
      refine (R.at_ j).step (W := fun _ => False) (fun _ _ e _ => e) (fun _ z => z.elim) (fun b u => .inl ?_) fun _ _ z => z
      rcases u with (u | u) | ⟨k, u⟩
      · exact .inl u
      · exact .inr ⟨i, by rw [u]; exact e⟩
      · exact .inr ⟨k, (off_some u).1⟩
theorem RelEnv.ow_get {K : PySem.W.Frag} {O : Addr → Prop} {A : Ow} {σ : L2.St} {H : Hp} {env : Env} {i : Nat} {d : D} (R : RelEnv K O A σ H env) (w : env[i]? = some (.ow d)) : ∃ a, A i = some a ∧ σ[i]? = some (some (.ref a)) ∧ Top K (Un O A) H d a := by
  have h := R.at_ i
  rw [w] at h
  exact h
theorem ds_retO (i : Nat) {x : Str} {p : Pos} (hN : X.N[i]? = some x := by rfl) (hv : Vis X.env.scope x := by first | exact Or.inl rfl | exact Or.inr (Or.inl rfl) | exact Or.inr (Or.inr rfl)) (hi : i ∉ lk := by decide) (hd : (x == ("__debug__" : Str)) = false := by decide)
    (hcd : (x == ("__classdict__" : Str)) = false := by decide) : DS X lk (.Return (some (.Name x p)) pos) (cRetO i) := ps_imp (ps_ret (pe_var hN hv hd hcd)) fun Dn σ H h => by
  obtain ⟨O, A, env, out, R, e, q⟩ := h
  unfold cRetO at e
  cases w : env[i]? with
  | none => rw [w] at e; cases e
  | some s => cases s with
    | no => rw [w] at e; cases e
    | sh d =>
      rw [w] at e
      cases e
      have h := R.at_ i
      rw [w] at h
      obtain ⟨_, v, hv, rp⟩ := h
      exact ⟨v, hv, q v σ H A (.of_fr .refl) ⟨R, rp⟩⟩
    | ow d =>
      rw [w] at e
      cases e
      obtain ⟨a, ea, ev, t⟩ := R.ow_get w
      refine ⟨_, ev, q _ σ H (off A i) ⟨.refl, fun j b z => .inl (off_some z).1, fun j hj => ?_⟩ ⟨a, rfl, .inr ⟨i, hi, ea⟩, R.let_go ea, t.step (W := fun _ => False) (fun _ _ e _ => e) (fun _ z => z.elim) (fun b u => .inl ?_) fun z => z⟩⟩
      · unfold off
        rw [if_neg fun z => hi (by rw [← z]; exact hj)]
      · rcases u with (u | u) | ⟨k, u⟩
        · exact .inl u
        · exact .inr ⟨i, by rw [u]; exact ea⟩
        · exact .inr ⟨k, (off_some u).1⟩
def cRetN : Env → Option Out := fun env => some (.ret ⟨.non, false⟩ env)
theorem ds_retN : DS X lk (.Return none pos) cRetN := ps_imp ps_retN fun Dn σ H h => by
  obtain ⟨O, A, env, out, R, e, q⟩ := h
  cases e
  exact q .non σ H A (.of_fr .refl) ⟨R, by simp only [Rep]⟩
def cBk : Env → Option Out := fun env => some (.bk env)
def cCt : Env → Option Out := fun env => some (.ct env)
theorem ds_break : DS X lk (.Break pos) cBk := ps_imp ps_break fun Dn σ H h => by
  obtain ⟨O, A, env, out, R, e, q⟩ := h
  cases e
  exact q σ H A (.of_fr .refl) R
theorem ds_continue : DS X lk (.Continue pos) cCt := ps_imp ps_continue fun Dn σ H h => by
  obtain ⟨O, A, env, out, R, e, q⟩ := h
  cases e
  exact q σ H A (.of_fr .refl) R
theorem ds_pass : DS X lk (.Pass pos) cNx := ps_imp ps_pass fun Dn σ H h => by
  obtain ⟨O, A, env, out, R, e, q⟩ := h
  cases e
  exact q σ H A (.of_fr .refl) R
/-! if -/
theorem ds_if {c : Expr} {a b : List Stmt} {ft : Env → Option (Bool × Env)} (hc : DT X c ft) (ha : DSs X lk a f) (hb : DSs X lk b g) : DS X lk (.If c a b pos) (cIte ft f g) := ps_imp (ps_if hc ha hb) fun Dn σ H h => by
  obtain ⟨O, A, env, out, R, e, q⟩ := h
  simp only [cIte, Option.bind_eq_bind, Option.bind_eq_some_iff] at e
  obtain ⟨⟨k, env1⟩, e1, e2⟩ := e
  refine ⟨O, A, env, k, env1, R, e1, fun H' F R1 => ?_⟩
  cases k with
  | true =>
    rw [if_pos rfl] at e2 ⊢
    exact ⟨O, A, env1, out, R1, e2, q.back (.of_fr F)⟩
  | false =>
    rw [if_neg Bool.false_ne_true] at e2 ⊢
    exact ⟨O, A, env1, out, R1, e2, q.back (.of_fr F)⟩
/-! names stored -/
def on (A : Ow) (i : Nat) (a : Addr) : Ow := fun j => if j = i then some a else A j
theorem on_some {A : Ow} {i j : Nat} {a b : Addr} (h : on A i a j = some b) : (j = i ∧ b = a) ∨ (j ≠ i ∧ A j = some b) := by
  unfold on at h
  split at h
  · exact .inl ⟨by assumption, (Option.some.inj h).symm⟩
  · exact .inr ⟨by assumption, h⟩
theorem RelEnv.setAny {K : PySem.W.Frag} {O : Addr → Prop} {A : Ow} {σ : L2.St} {H : Hp} {env : Env} {i : Nat} {d : D} {v : V} (R : RelEnv K O A σ H env) (hi : i < env.length) (h : Rep K (Un O A) H d v) : RelEnv K O (off A i) (σ.set i (some v)) H (env.set i (.sh d)) := by
  have hU : ∀ b, Un O (off A i) b → Un O A b ∨ H b = none := fun b u => .inl (u.imp id fun ⟨k, z⟩ => ⟨k, (off_some z).1⟩)
  refine ⟨by rw [List.length_set, List.length_set]; exact R.len, fun b z => ⟨(R.ob b z).1, fun j w => (R.ob b z).2 j (off_some w).1⟩, fun j k b h1 h2 => R.inj j k b (off_some h1).1 (off_some h2).1, fun j => ?_⟩
  by_cases hj : j = i
  · subst hj
    rw [List.getElem?_set_self hi]
    exact ⟨by unfold off; rw [if_pos rfl], v, List.getElem?_set_self (by rw [R.len]; exact hi), Rep.step (W := fun _ => False) (fun _ _ e _ => e) (fun _ z => z.elim) hU _ _ h⟩
  · have ho : off A i j = A j := by unfold off; rw [if_neg hj]
    rw [List.getElem?_set_ne (Ne.symm hj), ho]
    exact ((R.at_ j).set_ne hj).step (W := fun _ => False) (fun _ _ e _ => e) (fun _ z => z.elim) hU fun _ _ z => z
theorem RelEnv.setOwn {K : PySem.W.Frag} {O : Addr → Prop} {A : Ow} {σ : L2.St} {H : Hp} {env : Env} {i : Nat} {d : D} {a : Addr} (R : RelEnv K (fun b => O b ∨ b = a) A σ H env) (hi : i < env.length) (hO : ¬ O a) (h : Top K (Un (fun b => O b ∨ b = a) A) H d a) :
    RelEnv K O (on A i a) (σ.set i (some (.ref a))) H (env.set i (.ow d)) := by
  have hU : ∀ b, Un O (on A i a) b → Un (fun b => O b ∨ b = a) A b ∨ H b = none := fun b u => .inl (by
    rcases u with u | ⟨k, u⟩
    · exact .inl (.inl u)
    · rcases on_some u with ⟨_, z⟩ | ⟨_, z⟩
      · exact .inl (.inr z)
      · exact .inr ⟨k, z⟩)
  refine ⟨by rw [List.length_set, List.length_set]; exact R.len, fun b z => ⟨(R.ob b (.inl z)).1, fun j w => ?_⟩, fun j k b h1 h2 => ?_, fun j => ?_⟩
  · rcases on_some w with ⟨_, y⟩ | ⟨_, y⟩
    · exact hO (by rw [← y]; exact z)
    · exact (R.ob b (.inl z)).2 j y
  · rcases on_some h1 with ⟨e1, y1⟩ | ⟨e1, y1⟩ <;> rcases on_some h2 with ⟨e2, y2⟩ | ⟨e2, y2⟩
    · rw [e1, e2]
    · rw [y1] at y2; exact absurd y2 ((R.ob a (.inr rfl)).2 k)
    · rw [y2] at y1; exact absurd y1 ((R.ob a (.inr rfl)).2 j)
    · exact R.inj j k b y1 y2
  · by_cases hj : j = i
    · subst hj
      rw [List.getElem?_set_self hi]
      exact ⟨a, by unfold on; rw [if_pos rfl], List.getElem?_set_self (by rw [R.len]; exact hi), h.step (W := fun _ => False) (fun _ _ e _ => e) (fun _ z => z.elim) hU fun z => z⟩
    · have ho : on A i a j = A j := by unfold on; rw [if_neg hj]
      rw [List.getElem?_set_ne (Ne.symm hj), ho]
      exact ((R.at_ j).set_ne hj).step (W := fun _ => False) (fun _ _ e _ => e) (fun _ z => z.elim) hU fun _ _ z => z
/-- own: the new object stays with the name alone -/
def storeSl (own : Bool) (i : Nat) (r : R) (env : Env) : Option Env :=
  if i < env.length then (if own then (if r.fr then some (env.set i (.ow r.d)) else none) else some (env.set i (.sh r.d))) else none
theorem store_fold {K : PySem.W.Frag} {O : Addr → Prop} {A : Ow} {σ σ0 : L2.St} {H H' : Hp} {env env0 env' : Env} {i : Nat} {own : Bool} {r : R} {v : V} (R0 : RelEnv K O A σ0 H env0) (F : Fr A H H') (hr : Res K O A σ H H' env r v) (e : storeSl own i r env = some env') (hi : i ∉ lk) :
    ∃ A', Step lk A H A' H' ∧ RelEnv K O A' (σ.set i (some v)) H' env' := by
  unfold storeSl at e
  split at e
  · rename_i hl
    cases own with
    | false =>
      rw [if_neg Bool.false_ne_true] at e
      cases e
      obtain ⟨R1, rp⟩ := hr.sh R0
      exact ⟨off A i, ⟨F, fun j b z => .inl (off_some z).1, fun j hj => by unfold off; rw [if_neg fun z => hi (by rw [← z]; exact hj)]⟩, R1.setAny hl rp⟩
    | true =>
      rw [if_pos rfl] at e
      split at e
      · rename_i hf
        cases e
        unfold Res at hr
        rw [hf] at hr
        obtain ⟨a, rfl, hn, R1, t⟩ := hr
        refine ⟨on A i a, ⟨F, fun j b z => ?_, fun j hj => by unfold on; rw [if_neg fun z => hi (by rw [← z]; exact hj)]⟩, R1.setOwn hl (fun z => (R0.ob a z).1 hn) t⟩
        rcases on_some z with ⟨_, y⟩ | ⟨_, y⟩
        · exact .inr (by rw [y]; exact hn)
        · exact .inl y
      · cases e
  · cases e
def cSet (own : Bool) (i : Nat) (f : Env → Option (R × Env)) : Env → Option Out := fun env => do
  let (r, env1) ← f env
  let env2 ← storeSl own i r env1
  some (.nx env2)
theorem ds_set_of (own : Bool) {i : Nat} {te : TE} (h : PS X st (tAsg te (gName i))) (ht : ∀ σ H Q, tE X.K fe σ H Q → te σ H Q) (hi : i ∉ lk) : DS X lk st (cSet own i fe) := ps_imp h fun Dn σ H h => by
  obtain ⟨O, A, env, out, R, e, q⟩ := h
  simp only [cSet, Option.bind_eq_bind, Option.bind_eq_some_iff] at e
  obtain ⟨⟨r, env1⟩, e1, env2, e2, e3⟩ := e
  cases e3
  refine ht _ _ _ ⟨O, A, env, r, env1, R, e1, fun v H' F hr => ?_⟩
  obtain ⟨A', s, R'⟩ := store_fold (lk := lk) R F hr e2 hi
  exact q _ H' A' s R'
theorem ds_set (own : Bool) (hN : X.N.Nodup) (i : Nat) {x : Str} {pos' : Pos} (he : DE X e fe) (hi : X.N[i]? = some x := by rfl) (hx : Loc X.env.scope x := by first | exact Or.inl rfl | exact Or.inr rfl) (hl : i ∉ lk := by decide) (hs : swapsWith e (some (.Name x pos')) pos.line X.env = pure false := by rfl)
    (hf : X.fn x = true ∨ X.env.scope.names.lookup x = some .local := by first | exact .inl rfl | exact .inr rfl) : DS X lk (.Assign [.Name x pos'] e pos) (cSet own i fe) := ds_set_of own (ps_set hN hi hx he hs hf) (fun _ _ _ h => h) hl
/-- y = [.. for ..] on one line, y a plain local name -/
theorem ds_setLc (own : Bool) {i : Nat} {y : Str} {py : Pos} {elt tg iter : Expr} {ifs : List Expr} {scope : Scope} {ow : List (Str × Nat)} {pos spos : Pos} {ws : List Nat} {it : Env → Option (List D × Env)} {g : D → Env → Option Env} {t : Env → Option (Bool × Env)} {f : Env → Option (R × Env)}
    (hc : X.calm = true) (hN : X.N.Nodup) (hi : DI X tg iter it) (ok : blkC X.N X.env.scope scope ow = true)
    (hg : ∀ (s : Shared) (H : Hp) (C : Addr) (cl : List (Str × Addr)) (fp : List Addr), DG (X.blk s H scope (compEnvC scope cl C X.env) fp) tg ws g)
    (ht : ∀ (s : Shared) (H : Hp) (C : Addr) (cl : List (Str × Addr)) (fp : List Addr), DTs (X.blk s H scope (compEnvC scope cl C X.env) fp) ifs t)
    (he : ∀ (s : Shared) (H : Hp) (C : Addr) (cl : List (Str × Addr)) (fp : List Addr), DE (X.blk s H scope (compEnvC scope cl C X.env) fp) elt f)
    (hsw : swapsWith (.ListComp elt [⟨tg, iter, ifs, 0⟩] scope pos) (some (.Name y py)) spos.line X.env = pure true)
    (hy : X.N[i]? = some y := by rfl) (hyl : X.env.scope.names.lookup y = some .local := by rfl) (hl : i ∉ lk := by decide)
    (hws : ∀ i, i ∈ ws → i ∈ ow.map (·.2) := by decide) (hs : ∀ x, foldedSetIterable iter X.env x = pure x := by intro _; rfl) : DS X lk (.Assign [.Name y py] (.ListComp elt [⟨tg, iter, ifs, 0⟩] scope pos) spos) (cSet own i (cLC (ow.map (·.2)) it g t f)) :=
  ds_set_of own (ps_setLc (hc := hc) (hN := hN) (hy := hy) (hyl := hyl) (hi := hi) (hsw := hsw) (ok := blkOk_by ok) (hg := hg) (ht := ht) (he := he) (hs := hs)) (fun _ _ _ h => lc_fold hws h) hl
/-- targets of any form, the value shared -/
def cAsg (f : Env → Option (R × Env)) (g : D → Env → Option Env) : Env → Option Out := fun env => do
  let (r, env1) ← f env
  let env2 ← g r.d env1
  some (.nx env2)
theorem ds_asg {tg : Expr} {vs : List Nat} {g : D → Env → Option Env} (he : DE X e fe) (hg : DG X tg vs g) (hs : swapsWithSole [tg] e pos.line X.env = pure false := by rfl) (hw : swappedStores [tg] e X.env = pure none := by rfl)
    (h1 : (assignEach [tg] X.env).map (·.2) = [assign tg X.env] := by rfl) : DS X lk (.Assign [tg] e pos) (cAsg fe g) := ps_imp (ps_asg he hg hs hw h1) fun Dn σ H h => by
  obtain ⟨O, A, env, out, R, e, q⟩ := h
  simp only [cAsg, Option.bind_eq_bind, Option.bind_eq_some_iff] at e
  obtain ⟨⟨r, env1⟩, e1, env2, e2, e3⟩ := e
  cases e3
  refine ⟨O, A, env, r, env1, R, e1, fun v H' F hr => ?_⟩
  obtain ⟨R1, rp⟩ := hr.sh R
  exact ⟨O, A, env1, r.d, env2, R1, rp, e2, fun σ' R' _ => q σ' H' A (.of_fr F) R'⟩
/-- a name's object is no longer its own -/
def shE : List Nat → Env → Option Env
  | [], env => some env
  | i :: is, env => do
    let env1 ← shE is env
    match env1[i]? with
    | some (.ow d) => some (env1.set i (.sh d))
    | some (.sh _) => some env1
    | _ => none
def cShare (is : List Nat) (f : Env → Option Out) : Env → Option Out := fun env => do
  let env1 ← shE is env
  f env1
theorem share_fold {K : PySem.W.Frag} {O : Addr → Prop} {σ : L2.St} {H : Hp} : ∀ (is : List Nat) {A : Ow} {env env' : Env}, (∀ i, i ∈ is → i ∉ lk) → RelEnv K O A σ H env → shE is env = some env' → ∃ A', Step lk A H A' H ∧ RelEnv K O A' σ H env'
  | [], A, env, env', _, R, e => by cases e; exact ⟨A, .of_fr .refl, R⟩
  | i :: is, A, env, env', hl, R, e => by
    simp only [shE, Option.bind_eq_bind, Option.bind_eq_some_iff] at e
    obtain ⟨env1, e1, e2⟩ := e
    obtain ⟨A1, s1, R1⟩ := share_fold is (fun j hj => hl j (List.mem_cons_of_mem _ hj)) R e1
    cases w : env1[i]? with
    | none => rw [w] at e2; cases e2
    | some s => cases s with
      | no => rw [w] at e2; cases e2
      | sh d => rw [w] at e2; cases e2; exact ⟨A1, s1, R1⟩
      | ow d =>
        rw [w] at e2
        cases e2
        obtain ⟨a, ea, ev, t⟩ := R1.ow_get w
        have hil : i < env1.length := (List.getElem?_eq_some_iff.mp w).1
        have hU : ∀ b, Un O (off A1 i) b → Un O A1 b ∨ H b = none := fun b u => .inl (u.imp id fun ⟨k, z⟩ => ⟨k, (off_some z).1⟩)
        refine ⟨off A1 i, s1.trans ⟨.refl, fun j b z => .inl (off_some z).1, fun j hj => by unfold off; rw [if_neg fun z => hl i List.mem_cons_self (by rw [← z]; exact hj)]⟩,
          by rw [List.length_set]; exact R1.len, fun b z => ⟨(R1.ob b z).1, fun j w => (R1.ob b z).2 j (off_some w).1⟩, fun j k b h1 h2 => R1.inj j k b (off_some h1).1 (off_some h2).1, fun j => ?_⟩
        by_cases hj : j = i
        · subst hj
          rw [List.getElem?_set_self hil]
          refine ⟨by unfold off; rw [if_pos rfl], _, ev, Top.rep (t.step (W := fun _ => False) (fun _ _ e _ => e) (fun _ z => z.elim) hU fun z => z) fun u => ?_⟩
          rcases u with u | ⟨k, u⟩
          · exact (R1.ob a u).2 j ea
          · exact (off_some u).2 (R1.inj k j a (off_some u).1 ea)
        · have ho : off A1 i j = A1 j := by unfold off; rw [if_neg hj]
          rw [List.getElem?_set_ne (Ne.symm hj), ho]
          exact (R1.at_ j).step (W := fun _ => False) (fun _ _ e _ => e) (fun _ z => z.elim) hU fun _ _ z => z
theorem ds_share (is : List Nat) (h : DS X lk st f) (hl : ∀ i, i ∈ is → i ∉ lk := by decide) : DS X lk st (cShare is f) := ps_imp h fun Dn σ H h => by
  obtain ⟨O, A, env, out, R, e, q⟩ := h
  simp only [cShare, Option.bind_eq_bind, Option.bind_eq_some_iff] at e
  obtain ⟨env1, e1, e2⟩ := e
  obtain ⟨A1, s1, R1⟩ := share_fold (lk := lk) is hl R e1
  exact ⟨O, A1, env1, out, R1, e2, q.back s1⟩
end

/-! ### loops -/
def forL (g : D → Env → Option Env) (body : Env → Option Out) : List D → Env → Option Out
  | [], env => some (.nx env)
  | d :: ds, env => do
    let env1 ← g d env
    let o ← body env1
    match o with
    | .nx e => forL g body ds e
    | .ct e => forL g body ds e
    | .bk e => some (.nx e)
    | .ret r e => some (.ret r e)
def cFor (it : Env → Option (List D × Env)) (g : D → Env → Option Env) (body : Env → Option Out) : Env → Option Out := fun env => do
  let (ds, env1) ← it env
  forL g body ds env1
section
variable {X : Cx} {lk : List Nat} {pos : Pos}
theorem ds_for {tg iter : Expr} {body : List Stmt} {ws : List Nat} {it : Env → Option (List D × Env)} {g : D → Env → Option Env} {f : Env → Option Out} (hc : X.calm = true) (hi : DI X tg iter it) (hg : DG X tg ws g) (hb : DSs X lk body f)
    (hp : PassesOwn (model X.prog X.w) X.A X.env X.xe := by exact PassesOwn.never) (hs : ∀ x, foldedSetIterable iter X.env x = pure x := by intro _; rfl) : DS X lk (.For tg iter body [] pos) (cFor it g f) := ps_imp (ps_for hp hc hi hg hb hs) fun Dn σ H h => by
  obtain ⟨O, A, env, out, R, e, q⟩ := h
  simp only [cFor, Option.bind_eq_bind, Option.bind_eq_some_iff] at e
  obtain ⟨⟨ds, env1⟩, e1, e2⟩ := e
  refine ⟨O, A, env, ds, env1, R, e1, fun J H1 F1 R1 ok => ?_⟩
  let Nx : Nat → L2.St → Hp → Prop := fun i σ2 H2 => ∃ A2 env2, Step lk A H1 A2 H2 ∧ RelEnv X.K O A2 σ2 H2 env2 ∧ forL g f (ds.drop i) env2 = some out
  have q1 : SPost X.K lk O A H1 Dn out := q.back (.of_fr F1)
  refine ⟨fun i m σ2 H2 => m + i = ds.length ∧ Nx i σ2 H2, ⟨ds.length, rfl, A, env1, .of_fr .refl, R1, by simpa using e2⟩, fun i m σ2 H2 hw => ?_⟩
  obtain ⟨hm, A2, env2, s2, R2, hc2⟩ := hw
  have turn := ok.turn (fun b => ∃ i, A i = some b) (Un O A2) H2 s2.fr.hF R1.hW fun b u => by
    rcases u with u | ⟨k, u⟩
    · exact .inl (.inl u)
    · rcases s2.gr k b u with z | z
      · exact .inl (.inr ⟨k, z⟩)
      · exact .inr z
  by_cases hi : i < ds.length
  · refine .inr ?_
    obtain ⟨go, yl⟩ := turn.1 i _ (List.getElem?_eq_getElem hi)
    rw [List.drop_eq_getElem_cons hi] at hc2
    simp only [forL, Option.bind_eq_bind, Option.bind_eq_some_iff] at hc2
    obtain ⟨g1, eg, o, eb, hc2⟩ := hc2
    refine ⟨go, Nx (i + 1), fun σ' H' h3 => ⟨m - 1, by omega, by omega, h3⟩, fun x H3 hy => ?_⟩
    obtain ⟨S3, rx⟩ := yl x H3 hy
    have s3 : Step lk A H1 A2 H3 := s2.trans (.of_fr (Fr.same S3))
    refine ⟨O, A2, env2, _, g1, R2.same S3, rx, eg, fun σ3 Rg _ => ⟨O, A2, g1, o, Rg, eb, ?_⟩⟩
    cases o with
    | nx e => exact fun σ' H' A' s R' => ⟨A', e, s3.trans s, R', hc2⟩
    | ct e => exact fun σ' H' A' s R' => ⟨A', e, s3.trans s, R', hc2⟩
    | bk e => cases hc2; exact fun σ' H' A' s R' => q1 σ' H' A' (s3.trans s) R'
    | ret r e => cases hc2; exact fun v σ' H' A' s R' => q1 v σ' H' A' (s3.trans s) (R'.back s3)
  · refine .inl ?_
    have ei' : i = ds.length := by omega
    subst ei'
    rw [List.drop_length] at hc2
    cases hc2
    exact ⟨turn.2, q1 σ2 H2 A2 s2 R2⟩
def whN (c : Env → Option (Bool × Env)) (body : Env → Option Out) : Nat → Env → Option Out
  | 0, _ => none
  | n + 1, env => do
    let (b, env1) ← c env
    if b then do
      let o ← body env1
      match o with
      | .nx e => whN c body n e
      | .ct e => whN c body n e
      | .bk e => some (.nx e)
      | .ret r e => some (.ret r e)
    else some (.nx env1)
open Classical in
noncomputable def cWhile (c : Env → Option (Bool × Env)) (body : Env → Option Out) : Env → Option Out := fun env =>
  if h : ∃ n, (whN c body n env).isSome then whN c body h.choose env else none
theorem whN_more {c : Env → Option (Bool × Env)} {body : Env → Option Out} : ∀ (n : Nat) (env : Env) (o : Out), whN c body n env = some o → whN c body (n + 1) env = some o
  | 0, env, o, h => by cases h
  | n + 1, env, o, h => by
    rw [whN] at h ⊢
    simp only [Option.bind_eq_bind, Option.bind_eq_some_iff] at h ⊢
    obtain ⟨⟨b, env1⟩, e1, h⟩ := h
    refine ⟨⟨b, env1⟩, e1, ?_⟩
    cases b with
    | false => exact h
    | true =>
      simp only [if_true, Option.bind_eq_some_iff] at h ⊢
      obtain ⟨o1, e2, h⟩ := h
      refine ⟨o1, e2, ?_⟩
      cases o1 with
      | nx e => exact whN_more n e o h
      | ct e => exact whN_more n e o h
      | bk e => exact h
      | ret r e => exact h
theorem whN_le {c : Env → Option (Bool × Env)} {body : Env → Option Out} {n m : Nat} {env : Env} {o : Out} (h : whN c body n env = some o) (l : n ≤ m) : whN c body m env = some o := by
  induction l with
  | refl => exact h
  | step _ ih => exact whN_more _ _ _ ih
theorem cWhile_eq {c : Env → Option (Bool × Env)} {body : Env → Option Out} {n : Nat} {env : Env} {o : Out} (h : whN c body n env = some o) : cWhile c body env = some o := by
  unfold cWhile
  have ex : ∃ n, (whN c body n env).isSome := ⟨n, by rw [h]; rfl⟩
  rw [dif_pos ex]
  have := ex.choose_spec
  cases w : whN c body ex.choose env with
  | none => rw [w] at this; cases this
  | some o' =>
    have h1 := whN_le h (Nat.le_max_left n ex.choose)
    have h2 := whN_le w (Nat.le_max_right n ex.choose)
    rw [h1] at h2
    exact h2.symm
theorem of_cWhile {c : Env → Option (Bool × Env)} {body : Env → Option Out} {env : Env} {o : Out} (h : cWhile c body env = some o) : ∃ n, whN c body n env = some o := by
  unfold cWhile at h
  split at h
  · exact ⟨_, h⟩
  · cases h
theorem ds_while {c : Expr} {body : List Stmt} {ft : Env → Option (Bool × Env)} {f : Env → Option Out} (hc : DT X c ft) (hb : DSs X lk body f) (hp : PassesOwn (model X.prog X.w) X.A X.env X.xe := by exact PassesOwn.never) : DS X lk (.While c body [] pos) (cWhile ft f) := ps_imp (ps_while hp hc hb) fun Dn σ H h => by
  obtain ⟨O, A, env, out, R, e, q⟩ := h
  obtain ⟨n0, e⟩ := of_cWhile e
  let W : Nat → L2.St → Hp → Prop := fun n σ2 H2 => ∃ A2 env2, Step lk A H A2 H2 ∧ RelEnv X.K O A2 σ2 H2 env2 ∧ whN ft f n env2 = some out
  refine ⟨W, ⟨n0, A, env, .of_fr .refl, R, e⟩, fun n σ2 H2 hw => ?_⟩
  obtain ⟨A2, env2, s2, R2, hw⟩ := hw
  cases n with
  | zero => cases hw
  | succ n =>
    rw [whN] at hw
    simp only [Option.bind_eq_bind, Option.bind_eq_some_iff] at hw
    obtain ⟨⟨b, env3⟩, e1, hw⟩ := hw
    refine ⟨O, A2, env2, b, env3, R2, e1, fun H3 F3 R3 => ?_⟩
    have s3 : Step lk A H A2 H3 := s2.trans (.of_fr F3)
    cases b with
    | false =>
      show if false = true then _ else _
      rw [if_neg Bool.false_ne_true] at hw ⊢
      cases hw
      exact q σ2 H3 A2 s3 R3
    | true =>
      show if true = true then _ else _
      rw [if_pos rfl] at hw ⊢
      simp only [Option.bind_eq_some_iff] at hw
      obtain ⟨o, e2, hw⟩ := hw
      refine ⟨W n, fun σ' H' w => ⟨n, Nat.lt_succ_self n, w⟩, O, A2, env3, o, R3, e2, ?_⟩
      cases o with
      | nx e => exact fun σ' H' A' s R' => ⟨A', e, s3.trans s, R', hw⟩
      | ct e => exact fun σ' H' A' s R' => ⟨A', e, s3.trans s, R', hw⟩
      | bk e => cases hw; exact fun σ' H' A' s R' => q σ' H' A' (s3.trans s) R'
      | ret r e => cases hw; exact fun v σ' H' A' s R' => q v σ' H' A' (s3.trans s) (R'.back s3)
end
end DL

namespace DL
open PySem PySem.Spec PyProof.Rows L2

/-! ### a name's own list is changed -/
theorem tOp_mono {K : PySem.W.Frag} {o : Opn} {σ : L2.St} {H : Hp} {Q Q' : VK} (q : ∀ v H, Q v H → Q' v H) (h : teOp K o σ H Q) : teOp K o σ H Q' := by
  cases o with
  | nm i => obtain ⟨v, e, h⟩ := h; exact ⟨v, e, q v H h⟩
  | ex f =>
    obtain ⟨O, A, env, r, env', R, e, h⟩ := h
    exact ⟨O, A, env, r, env', R, e, fun v H' F hr => q v H' (h v H' F hr)⟩
theorem evOps_len : ∀ {os : List Opn} {env env' : Env} {ds : List D} {fl : Bool}, evOps os env = some (ds, fl, env') → ds.length = os.length
  | [], _, _, _, _, e => by cases e; rfl
  | .nm i :: os, env, env', ds, fl, e => by
    simp only [evOps, Option.bind_eq_bind, Option.bind_eq_some_iff] at e
    obtain ⟨_, _, ⟨ds1, fl1, env1⟩, e1, ⟨d, o⟩, e2, e3⟩ := e
    cases e3
    simp [evOps_len e1]
  | .ex f :: os, env, env', ds, fl, e => by
    simp only [evOps, Option.bind_eq_bind, Option.bind_eq_some_iff] at e
    obtain ⟨_, _, ⟨ds1, fl1, env1⟩, e1, e3⟩ := e
    cases e3
    simp [evOps_len e1]
theorem RepTs.len {K : PySem.W.Frag} {U : Addr → Prop} {H : Hp} : ∀ {ds : List D} {vs : List V}, RepTs K U H ds vs → vs.length = ds.length
  | [], _, h => by simp only [RepTs] at h; subst h; rfl
  | d :: ds, _, h => by
    obtain ⟨x, r, rfl, _, h2⟩ := h
    simp [RepTs.len h2]
/-- what is put into the list held by slot k -/
theorem RelEnv.put {K : PySem.W.Frag} {O : Addr → Prop} {A : Ow} {σ : L2.St} {H : Hp} {env : Env} {k : Nat} {ds ds' : List D} {a : Addr} {xs xs' : List V} (R : RelEnv K O A σ H env) (w : env[k]? = some (.ow (.lst ds))) (ea : A k = some a) (hx : H a = some (.lst xs)) (hr : Reps K (Un O A) H ds' xs') :
    RelEnv K O A σ (upd H a (.lst xs')) (env.set k (.ow (.lst ds'))) ∧ Fr A H (upd H a (.lst xs')) := by
  have hF : ∀ b o, H b = some o → ¬ (b = a) → upd H a (.lst xs') b = some o := fun b o e n => by rw [upd_ne n]; exact e
  have hW : ∀ b, b = a → Un O A b ∧ Wr (H b) := fun b z => by rw [z]; exact R.hW a ⟨k, ea⟩
  refine ⟨R.write ea hF ⟨xs', upd_same, Reps.step (W := fun b => b = a) hF hW (fun _ u => .inl u) _ _ hr⟩ w, fun b o e n => ?_, fun b n => ?_⟩
  · rw [upd_ne fun z => n k (by rw [z]; exact ea)]
    exact e
  · by_cases hb : b = a
    · rw [hb, upd_same]; exact fun z => nomatch z
    · rw [upd_ne hb]; exact n
theorem RelEnv.lst_get {K : PySem.W.Frag} {O : Addr → Prop} {A : Ow} {σ : L2.St} {H : Hp} {env : Env} {k : Nat} {ds : List D} (R : RelEnv K O A σ H env) (w : env[k]? = some (.ow (.lst ds))) : ∃ a xs, A k = some a ∧ σ[k]? = some (some (.ref a)) ∧ H a = some (.lst xs) ∧ Reps K (Un O A) H ds xs := by
  obtain ⟨a, ea, ev, xs, hx, hr⟩ := R.ow_get w
  exact ⟨a, xs, ea, ev, hx, hr⟩
/-- the content of slot k's own list -/
def ownL (env : Env) (k : Nat) : Option (List D) := match env[k]? with
  | some (.ow (.lst ds)) => some ds
  | _ => none
theorem ownL_some {env : Env} {k : Nat} {ds : List D} (h : ownL env k = some ds) : env[k]? = some (.ow (.lst ds)) := by
  unfold ownL at h
  split at h
  · cases h; assumption
  · cases h
section
variable {X : Cx} {lk : List Nat} {e : Expr} {pos cpos apos : Pos} {x : Str} {p : Pos}
/-- what stands in slot k at both ends -/
theorem own_val {K : PySem.W.Frag} {O : Addr → Prop} {A : Ow} {σ : L2.St} {H H' : Hp} {env env' : Env} {k : Nat} {ds ds' : List D} (R : RelEnv K O A σ H env) (w : ownL env k = some ds) (R' : RelEnv K O A σ H' env') (w' : ownL env' k = some ds') :
    ∃ a xs, A k = some a ∧ σ[k]? = some (some (.ref a)) ∧ H' a = some (.lst xs) ∧ Reps K (Un O A) H' ds' xs := R'.lst_get (ownL_some w')
/-- x.append(e) -/
def cApp (k : Nat) (o : Opn) : Env → Option Out := fun env => do
  let _ ← ownL env k
  let (ds, fl, env1) ← evOps [o] env
  let xs ← ownL env1 k
  if fl then none else if xs.length < 1000000 then some (.nx (env1.set k (.ow (.lst (xs ++ ds))))) else none
theorem tyL {K : PySem.W.Frag} {H : Hp} {a : Addr} {xs : List V} (h : H a = some (.lst xs)) : tyV K "list" (.ref a) H := .inl ⟨rfl, xs, .inl (.inl h)⟩
theorem ds_app {o : Opn} (k : Nat) (hk : Opd X (.Name x p) (.nm k)) (he : Opd X e o)
    (hbase : attributeBase (.Name x p) "append" X.env (eval (.Name x p) X.env) = eval (.Name x p) X.env := by rfl)
    (hfew : ((backTo cpos (starEach [e] X.env)).all (fun x => !x.1) && (backToKw cpos (keywordEach [] X.env)).all (fun x => x.1.isSome)
      && decide ([e].length + ([] : List Keyword).length + (if ([] : List Keyword).isEmpty then 0 else 1) < 30)) = true := by rfl)
    (hline : (apos.endLine == cpos.line) = true := by rfl) (hs : starEach [e] X.env = (false, eval e X.env) :: starEach [] X.env := by rfl) (hplain : (backTo cpos (starEach [] X.env)).any (·.1) = false := by rfl)
    (hsw : swapsWith (.Call (.Attribute (.Name x p) "append" apos) [e] [] cpos) none pos.line X.env = pure false := by rfl) : DS X lk (.Expr (.Call (.Attribute (.Name x p) "append" apos) [e] [] cpos) pos) (cApp k o) :=
  ps_imp (ps_expr (pe_bm PySem.F.plainAttrs_list PySem.F.slot_list_append PySem.F.type_list_append mt_append hk (ops_cons he ops_nil hs) hbase hfew hline hs hplain) hsw) fun Dn σ H h => by
  obtain ⟨O, A, env, out, R, e, q⟩ := h
  simp only [cApp, Option.bind_eq_bind, Option.bind_eq_some_iff] at e
  obtain ⟨ds0, w0, ⟨ds, fl, env1⟩, e1, xs1, w1, e2⟩ := e
  obtain ⟨a0, xs0, ea0, ev0, hx0, _⟩ := R.lst_get (ownL_some w0)
  refine ⟨_, ev0, tyL hx0, ops_fold [o] O H env ds fl env1 _ R e1 fun vs H' F R1 rt rf => ?_⟩
  cases fl with
  | true => cases e2
  | false =>
    rw [if_neg Bool.false_ne_true] at e2
    split at e2
    · rename_i hl
      cases e2
      obtain ⟨a, xs, ea, _, hx, hr⟩ := R1.lst_get (ownL_some w1)
      rw [ea0] at ea; cases ea
      have hv := rf rfl
      have hl1 : vs.length = 1 := (Reps.len _ _ hv).trans (evOps_len e1)
      match vs, hl1 with
      | [y], _ =>
        have P := R1.put (ownL_some w1) ea0 hx (hr.append hv)
        refine ⟨a0, xs, y, rfl, rfl, hx, ?_, q σ _ A (.of_fr (F.trans P.2)) P.1⟩
        rw [Reps.len _ _ hr, sizeLine_eq]
        omega
    · cases e2
/-- x.extend(e) -/
def cExt (k : Nat) (o : Opn) : Env → Option Out := fun env => do
  let _ ← ownL env k
  let (ds, fl, env1) ← evOps [o] env
  let xs ← ownL env1 k
  match fl, ds with
  | false, [.lst ys] => if xs.length + ys.length ≤ 1000000 then some (.nx (env1.set k (.ow (.lst (xs ++ ys))))) else none
  | _, _ => none
theorem ds_ext {o : Opn} (k : Nat) (hk : Opd X (.Name x p) (.nm k)) (he : Opd X e o)
    (hbase : attributeBase (.Name x p) "extend" X.env (eval (.Name x p) X.env) = eval (.Name x p) X.env := by rfl)
    (hfew : ((backTo cpos (starEach [e] X.env)).all (fun x => !x.1) && (backToKw cpos (keywordEach [] X.env)).all (fun x => x.1.isSome)
      && decide ([e].length + ([] : List Keyword).length + (if ([] : List Keyword).isEmpty then 0 else 1) < 30)) = true := by rfl)
    (hline : (apos.endLine == cpos.line) = true := by rfl) (hs : starEach [e] X.env = (false, eval e X.env) :: starEach [] X.env := by rfl) (hplain : (backTo cpos (starEach [] X.env)).any (·.1) = false := by rfl)
    (hsw : swapsWith (.Call (.Attribute (.Name x p) "extend" apos) [e] [] cpos) none pos.line X.env = pure false := by rfl) : DS X lk (.Expr (.Call (.Attribute (.Name x p) "extend" apos) [e] [] cpos) pos) (cExt k o) :=
  ps_imp (ps_expr (pe_bm PySem.F.plainAttrs_list PySem.F.slot_list_extend PySem.F.type_list_extend mt_extend hk (ops_cons he ops_nil hs) hbase hfew hline hs hplain) hsw) fun Dn σ H h => by
  obtain ⟨O, A, env, out, R, e, q⟩ := h
  simp only [cExt, Option.bind_eq_bind, Option.bind_eq_some_iff] at e
  obtain ⟨ds0, w0, ⟨ds, fl, env1⟩, e1, xs1, w1, e2⟩ := e
  obtain ⟨a0, xs0, ea0, ev0, hx0, _⟩ := R.lst_get (ownL_some w0)
  refine ⟨_, ev0, tyL hx0, ops_fold [o] O H env ds fl env1 _ R e1 fun vs H' F R1 rt rf => ?_⟩
  dsimp only at e2
  split at e2
  · rename_i ys
    split at e2
    · rename_i hl
      cases e2
      obtain ⟨a, xs, ea, _, hx, hr⟩ := R1.lst_get (ownL_some w1)
      rw [ea0] at ea; cases ea
      have hv := rf rfl
      simp only [Reps, Rep] at hv
      obtain ⟨_, _, rfl, ⟨b, zs, rfl, hn, hs, hz⟩, rfl⟩ := hv
      have P := R1.put (ownL_some w1) ea0 hx (hr.append hz)
      refine ⟨a0, b, xs, zs, rfl, rfl, hx, hs, ?_, q σ _ A (.of_fr (F.trans P.2)) P.1⟩
      rw [Reps.len _ _ hr, Reps.len _ _ hz, sizeLine_eq]
      omega
    · cases e2
  · cases e2
/-- x[i] = e -/
def cSetIx (k : Nat) (ov oi : Opn) : Env → Option Out := fun env => do
  let _ ← ownL env k
  let (ds, fl, env1) ← evOps [ov, oi] env
  let xs ← ownL env1 k
  match fl, ds with
  | false, [d, .int i] => do
    let j ← ixN xs.length i
    some (.nx (env1.set k (.ow (.lst (xs.set j d)))))
  | _, _ => none
theorem ds_setIx {v i : Expr} {ov oi : Opn} (k : Nat) (hk : Opd X (.Name x p) (.nm k)) (hv : Opd X v ov) (hi : Opd X i oi)
    (ha : ∀ v, assign (.Subscript (.Name x p) i cpos) X.env v = (do
      let o ← holding [v] (eval (.Name x p) X.env)
      let iv ← holding [v, o] (eval i X.env)
      standAt cpos
      holding [v, o, iv] (setItem o iv v)
      release [v, o, iv] []) := by intro _; rfl)
    (hs : swapsWithSole [.Subscript (.Name x p) i cpos] v pos.line X.env = pure false := by rfl) (hw : swappedStores [.Subscript (.Name x p) i cpos] v X.env = pure none := by rfl)
    (h1 : (assignEach [.Subscript (.Name x p) i cpos] X.env).map (·.2) = [assign (.Subscript (.Name x p) i cpos) X.env] := by rfl) : DS X lk (.Assign [.Subscript (.Name x p) i cpos] v pos) (cSetIx k ov oi) :=
  ps_imp (ps_asg hv (pg_sub hk hi set_list ha) hs hw h1) fun Dn σ H h => by
  obtain ⟨O, A, env, out, R, e, q⟩ := h
  simp only [cSetIx, Option.bind_eq_bind, Option.bind_eq_some_iff] at e
  obtain ⟨ds0, w0, ⟨ds, fl, env1⟩, e1, xs1, w1, e2⟩ := e
  obtain ⟨a0, xs0, ea0, ev0, hx0, _⟩ := R.lst_get (ownL_some w0)
  have base : tList [teOp X.K ov, teOp X.K oi] σ H fun vs H' => ∃ w z, vs = [w, z] ∧ ∃ xs m j, z = .int m ∧ H' a0 = some (.lst xs) ∧ ixN xs.length m = some j ∧ Dn.nx σ (upd H' a0 (.lst (xs.set j w))) := by
    refine ops_fold [ov, oi] O H env ds fl env1 _ R e1 fun vs H' F R1 rt rf => ?_
    dsimp only at e2
    split at e2
    · rename_i d m
      simp only [Option.bind_eq_some_iff] at e2
      obtain ⟨j, ej, e2⟩ := e2
      cases e2
      obtain ⟨a, xs, ea, _, hx, hr⟩ := R1.lst_get (ownL_some w1)
      rw [ea0] at ea; cases ea
      have hv := rf rfl
      simp only [Reps, Rep] at hv
      obtain ⟨y, _, rfl, hy, _, _, rfl, rfl, rfl⟩ := hv
      have P := R1.put (ownL_some w1) ea0 hx (hr.set j hy)
      exact ⟨y, _, rfl, xs, m, j, rfl, hx, by rw [Reps.len _ _ hr]; exact ej, q σ _ A (.of_fr (F.trans P.2)) P.1⟩
    · cases e2
  refine tOp_mono (fun w H1 h1 => ⟨_, ev0, tOp_mono (fun z H2 h2 => ?_) h1⟩) base
  obtain ⟨w', z', e, xs, m, j, rfl, hx, ej, hq⟩ := h2
  cases e
  exact ⟨a0, xs, m, j, rfl, rfl, hx, ej, hq⟩
end

/-! ### defs -/
mutual
def flat : D → Bool
  | .non => true
  | .bl _ => true
  | .int _ => true
  | .str _ => true
  | .tup ds => flats ds
  | .lst _ => false
  | .dct _ _ => false
  | .scr _ => true
def flats : List D → Bool
  | [] => true
  | d :: ds => flat d && flats ds
end
def flatR (r : R) : Bool := if r.fr then (match r.d with
  | .lst ds => flats ds
  | _ => false) else flat r.d
section
variable {K : PySem.W.Frag} {U U' : Addr → Prop} {H : Hp}
mutual
theorem flat_rep : ∀ (d : D) (v : V), flat d = true → Rep K U H d v → Rep K U' H d v
  | .non, _, _, h => h
  | .bl _, _, _, h => h
  | .int _, _, _, h => h
  | .str _, _, _, h => h
  | .tup ds, v, f, h => by
    simp only [Rep] at h ⊢
    simp only [flat] at f
    obtain ⟨a, xs, e, hs, hr⟩ := h
    exact ⟨a, xs, e, hs, flats_reps ds xs f hr⟩
  | .lst _, _, f, _ => by simp [flat] at f
  | .dct _ _, _, f, _ => by simp [flat] at f
  | .scr _, _, _, h => by simp only [Rep] at h ⊢; exact h
theorem flats_reps : ∀ (ds : List D) (xs : List V), flats ds = true → Reps K U H ds xs → Reps K U' H ds xs
  | [], _, _, h => h
  | d :: ds, xs, f, h => by
    simp only [Reps] at h ⊢
    simp only [flats, Bool.and_eq_true] at f
    obtain ⟨x, r, e, h1, h2⟩ := h
    exact ⟨x, r, e, flat_rep d x f.1 h1, flats_reps ds r f.2 h2⟩
end
theorem RepTs.apart : ∀ {ds : List D} {vs : List V} (ws : List V), (∀ v, v ∈ vs → v ∈ ws) → RepTs K U H ds vs → Reps K (fun b => U b ∧ ¬ V.ref b ∈ ws) H ds vs
  | [], _, _, _, h => by simp only [Reps]; exact h
  | d :: ds, _, ws, hm, h => by
    obtain ⟨x, r, rfl, h1, h2⟩ := h
    simp only [Reps]
    refine ⟨x, r, rfl, ?_, RepTs.apart ws (fun v hv => hm v (List.mem_cons_of_mem _ hv)) h2⟩
    have hx := hm x List.mem_cons_self
    have hU : ∀ b, (U b ∧ ¬ V.ref b ∈ ws) → U b ∨ H b = none := fun b z => .inl z.1
    cases d with
    | lst es =>
      obtain ⟨a, xs, rfl, hs, hr⟩ := h1
      simp only [Rep]
      exact ⟨a, xs, rfl, fun z => z.2 hx, hs, Reps.step (W := fun _ => False) (fun _ _ e _ => e) (fun _ z => z.elim) hU _ _ hr⟩
    | _ => exact Rep.step (W := fun _ => False) (fun _ _ e _ => e) (fun _ z => z.elim) hU _ _ h1
end
/-- a def by a function of data; m: its first argument's list is changed, told behind -/
abbrev FD := List D → Option (R × D)
def spD (K : PySem.W.Frag) (m : Bool) (F : FD) : Sp := fun vs H Q _ => ∃ (O : Addr → Prop) (ds : List D) (r : R) (d' : D), (∀ b, O b → H b ≠ none) ∧ F ds = some (r, d') ∧ vs.length = ds.length ∧ match m with
  | false => Reps K O H ds vs ∧ ∀ v H', Same H H' → RRes K O H H' r v → Q v H'
  | true => ∃ a vs' d0 ds', vs = .ref a :: vs' ∧ ds = d0 :: ds' ∧ ¬ O a ∧ Top K (fun b => O b ∨ b = a) H d0 a ∧ Reps K (fun b => O b ∨ b = a) H ds' vs' ∧
      ∀ v H', (∀ b o, H b = some o → b ≠ a → H' b = some o) → Top K (fun b => O b ∨ b = a) H' d' a → Rep K (fun b => O b ∨ b = a) H' r.d v → Q v H'
/-- the names at a def's entry -/
def env0 (N : Nat) (m : Bool) (ds : List D) : Env := match m, ds with
  | true, d :: ds => .ow d :: (ds.map Sl.sh ++ List.replicate (N - (ds.length + 1)) .no)
  | _, ds => ds.map Sl.sh ++ List.replicate (N - ds.length) .no
def ow0 : Env → Option D
  | .ow d :: _ => some d
  | _ => none
theorem ow0_some {e : Env} {d : D} (h : ow0 e = some d) : e[0]? = some (.ow d) := by
  unfold ow0 at h
  split at h
  · cases h; rfl
  · cases h
def outB : Bool → Out → Option (R × D)
  | false, .ret r _ => some (r, .non)
  | false, .nx _ => some (⟨.non, false⟩, .non)
  | true, .ret r e => (ow0 e).map fun d => (⟨r.d, false⟩, d)
  | true, .nx e => (ow0 e).map fun d => (⟨.non, false⟩, d)
  | _, _ => none
def runB (N n : Nat) (m : Bool) (body : Env → Option Out) : FD := fun ds => if ds.length = n then (body (env0 N m ds)).bind (outB m) else none
section
variable {X : Cx} {k : Nat} {f : Addr} {fd : FuncData} {ps : List Str} {x : Str} {p pos : Pos} {e : Expr} {es : List Expr} {os : List Opn} {F : FD}
/-- f(..), f changes nothing -/
def cCall (F : FD) (os : List Opn) : Env → Option (R × Env) := fun env => do
  let (ds, fl, env1) ← evOps os env
  let (r, _) ← F ds
  if fl && !flatR r then none else some (r, env1)
theorem call_fold {K : PySem.W.Frag} {E : XK} {σ : L2.St} {H : Hp} {Q : VK} (h : tE K (cCall F os) σ H Q) : tList (os.map (teOp K)) σ H fun vs H' => spD K false F vs H' Q E := by
  obtain ⟨O, A, env, rr, env', R, e, q⟩ := h
  simp only [cCall, Option.bind_eq_bind, Option.bind_eq_some_iff] at e
  obtain ⟨⟨ds, fl, env1⟩, e1, ⟨r', d'⟩, e2, e3⟩ := e
  refine ops_fold os O H env ds fl env1 _ R e1 fun vs H' F1 R1 rt rf => ?_
  have hUt : ∀ b, Un O A b → H' b ≠ none := fun b u => by
    rcases u with u | ⟨i, u⟩
    · exact (R1.ob b u).1
    · exact R1.owSome u
  dsimp only at e3
  cases fl with
  | false =>
    rw [Bool.false_and, if_neg Bool.false_ne_true] at e3
    cases e3
    exact ⟨Un O A, ds, rr, d', hUt, e2, rt.len, rf rfl, fun v H2 S hr => q v H2 (F1.trans (Fr.same S)) ((hr.res R1 S).back F1.more)⟩
  | true =>
    rw [Bool.true_and] at e3
    split at e3
    · cases e3
    · rename_i hf
      cases e3
      refine ⟨fun b => Un O A b ∧ ¬ V.ref b ∈ vs, ds, rr, d', fun b u => hUt b u.1, e2, rt.len, rt.apart vs fun _ h => h, fun v H2 S hr => q v H2 (F1.trans (Fr.same S)) ?_⟩
      have hf' : flatR rr = true := by
        cases w : flatR rr with
        | true => rfl
        | false => rw [w] at hf; exact absurd rfl hf
      have hr2 : RRes K (Un O A) H' H2 rr v := by
        unfold RRes at hr ⊢
        unfold flatR at hf'
        cases w : rr.fr with
        | false =>
          rw [w] at hr hf'
          exact flat_rep _ _ hf' hr
        | true =>
          rw [w] at hr hf'
          rw [if_pos rfl] at hf'
          obtain ⟨a, e, hn, t⟩ := hr
          refine ⟨a, e, hn, ?_⟩
          cases w2 : rr.d with
          | lst es =>
            rw [w2] at t hf'
            obtain ⟨xs, hx, hr⟩ := t
            exact ⟨xs, hx, flats_reps _ _ hf' hr⟩
          | _ => rw [w2] at t; exact t.elim
      exact (hr2.res R1 S).back F1.more
theorem de_call (Fn : FnOk X.prog X.w X.K X.mg X.base CX0 k f fd ps (spD X.K false F)) (hr : Room k X.A) (hm : X.mg x = some (.ref f)) (hk : PySem.W.keepIn X.K (.ref f) = true) (hb : Binds X.K fd ps []) (ha : Opnds X (e :: es) os) (hg : Gl X x := by rfl)
    (hdb : (x == ("__debug__" : Str)) = false := by decide) (he : starEach (e :: es) X.env = (false, eval e X.env) :: starEach es X.env := by rfl) (hpl : (backTo pos (starEach es X.env)).any (·.1) = false := by rfl) : DE X (.Call (.Name x p) (e :: es) [] pos) (cCall F os) :=
  pe_imp (pe_call Fn hr hg hm hk hb .nil pass0 ha hdb he hpl) fun σ H Q h => by
  have h1 := call_fold (E := E0) h
  simpa only [tCall, List.append_nil] using h1
/-- f(x, ..), f changes the list that x holds -/
def cCallM (F : FD) (i : Nat) (os : List Opn) : Env → Option (R × Env) := fun env => do
  let _ ← ownL env i
  let (ds, fl, env1) ← evOps os env
  let xs ← ownL env1 i
  let (r, d') ← F (.lst xs :: ds)
  match fl, d' with
  | false, .lst ys => some (⟨r.d, false⟩, env1.set i (.ow (.lst ys)))
  | _, _ => none
theorem callM_fold {K : PySem.W.Frag} {E : XK} {i : Nat} {σ : L2.St} {H : Hp} {Q : VK} (h : tE K (cCallM F i os) σ H Q) : ∃ v, σ[i]? = some (some v) ∧ tList (os.map (teOp K)) σ H fun vs H' => spD K true F (v :: vs) H' Q E := by
  obtain ⟨O, A, env, rr, env', R, e, q⟩ := h
  simp only [cCallM, Option.bind_eq_bind, Option.bind_eq_some_iff] at e
  obtain ⟨ds0, w0, ⟨ds, fl, env1⟩, e1, xs1, w1, ⟨r, d'⟩, e2, e3⟩ := e
  obtain ⟨a0, xs0, ea0, ev0, hx0, _⟩ := R.lst_get (ownL_some w0)
  refine ⟨_, ev0, ops_fold os O H env ds fl env1 _ R e1 fun vs H' F1 R1 rt rf => ?_⟩
  obtain ⟨a, ea, _, t⟩ := R1.ow_get (ownL_some w1)
  rw [ea0] at ea; cases ea
  dsimp only at e3
  split at e3
  · rename_i ys
    cases e3
    have hU1 : ∀ b, ((O b ∨ ∃ j, j ≠ i ∧ A j = some b) ∨ b = a0) → Un O A b := fun b u => by
      rcases u with (u | ⟨j, _, u⟩) | u
      · exact .inl u
      · exact .inr ⟨j, u⟩
      · exact .inr ⟨i, by rw [u]; exact ea0⟩
    have hU2 : ∀ b, Un O A b → ((O b ∨ ∃ j, j ≠ i ∧ A j = some b) ∨ b = a0) := fun b u => by
      rcases u with u | ⟨j, u⟩
      · exact .inl (.inl u)
      · by_cases hj : j = i
        · rw [hj, ea0] at u; cases u; exact .inr rfl
        · exact .inl (.inr ⟨j, hj, u⟩)
    refine ⟨fun b => O b ∨ ∃ j, j ≠ i ∧ A j = some b, .lst xs1 :: ds, r, .lst ys, fun b u => ?_, e2, by rw [List.length_cons, List.length_cons, rt.len], a0, vs, .lst xs1, ds, rfl, rfl, fun u => ?_, ?_, ?_, fun v H2 hF ht hv => ?_⟩
    · rcases u with u | ⟨j, _, u⟩
      · exact (R1.ob b u).1
      · exact R1.owSome u
    · rcases u with u | ⟨j, hj, u⟩
      · exact (R1.ob a0 u).2 i ea0
      · exact hj (R1.inj j i a0 u ea0)
    · exact t.step (W := fun _ => False) (fun _ _ e _ => e) (fun _ z => z.elim) (fun b u => .inl (hU1 b u)) fun z => z
    · exact Reps.step (W := fun _ => False) (fun _ _ e _ => e) (fun _ z => z.elim) (fun b u => .inl (hU1 b u)) _ _ (rf rfl)
    · have ht2 : Top K (Un O A) H2 (.lst ys) a0 := ht.step (W := fun _ => False) (fun _ _ e _ => e) (fun _ z => z.elim) (fun b u => .inl (hU2 b u)) fun z => z
      have hv2 : Rep K (Un O A) H2 r.d v := Rep.step (W := fun _ => False) (fun _ _ e _ => e) (fun _ z => z.elim) (fun b u => .inl (hU2 b u)) _ _ hv
      refine q v H2 (F1.trans ⟨fun b o eb n => hF b o eb fun z => n i (by rw [z]; exact ea0), fun b n => ?_⟩) ⟨R1.write ea0 hF ht2 (ownL_some w1), hv2⟩
      by_cases hb : b = a0
      · rw [hb]; exact ht2.ne_none
      · cases w : H' b with
        | none => exact absurd w n
        | some o => rw [hF b o w hb]; exact fun z => nomatch z
  · cases e3
theorem de_callM {i : Nat} {y : Str} {py : Pos} (Fn : FnOk X.prog X.w X.K X.mg X.base CX0 k f fd ps (spD X.K true F)) (hr : Room k X.A) (hm : X.mg x = some (.ref f)) (hk : PySem.W.keepIn X.K (.ref f) = true) (hb : Binds X.K fd ps []) (hi : Opd X (.Name y py) (.nm i)) (ha : Opnds X es os) (hg : Gl X x := by rfl)
    (hdb : (x == ("__debug__" : Str)) = false := by decide) (he : starEach (.Name y py :: es) X.env = (false, eval (.Name y py) X.env) :: starEach es X.env := by rfl) (hpl : (backTo pos (starEach es X.env)).any (·.1) = false := by rfl) : DE X (.Call (.Name x p) (.Name y py :: es) [] pos) (cCallM F i os) :=
  pe_imp (pe_call Fn hr hg hm hk hb .nil pass0 (pa_cons hi ha he) hdb he hpl) fun σ H Q h => by
  obtain ⟨v, ev, h1⟩ := callM_fold (E := E0) h
  have h2 : tCall (spD X.K true F) [] E0 (tCons (tVar i) (tList (os.map (teOp X.K)))) σ H Q := by
    refine ⟨v, ev, ?_⟩
    simpa only [List.append_nil] using h1
  exact h2
end
/-- THE RULE for a def -/
theorem fn_mk {P : Program} {w : World} {K : PySem.W.Frag} {mg : Str → Option Value} {base : Heap} {x qual : Str} {st : Stmt} {f : Addr} {fd : FuncData} {N ps : List Str} {k : Nat} {body : Env → Option Out} (m : Bool) (F : Fun K x qual st f fd) (S : FnScope N ps (defScope st))
    (hb : ∀ (cdv : Value) (A : Around) (outer : List PySem.Env) (s : Shared) (H : Hp) (E : XK), Room k (A.deeper (envOfC qual (defScope st) s.heap.objs.size f cdv)) →
      DSs (cxOf CX0 P w K mg base N qual (defScope st) f cdv A outer s H E).nox (if m then [0] else []) (defBody st) body) (hn : ps.length ≤ N.length := by decide) (hm : m = true → 0 < ps.length := by decide) :
    FnOk P w K mg base CX0 (k + 1) f fd ps (spD K m (runB N.length ps.length m body)) := by
  have hlen : ∀ {ds r}, runB N.length ps.length m body ds = some r → ds.length = ps.length := fun {ds r} h => by
    unfold runB at h
    split at h
    · assumption
    · cases h
  refine F.ok S (fun vs H Q E h => ?_) fun cdv A outer s H vs Q E hr h => ?_
  · obtain ⟨O, ds, r, d', _, e, hl, _⟩ := h
    rw [hl, hlen e]
  · obtain ⟨O, ds, r, d', hO, e, hl, h⟩ := h
    have hdl := hlen e
    refine ⟨_, hb cdv A outer s H E hr, ?_⟩
    unfold runB at e
    rw [if_pos hdl] at e
    have hst : ∀ i, (L2.start N vs)[i]? = if i < vs.length then (vs[i]?).map some else if i < N.length then some none else none := fun i => by
      unfold L2.start
      by_cases hi : i < vs.length
      · rw [if_pos hi, List.getElem?_append_left (by simpa using hi), List.getElem?_map]
      · rw [if_neg hi, List.getElem?_append_right (by simpa using hi), List.length_map, List.getElem?_replicate]
        by_cases h2 : i < N.length
        · rw [if_pos h2, if_pos (by omega)]
        · rw [if_neg h2, if_neg (by omega)]
    have hsl : (L2.start N vs).length = N.length := by
      unfold L2.start
      rw [List.length_append, List.length_map, List.length_replicate]
      omega
    cases m with
    | false =>
      obtain ⟨hr, q⟩ := h
      have he : env0 N.length false ds = ds.map Sl.sh ++ List.replicate (N.length - ds.length) .no := rfl
      have R0 : RelEnv K O (fun _ => none) (L2.start N vs) H (env0 N.length false ds) := by
        refine ⟨by rw [hsl, he, List.length_append, List.length_map, List.length_replicate]; omega, fun a ha => ⟨hO a ha, fun _ z => nomatch z⟩, fun _ _ _ z => (nomatch z), fun i => ?_⟩
        rw [he]
        by_cases hi : i < ds.length
        · rw [List.getElem?_append_left (by simpa using hi), List.getElem?_map, List.getElem?_eq_getElem hi]
          obtain ⟨v, ev, rv⟩ := hr.get (List.getElem?_eq_getElem hi)
          exact ⟨rfl, v, by rw [hst, if_pos (by omega), ev]; rfl, Rep.step (W := fun _ => False) (fun _ _ e _ => e) (fun _ z => z.elim) (fun b u => .inl (u.elim id fun ⟨_, z⟩ => nomatch z)) _ _ rv⟩
        · rw [List.getElem?_append_right (by simpa using hi), List.length_map, List.getElem?_replicate]
          split <;> rfl
      cases w : body (env0 N.length false ds) with
      | none => rw [w] at e; cases e
      | some out =>
        rw [w] at e
        refine ⟨O, fun _ => none, _, out, R0, w, ?_⟩
        cases out with
        | nx e1 =>
          cases e
          exact fun σ' H' A' s R' => q .non H' (fun b o eb => s.fr.keep b o eb fun _ z => nomatch z) (by show Rep K O H' .non .non; simp only [Rep])
        | bk e1 => cases e
        | ct e1 => cases e
        | ret r1 e1 =>
          cases e
          refine fun v σ' H' A' s hr => q v H' (fun b o eb => s.fr.keep b o eb fun _ z => nomatch z) ?_
          unfold ResS at hr
          unfold RRes
          cases w2 : r.fr with
          | false =>
            rw [w2] at hr
            exact Rep.step (W := fun _ => False) (fun _ _ e _ => e) (fun _ z => z.elim) (fun b u => .inl (.inl u)) _ _ hr.2
          | true =>
            rw [w2] at hr
            obtain ⟨a, ea, hn, _, t⟩ := hr
            exact ⟨a, ea, hn.elim id (fun ⟨_, _, z⟩ => nomatch z), t.step (W := fun _ => False) (fun _ _ e _ => e) (fun _ z => z.elim) (fun b u => .inl (.inl u)) fun z => z⟩
    | true =>
      obtain ⟨a, vs', d0, ds', rfl, rfl, hna, t0, hr, q⟩ := h
      have he : env0 N.length true (d0 :: ds') = .ow d0 :: (ds'.map Sl.sh ++ List.replicate (N.length - (ds'.length + 1)) .no) := rfl
      have hl' : vs'.length = ds'.length := Reps.len _ _ hr
      have hdl' : ds'.length + 1 = ps.length := by simpa using hdl
      let A0 : Ow := fun j => if j = 0 then some a else none
      have hA0 : ∀ j b, A0 j = some b → j = 0 ∧ b = a := fun j b z => by
        dsimp only [A0] at z
        split at z
        · exact ⟨by assumption, (Option.some.inj z).symm⟩
        · cases z
      have hU : ∀ b, Un O A0 b ↔ (O b ∨ b = a) := fun b => ⟨fun u => u.imp id fun ⟨j, z⟩ => (hA0 j b z).2, fun u => u.imp id fun z => ⟨0, by rw [z]; rfl⟩⟩
      have R0 : RelEnv K O A0 (L2.start N (.ref a :: vs')) H (env0 N.length true (d0 :: ds')) := by
        refine ⟨by rw [hsl, he, List.length_cons, List.length_append, List.length_map, List.length_replicate]; omega, fun b hb => ⟨hO b hb, fun j z => hna (by rw [← (hA0 j b z).2]; exact hb)⟩, fun i j b z1 z2 => by rw [(hA0 i b z1).1, (hA0 j b z2).1], fun i => ?_⟩
        rw [he]
        cases i with
        | zero => exact ⟨a, rfl, rfl, t0.step (W := fun _ => False) (fun _ _ e _ => e) (fun _ z => z.elim) (fun b u => .inl ((hU b).mp u)) fun z => z⟩
        | succ i =>
          rw [List.getElem?_cons_succ]
          by_cases hi : i < ds'.length
          · rw [List.getElem?_append_left (by simpa using hi), List.getElem?_map, List.getElem?_eq_getElem hi]
            obtain ⟨v, ev, rv⟩ := hr.get (List.getElem?_eq_getElem hi)
            exact ⟨rfl, v, by rw [hst, if_pos (by simp; omega), List.getElem?_cons_succ, ev]; rfl, Rep.step (W := fun _ => False) (fun _ _ e _ => e) (fun _ z => z.elim) (fun b u => .inl ((hU b).mp u)) _ _ rv⟩
          · rw [List.getElem?_append_right (by simpa using hi), List.length_map, List.getElem?_replicate]
            split <;> rfl
      have fin : ∀ (r : R) (v : V) (e1 : Env) (σ' : L2.St) (H' : Hp) (A' : Ow) (d1 : D), Step [0] A0 H A' H' → RelEnv K O A' σ' H' e1 → Rep K (Un O A') H' r.d v → e1[0]? = some (.ow d1) → (∀ v H', (∀ b o, H b = some o → b ≠ a → H' b = some o) → Top K (fun b => O b ∨ b = a) H' d1 a → Rep K (fun b => O b ∨ b = a) H' r.d v → Q v H') → Q v H' := by
        intro r v e1 σ' H' A' d1 s R' hv w2 q
        obtain ⟨b, eb, _, t⟩ := R'.ow_get w2
        have hb : A' 0 = some a := s.lk 0 (by decide)
        rw [hb] at eb
        cases eb
        have hU2 : ∀ b, (O b ∨ b = a) → Un O A' b ∨ H' b = none := fun b u => .inl (u.imp id fun z => ⟨0, by rw [z]; exact hb⟩)
        refine q v H' (fun b o eb n => s.fr.keep b o eb fun j z => n (hA0 j b z).2) (t.step (W := fun _ => False) (fun _ _ e _ => e) (fun _ z => z.elim) hU2 fun z => z) (Rep.step (W := fun _ => False) (fun _ _ e _ => e) (fun _ z => z.elim) hU2 _ _ hv)
      cases w : body (env0 N.length true (d0 :: ds')) with
      | none => rw [w] at e; cases e
      | some out =>
        rw [w] at e
        refine ⟨O, A0, _, out, R0, w, ?_⟩
        cases out with
        | nx e1 =>
          simp only [Option.bind_some, outB, Option.map_eq_some_iff] at e
          obtain ⟨d1, w2, e⟩ := e
          cases e
          exact fun σ' H' A' s R' => fin ⟨.non, false⟩ .non e1 σ' H' A' _ s R' (by simp only [Rep]) (ow0_some w2) q
        | bk e1 => cases e
        | ct e1 => cases e
        | ret r1 e1 =>
            simp only [Option.bind_some, outB, Option.map_eq_some_iff] at e
            obtain ⟨d1, w2, e⟩ := e
            cases e
            refine fun v σ' H' A' s hr => ?_
            have hb : RelEnv K O A' σ' H' e1 ∧ Rep K (Un O A') H' r1.d v := by
              unfold ResS at hr
              cases w3 : r1.fr with
              | false => rw [w3] at hr; exact hr
              | true =>
                rw [w3] at hr
                obtain ⟨b, rfl, hn, R1, t⟩ := hr
                have hOb : ¬ O b := fun z => by
                  rcases hn with n | ⟨j, hj, n⟩
                  · exact hO b z n
                  · exact hj (by rw [(hA0 j b n).1]; decide)
                refine ⟨R1.weaken fun _ z => .inl z, Top.rep (t.step (W := fun _ => False) (fun _ _ e _ => e) (fun _ z => z.elim) (fun b u => .inl (Un.mono (fun _ z => .inl z) u)) fun z => z) fun u => ?_⟩
                rcases u with u | ⟨j, u⟩
                · exact hOb u
                · exact (R1.ob b (.inr rfl)).2 j u
            exact fin ⟨r1.d, false⟩ v e1 σ' H' A' _ s hb.1 hb.2 (ow0_some w2) q
end DL

namespace DL
open PySem PySem.Spec PyProof.Rows L2

/-! ### data as the library tells them -/
mutual
def toP : D → PyData
  | .non => .none
  | .bl b => .bool b
  | .int i => .int i
  | .str x => .str x
  | .tup ds => .tuple (toPs ds)
  | .lst ds => .list (toPs ds)
  | .dct _ _ => .none
  | .scr ns => .list (ns.map .int)
def toPs : List D → List PyData
  | [] => []
  | d :: ds => toP d :: toPs ds
end
theorem toPs_map : ∀ ds : List D, toPs ds = ds.map toP
  | [] => by simp [toPs]
  | d :: ds => by simp [toPs, toPs_map ds]
/-- no dict in it, not too deep -/
def okd : Nat → D → Bool
  | _, .non => true
  | _, .bl _ => true
  | _, .int _ => true
  | _, .str _ => true
  | n + 1, .tup ds => ds.all (okd n)
  | n + 1, .lst ds => ds.all (okd n)
  | _, _ => false
theorem okd_plain : ∀ (n : Nat) (d : D), okd n d = true → (toP d).plain = true ∧ (toP d).depth ≤ n
  | n, .non, _ => by simp [toP, PyData.plain, PyData.depth]
  | n, .bl _, _ => by simp [toP, PyData.plain, PyData.depth]
  | n, .int _, _ => by simp [toP, PyData.plain, PyData.depth]
  | n, .str _, _ => by simp [toP, PyData.plain, PyData.depth]
  | n + 1, .tup ds, h => by
    simp only [okd] at h
    have key : ∀ es : List D, es.all (okd n) = true → PyData.plainAll (toPs es) = true ∧ PyData.depthAll (toPs es) ≤ n := fun es => by
      induction es with
      | nil => intro _; simp [toPs, PyData.plainAll, PyData.depthAll]
      | cons e es ih =>
        intro h
        rw [List.all_cons, Bool.and_eq_true] at h
        obtain ⟨h1, h2⟩ := okd_plain n e h.1
        obtain ⟨h3, h4⟩ := ih h.2
        simp only [toPs, PyData.plainAll, PyData.depthAll, h1, h3]
        exact ⟨rfl, by omega⟩
    obtain ⟨h1, h2⟩ := key ds h
    simp only [toP, PyData.plain, PyData.depth]
    exact ⟨h1, by omega⟩
  | n + 1, .lst ds, h => by
    simp only [okd] at h
    have key : ∀ es : List D, es.all (okd n) = true → PyData.plainAll (toPs es) = true ∧ PyData.depthAll (toPs es) ≤ n := fun es => by
      induction es with
      | nil => intro _; simp [toPs, PyData.plainAll, PyData.depthAll]
      | cons e es ih =>
        intro h
        rw [List.all_cons, Bool.and_eq_true] at h
        obtain ⟨h1, h2⟩ := okd_plain n e h.1
        obtain ⟨h3, h4⟩ := ih h.2
        simp only [toPs, PyData.plainAll, PyData.depthAll, h1, h3]
        exact ⟨rfl, by omega⟩
    obtain ⟨h1, h2⟩ := key ds h
    simp only [toP, PyData.plain, PyData.depth]
    exact ⟨h1, by omega⟩
  | 0, .tup _, h => by simp [okd] at h
  | 0, .lst _, h => by simp [okd] at h
  | n, .dct _ _, h => by cases n <;> simp [okd] at h
  | n, .scr _, h => by cases n <;> simp [okd] at h
section
variable {K : PySem.W.Frag} {U : Addr → Prop} {H : Hp}
mutual
theorem Rep.dp : ∀ (d : D) (v : V), Rep K U H d v → Dp K H v (toP d)
  | .non, v, h => by simp only [Rep] at h; subst h; exact .non
  | .bl b, v, h => by simp only [Rep] at h; subst h; exact .bl b
  | .int i, v, h => by simp only [Rep] at h; subst h; exact .int i
  | .str x, v, h => by simp only [Rep] at h; subst h; exact .str x
  | .tup ds, v, h => by
    simp only [Rep] at h
    obtain ⟨a, xs, rfl, hs, hr⟩ := h
    exact .tup hs (Reps.dps ds xs hr)
  | .lst ds, v, h => by
    simp only [Rep] at h
    obtain ⟨a, xs, rfl, _, hs, hr⟩ := h
    exact .lst (SqL.of hs) (Reps.dps ds xs hr)
  | .dct _ _, v, h => by simp only [Rep] at h
  | .scr ns, v, h => by
    simp only [Rep] at h
    obtain ⟨a, rfl, hs⟩ := h
    have key : ∀ ks : List Int, DpAll K H (ks.map V.int) (ks.map PyData.int) := fun ks => by
      induction ks with
      | nil => exact .nil
      | cons k ks ih => exact .cons (.int k) ih
    exact .lst hs.seq (key ns)
theorem Reps.dps : ∀ (ds : List D) (vs : List V), Reps K U H ds vs → DpAll K H vs (toPs ds)
  | [], vs, h => by simp only [Reps] at h; subst h; exact .nil
  | d :: ds, vs, h => by
    simp only [Reps] at h
    obtain ⟨x, r, rfl, h1, h2⟩ := h
    exact .cons (Rep.dp d x h1) (Reps.dps ds r h2)
end
theorem RepT.dp {d : D} {v : V} (h : RepT K U H d v) : Dp K H v (toP d) := by
  cases d with
  | lst ds =>
    obtain ⟨a, xs, rfl, hs, hr⟩ := h
    exact .lst (SqL.of hs) (Reps.dps ds xs hr)
  | _ => exact Rep.dp (U := U) _ _ h
end
/-- the scalars -/
theorem RRes.bl {K : PySem.W.Frag} {U : Addr → Prop} {H : Hp} {b : Bool} : RRes K U H H ⟨.bl b, false⟩ (.bl b) := by show Rep K U H (.bl b) (.bl b); simp only [Rep]
theorem RRes.int {K : PySem.W.Frag} {U : Addr → Prop} {H : Hp} {i : Int} : RRes K U H H ⟨.int i, false⟩ (.int i) := by show Rep K U H (.int i) (.int i); simp only [Rep]
theorem RRes.str {K : PySem.W.Frag} {U : Addr → Prop} {H : Hp} {x : Str} : RRes K U H H ⟨.str x, false⟩ (.str x) := by show Rep K U H (.str x) (.str x); simp only [Rep]
abbrev RB (b : Bool) : R := ⟨.bl b, false⟩
abbrev RI (i : Int) : R := ⟨.int i, false⟩

/-! ### comparisons of data -/
section
variable {X : Cx}
def rD2 (K : PySem.W.Frag) (ok : PyData → PyData → Prop) (f : PyData → PyData → Bool) : R2 := fun x y H Q => ∃ d e, Dp K H x d ∧ Dp K H y e ∧ ok d e ∧ Q (.bl (f d e)) H
def okE (d e : PyData) : Prop := d.plain = true ∧ e.plain = true ∧ d.depth ≤ 20
def okL (d e : PyData) : Prop := PySem.W.alike d e = true ∧ d ≠ .none ∧ d.depth ≤ 20
theorem hu20 {A : Around} {d e : PyData} (hu : A.units + 64 < cLine) (h : d.depth ≤ 20) : A.units + min d.depth e.depth < cLine := by
  have : min d.depth e.depth ≤ d.depth := Nat.min_le_left _ _
  omega
theorem oD_eq (hu : X.A.units + 64 < cLine) : OpR X (compareOp .Eq) (rD2 X.K okE PyData.eqv) := fun pins s σ H x y v u Q I rx ry ⟨d, e, h1, h2, ok, q⟩ => by
  obtain ⟨as, a1⟩ := Dp.reads I d x v h1 rx
  obtain ⟨bs, a2⟩ := Dp.reads I e y u h2 ry
  exact PySem.SeqAt.eq_plain a1 a2 ok.1 ok.2.1 (hu20 hu ok.2.2) ⟨.bl _, H, I, rfl, q⟩
theorem oD_ne (hu : X.A.units + 64 < cLine) : OpR X (compareOp .NotEq) (rD2 X.K okE fun d e => !PyData.eqv d e) := fun pins s σ H x y v u Q I rx ry ⟨d, e, h1, h2, ok, q⟩ => by
  obtain ⟨as, a1⟩ := Dp.reads I d x v h1 rx
  obtain ⟨bs, a2⟩ := Dp.reads I e y u h2 ry
  exact PySem.SeqAt.ne_plain a1 a2 ok.1 ok.2.1 (hu20 hu ok.2.2) ⟨.bl _, H, I, rfl, q⟩
theorem oD_lt (hu : X.A.units + 64 < cLine) : OpR X (compareOp .Lt) (rD2 X.K okL fun d e => PySem.W.dataLt d e) := fun pins s σ H x y v u Q I rx ry ⟨d, e, h1, h2, ok, q⟩ => by
  obtain ⟨as, a1⟩ := Dp.reads I d x v h1 rx
  obtain ⟨bs, a2⟩ := Dp.reads I e y u h2 ry
  exact PySem.W.lt_data a1 a2 ok.1 ok.2.1 (hu20 hu ok.2.2) ⟨.bl _, H, I, rfl, q⟩
theorem oD_gt (hu : X.A.units + 64 < cLine) : OpR X (compareOp .Gt) (rD2 X.K okL fun d e => PySem.W.dataLt e d) := fun pins s σ H x y v u Q I rx ry ⟨d, e, h1, h2, ok, q⟩ => by
  obtain ⟨as, a1⟩ := Dp.reads I d x v h1 rx
  obtain ⟨bs, a2⟩ := Dp.reads I e y u h2 ry
  exact PySem.W.gt_data a1 a2 ok.1 ok.2.1 (hu20 hu ok.2.2) ⟨.bl _, H, I, rfl, q⟩
theorem oD_le (hu : X.A.units + 64 < cLine) : OpR X (compareOp .LtE) (rD2 X.K okL fun d e => !PySem.W.dataLt e d) := fun pins s σ H x y v u Q I rx ry ⟨d, e, h1, h2, ok, q⟩ => by
  obtain ⟨as, a1⟩ := Dp.reads I d x v h1 rx
  obtain ⟨bs, a2⟩ := Dp.reads I e y u h2 ry
  exact PySem.W.le_data a1 a2 ok.1 ok.2.1 (hu20 hu ok.2.2) ⟨.bl _, H, I, rfl, q⟩
theorem oD_ge (hu : X.A.units + 64 < cLine) : OpR X (compareOp .GtE) (rD2 X.K okL fun d e => !PySem.W.dataLt d e) := fun pins s σ H x y v u Q I rx ry ⟨d, e, h1, h2, ok, q⟩ => by
  obtain ⟨as, a1⟩ := Dp.reads I d x v h1 rx
  obtain ⟨bs, a2⟩ := Dp.reads I e y u h2 ry
  exact PySem.W.ge_data a1 a2 ok.1 ok.2.1 (hu20 hu ok.2.2) ⟨.bl _, H, I, rfl, q⟩
end
def g2 (ok : D → D → Bool) (f : PyData → PyData → Bool) : Bool → List D → Option R := fun _ ds => match ds with
  | [a, b] => if ok a b then some (RB (f (toP a) (toP b))) else none
  | _ => none
def okEb (a b : D) : Bool := okd 20 a && okd 20 b
def okLb (a b : D) : Bool := okd 20 a && PySem.W.alike (toP a) (toP b) && (match a with
  | .non => false
  | _ => true)
theorem okEb_ok {a b : D} (h : okEb a b = true) : okE (toP a) (toP b) := by
  unfold okEb at h
  rw [Bool.and_eq_true] at h
  exact ⟨(okd_plain _ _ h.1).1, (okd_plain _ _ h.2).1, (okd_plain _ _ h.1).2⟩
theorem okLb_ok {a b : D} (h : okLb a b = true) : okL (toP a) (toP b) := by
  unfold okLb at h
  rw [Bool.and_eq_true, Bool.and_eq_true] at h
  refine ⟨h.1.2, fun z => ?_, (okd_plain _ _ h.1.1).2⟩
  cases a with
  | dct _ _ => simp [okd] at h
  | non => exact absurd h.2 (by simp)
  | _ => simp [toP] at z
theorem vr_D2 {K : PySem.W.Frag} {okp : PyData → PyData → Prop} {ok : D → D → Bool} {f : PyData → PyData → Bool} (hk : ∀ {a b}, ok a b = true → okp (toP a) (toP b)) : VR K (r2 (rD2 K okp f)) (g2 ok f) := by
  intro U H ds vs fl rr Q rt rf e q
  unfold g2 at e
  split at e
  · rename_i a b
    split at e
    · rename_i h
      cases e
      obtain ⟨x, _, rfl, h1, y, _, rfl, h2, h3⟩ := rt
      simp only [RepTs] at h3
      subst h3
      exact ⟨toP a, toP b, h1.dp, h2.dp, hk h, q _ H (Same.refl H) .bl⟩
    · cases e
  · cases e
def gEq := g2 okEb PyData.eqv
def gNe := g2 okEb fun d e => !PyData.eqv d e
def gLt := g2 okLb fun d e => PySem.W.dataLt d e
def gGt := g2 okLb fun d e => PySem.W.dataLt e d
def gLe := g2 okLb fun d e => !PySem.W.dataLt e d
def gGe := g2 okLb fun d e => !PySem.W.dataLt d e
section
variable {X : Cx} {K : PySem.W.Frag}
theorem vr_eq : VR K (r2 (rD2 K okE PyData.eqv)) gEq := vr_D2 okEb_ok
theorem vr_ne : VR K (r2 (rD2 K okE fun d e => !PyData.eqv d e)) gNe := vr_D2 okEb_ok
theorem vr_lt : VR K (r2 (rD2 K okL fun d e => PySem.W.dataLt d e)) gLt := vr_D2 okLb_ok
theorem vr_gt : VR K (r2 (rD2 K okL fun d e => PySem.W.dataLt e d)) gGt := vr_D2 okLb_ok
theorem vr_le : VR K (r2 (rD2 K okL fun d e => !PySem.W.dataLt e d)) gLe := vr_D2 okLb_ok
theorem vr_ge : VR K (r2 (rD2 K okL fun d e => !PySem.W.dataLt d e)) gGe := vr_D2 okLb_ok

/-! ### x in c -/
/-- in a list or tuple of data, a text in a text -/
def rInD2 (K : PySem.W.Frag) (neg : Bool) : R2 := fun x y H Q => (∃ d es, Dp K H x d ∧ (Dp K H y (.list es) ∨ Dp K H y (.tuple es)) ∧ d.plain = true ∧ PyData.plainAll es = true ∧ d.depth ≤ 20 ∧ Q (.bl (xor neg (es.any fun z => PyData.eqv z d))) H) ∨
  ∃ i j, x = .str i ∧ y = .str j ∧ Q (.bl (xor neg (!(Builtin.Str.occurrences j i 0 j.length 1).isEmpty))) H
theorem hu21 {A : Around} {d : PyData} {es : List PyData} (hu : A.units + 64 < cLine) (h : d.depth ≤ 20) : A.units + 1 + min (PyData.depthAll es) d.depth < cLine := by
  have : min (PyData.depthAll es) d.depth ≤ d.depth := Nat.min_le_right _ _
  omega
theorem oD_in (hu : X.A.units + 64 < cLine) : OpR X (compareOp .In) (rInD2 X.K false) := fun pins s σ H x y v u Q I rx ry h => by
  rcases h with ⟨d, es, h1, h2, p1, p2, hd, q⟩ | ⟨i, j, e1, e2, q⟩
  · obtain ⟨as, a1⟩ := Dp.reads I d x v h1 rx
    rw [Bool.false_xor] at q
    rcases h2 with h2 | h2
    · obtain ⟨bs, a2⟩ := Dp.reads I _ y u h2 ry
      exact PySem.SeqAt.in_list_data a2 a1 p2 p1 (hu21 hu hd) ⟨.bl _, H, I, rfl, q⟩
    · obtain ⟨bs, a2⟩ := Dp.reads I _ y u h2 ry
      exact PySem.SeqAt.in_tuple_data a2 a1 p2 p1 (hu21 hu hd) ⟨.bl _, H, I, rfl, q⟩
  · exact op_in_str pins s σ H x y v u Q I rx ry ⟨i, j, e1, e2, by rw [Bool.false_xor] at q; exact q⟩
theorem oD_notIn (hu : X.A.units + 64 < cLine) : OpR X (compareOp .NotIn) (rInD2 X.K true) := fun pins s σ H x y v u Q I rx ry h => by
  rcases h with ⟨d, es, h1, h2, p1, p2, hd, q⟩ | ⟨i, j, e1, e2, q⟩
  · obtain ⟨as, a1⟩ := Dp.reads I d x v h1 rx
    rw [Bool.true_xor] at q
    rcases h2 with h2 | h2
    · obtain ⟨bs, a2⟩ := Dp.reads I _ y u h2 ry
      exact PySem.SeqAt.notIn_list_data a2 a1 p2 p1 (hu21 hu hd) ⟨.bl _, H, I, rfl, q⟩
    · obtain ⟨bs, a2⟩ := Dp.reads I _ y u h2 ry
      exact PySem.SeqAt.notIn_tuple_data a2 a1 p2 p1 (hu21 hu hd) ⟨.bl _, H, I, rfl, q⟩
  · exact op_notin_str pins s σ H x y v u Q I rx ry ⟨i, j, e1, e2, by rw [Bool.true_xor] at q; exact q⟩
/-- the items of a list or a tuple -/
def itsOf : D → Option (List D)
  | .lst ds => some ds
  | .tup ds => some ds
  | _ => none
/-- a text in a text, by its places -/
def occB (j i : Str) : Bool := (List.range (j.length + 1)).any fun k => decide (k + i.length ≤ j.length) && decide ((j.cps.toList.drop k).take i.length = i.cps.toList)
theorem subAt_l (s sub : Str) (k : Nat) (h : k + sub.length ≤ s.length) : Builtin.Str.subAt s sub k = decide ((s.cps.toList.drop k).take sub.length = sub.cps.toList) := by
  unfold Builtin.Str.subAt
  have e : (s.cps.extract k (k + sub.length)).toList = (s.cps.toList.drop k).take sub.length := by
    rw [Array.toList_extract, List.extract_eq_take_drop, Nat.add_sub_cancel_left]
  rw [← e]
  by_cases hq : s.cps.extract k (k + sub.length) = sub.cps
  · rw [decide_eq_true (by rw [hq]), hq]
    exact beq_self_eq_true _
  · rw [decide_eq_false (fun z => hq (Array.toList_inj.mp z))]
    exact beq_eq_false_iff_ne.mpr hq
theorem occ_any (s sub : Str) : ∀ (l : List Nat), ((forIn l ((#[] : Array Nat), 0) (StrLaws.occBody s sub s.length 1)).run.fst.toList.isEmpty) = !(l.any fun k => decide (k + sub.length ≤ s.length) && Builtin.Str.subAt s sub k)
  | [] => rfl
  | k :: l => by
    rw [List.forIn_cons, List.any_cons]
    by_cases h : k + sub.length ≤ s.length ∧ Builtin.Str.subAt s sub k = true
    · have hb : StrLaws.occBody s sub s.length 1 k ((#[] : Array Nat), 0) = pure (ForInStep.yield ((#[] : Array Nat).push k, k + sub.length)) := by
        unfold StrLaws.occBody
        rw [if_pos ⟨⟨⟨by simp, Nat.zero_le _⟩, h.1⟩, h.2⟩]
      rw [hb, decide_eq_true h.1, h.2]
      have hg := StrLaws.occ_grows s sub s.length 1 l ((#[] : Array Nat).push k, k + sub.length) (by simp)
      have he : ((forIn l ((#[] : Array Nat).push k, k + sub.length) (StrLaws.occBody s sub s.length 1)).run.fst.toList.isEmpty) = false := by
        cases w : (forIn l ((#[] : Array Nat).push k, k + sub.length) (StrLaws.occBody s sub s.length 1)).run.fst.toList with
        | nil => exact absurd (Array.toList_eq_nil_iff.mp w) hg
        | cons _ _ => rfl
      exact he
    · have hb : StrLaws.occBody s sub s.length 1 k ((#[] : Array Nat), 0) = pure (ForInStep.yield ((#[] : Array Nat), 0)) := by
        unfold StrLaws.occBody
        rw [if_neg fun c => h ⟨c.1.2, c.2⟩]
      have hf : (decide (k + sub.length ≤ s.length) && Builtin.Str.subAt s sub k) = false := by
        cases w : (decide (k + sub.length ≤ s.length) && Builtin.Str.subAt s sub k) with
        | false => rfl
        | true =>
          rw [Bool.and_eq_true, decide_eq_true_eq] at w
          exact absurd w h
      rw [hb, hf, Bool.false_or]
      exact occ_any s sub l
theorem occB_eq (j i : Str) : (!(Builtin.Str.occurrences j i 0 j.length 1).isEmpty) = occB j i := by
  rw [StrLaws.occ_eq, occ_any, Bool.not_not]
  unfold occB
  have e : List.range' 0 (j.length + 1 - 0) = List.range (j.length + 1) := by rw [Nat.sub_zero, List.range_eq_range']
  rw [e]
  congr 1
  funext k
  by_cases h : k + i.length ≤ j.length
  · rw [decide_eq_true h, subAt_l _ _ _ h]
  · rw [decide_eq_false h]; rfl
def gInB (neg : Bool) : Bool → List D → Option R := fun _ ds => match ds with
  | [.str i, .str j] => some (RB (xor neg (occB j i)))
  | [x, c] => do
    let es ← itsOf c
    if okd 20 x && es.all (okd 20) then some (RB (xor neg (es.any fun z => PyData.eqv (toP z) (toP x)))) else none
  | _ => none
def gIn := gInB false
def gNotIn := gInB true
theorem okds_plain : ∀ {es : List D}, es.all (okd 20) = true → PyData.plainAll (toPs es) = true
  | [], _ => by simp [toPs, PyData.plainAll]
  | e :: es, h => by
    rw [List.all_cons, Bool.and_eq_true] at h
    simp only [toPs, PyData.plainAll, (okd_plain _ _ h.1).1, okds_plain h.2]
    rfl
theorem vr_inB (neg : Bool) : VR K (r2 (rInD2 K neg)) (gInB neg) := by
  intro U H ds vs fl rr Q rt rf e q
  unfold gInB at e
  split at e
  · cases e
    obtain ⟨x, _, rfl, h1, y, _, rfl, h2, h3⟩ := rt
    simp only [RepTs] at h3
    simp only [RepT, Rep] at h1 h2
    subst h1 h2 h3
    exact .inr ⟨_, _, rfl, rfl, by rw [occB_eq]; exact q _ H (Same.refl H) .bl⟩
  · rename_i a b _
    simp only [Option.bind_eq_bind, Option.bind_eq_some_iff] at e
    obtain ⟨es, e1, e⟩ := e
    split at e
    · rename_i hk
      rw [Bool.and_eq_true] at hk
      cases e
      obtain ⟨x, _, rfl, h1, y, _, rfl, h2, h3⟩ := rt
      simp only [RepTs] at h3
      subst h3
      have hany : (toPs es).any (fun z => PyData.eqv z (toP a)) = es.any fun z => PyData.eqv (toP z) (toP a) := by
        rw [toPs_map, List.any_map]
        rfl
      refine .inl ⟨toP a, toPs es, h1.dp, ?_, (okd_plain _ _ hk.1).1, okds_plain hk.2, (okd_plain _ _ hk.1).2, by rw [hany]; exact q _ H (Same.refl H) .bl⟩
      have hd := h2.dp
      cases b <;> simp only [itsOf, Option.some.injEq, reduceCtorEq] at e1
      · subst e1; simp only [toP] at hd; exact .inr hd
      · subst e1; simp only [toP] at hd; exact .inl hd
    · cases e
  · cases e
theorem vr_in : VR K (r2 (rInD2 K false)) gIn := vr_inB false
theorem vr_notIn : VR K (r2 (rInD2 K true)) gNotIn := vr_inB true
end

/-! ### arithmetic -/
section
variable {X : Cx} {K : PySem.W.Frag}
def rAdd4 (K : PySem.W.Frag) : R2 := fun x y H Q => ((rI0 fun i j => .int (i + j)) x y H Q ∨ (∃ i j, x = .str i ∧ y = .str j ∧ i.length + j.length ≤ sizeLine ∧ Q (.str (i ++ j)) H)) ∨ (rCatA K x y H Q ∨ rCat x y H Q)
theorem oD_add : OpR X (binaryOp .Add) (rAdd4 X.K) := (op_add.or op_add_str).or (op_catA.or op_cat)
def gAdd : Bool → List D → Option R := fun fl ds => match ds with
  | [.int i, .int j] => some (RI (i + j))
  | [.str i, .str j] => if i.length + j.length ≤ 1000000 then some ⟨.str (i ++ j), false⟩ else none
  | [.tup xs, .tup ys] => if xs.length + ys.length ≤ 1000000 then some ⟨.tup (xs ++ ys), false⟩ else none
  | [.lst xs, .lst ys] => if xs.length + ys.length ≤ 1000000 then some ⟨.lst (xs ++ ys), true⟩ else none
  | _ => none
theorem ml {n : Nat} (h : n ≤ 1000000) : n ≤ sizeLine := by rw [sizeLine_eq]; omega
theorem vr_add : VR K (r2 (rAdd4 K)) gAdd := by
  intro U H ds vs fl rr Q rt rf e q
  unfold gAdd at e
  split at e
  · cases e
    obtain ⟨x, _, rfl, h1, y, _, rfl, h2, h3⟩ := rt
    simp only [RepTs] at h3
    simp only [RepT, Rep] at h1 h2
    subst h1 h2 h3
    exact .inl (.inl ⟨_, _, rfl, rfl, q _ H (Same.refl H) .int⟩)
  · split at e
    · rename_i hl
      cases e
      obtain ⟨x, _, rfl, h1, y, _, rfl, h2, h3⟩ := rt
      simp only [RepTs] at h3
      simp only [RepT, Rep] at h1 h2
      subst h1 h2 h3
      exact .inl (.inr ⟨_, _, rfl, rfl, ml hl, q _ H (Same.refl H) .str⟩)
    · cases e
  · rename_i xs ys
    split at e
    · rename_i hl
      cases e
      obtain ⟨x, _, rfl, h1, y, _, rfl, h2, h3⟩ := rt
      simp only [RepTs] at h3
      subst h3
      have h1' := h1
      have h2' := h2
      simp only [RepT, Rep] at h1 h2
      obtain ⟨a, us, rfl, s1, r1⟩ := h1
      obtain ⟨b, ws, rfl, s2, r2⟩ := h2
      have l1 := Reps.len _ _ r1
      have l2 := Reps.len _ _ r2
      refine .inr (.inl ⟨a, b, us, ws, rfl, rfl, s1, s2, by rw [l1, l2]; exact ml hl, fun z => ?_, fun z z2 => ?_, fun z z2 p hp => ?_⟩)
      · have : xs = [] := List.eq_nil_of_length_eq_zero (by rw [← l1, z]; rfl)
        subst this
        exact q _ H (Same.refl H) (RRes.old (show Rep K U H (.tup ys) (.ref b) from h2'))
      · have : ys = [] := List.eq_nil_of_length_eq_zero (by rw [← l2, z2]; rfl)
        subst this
        rw [List.append_nil] at q
        exact q _ H (Same.refl H) (RRes.old h1')
      · exact q _ _ (same_upd' hp) (RRes.newT (r1.append r2) hp)
    · cases e
  · rename_i xs ys
    split at e
    · rename_i hl
      cases e
      obtain ⟨x, _, rfl, h1, y, _, rfl, h2, h3⟩ := rt
      simp only [RepTs] at h3
      subst h3
      obtain ⟨a, us, rfl, s1, r1⟩ := h1
      obtain ⟨b, ws, rfl, s2, r2⟩ := h2
      refine .inr (.inr ⟨a, b, us, ws, rfl, rfl, s1, s2, by rw [Reps.len _ _ r1, Reps.len _ _ r2]; exact ml hl, fun p hp => ?_⟩)
      exact q _ _ (same_upd' hp) (RRes.newL (r1.append r2) hp)
    · cases e
  · cases e
/-- ints alone -/
def gI2 (ok : Int → Int → Bool) (f : Int → Int → Int) : Bool → List D → Option R := fun _ ds => match ds with
  | [.int i, .int j] => if ok i j then some (RI (f i j)) else none
  | _ => none
theorem vr_I2 {C : Int → Int → Prop} {ok : Int → Int → Bool} {f : Int → Int → Int} (h : ∀ i j, ok i j = true → C i j) : VR K (r2 (rI C fun i j => .int (f i j))) (gI2 ok f) := by
  intro U H ds vs fl rr Q rt rf e q
  unfold gI2 at e
  split at e
  · rename_i i j
    split at e
    · rename_i hk
      cases e
      obtain ⟨x, _, rfl, h1, y, _, rfl, h2, h3⟩ := rt
      simp only [RepTs] at h3
      simp only [RepT, Rep] at h1 h2
      subst h1 h2 h3
      exact ⟨i, j, rfl, rfl, h i j hk, q _ H (Same.refl H) .int⟩
    · cases e
  · cases e
def gSub := gI2 (fun _ _ => true) fun i j => i - j
def okMul (i j : Int) : Bool := (decide (-(2 ^ 64) < i) && decide (i < 2 ^ 64)) || (decide (-(2 ^ 64) < j) && decide (j < 2 ^ 64))
def gMulI := gI2 okMul fun i j => i * j
def okDiv (_ j : Int) : Bool := decide (0 < j) && decide (j < 1073741824)
def gDiv := gI2 okDiv fun i j => i / j
def gMod := gI2 (fun _ j => decide (0 < j)) fun i j => i % j
def okPow (i j : Int) : Bool := decide (0 ≤ j) && decide (j ≤ 1000) && decide (i.natAbs < 2 ^ 64)
def gPow := gI2 okPow fun i j => i ^ j.toNat
theorem oD_sub : OpR X (binaryOp .Sub) (rI (fun _ _ => True) fun i j => .int (i - j)) := fun pins s σ H x y v u Q I rx ry ⟨i, j, e1, e2, _, q⟩ => op_sub pins s σ H x y v u Q I rx ry ⟨i, j, e1, e2, q⟩
theorem vr_sub : VR K (r2 (rI (fun _ _ => True) fun i j => .int (i - j))) gSub := vr_I2 fun _ _ _ => trivial
theorem vr_mulI : VR K (r2 (rI CMul fun i j => .int (i * j))) gMulI := vr_I2 fun i j h => by
  unfold okMul at h
  rw [Bool.or_eq_true, Bool.and_eq_true, Bool.and_eq_true] at h
  simp only [decide_eq_true_eq] at h
  exact h
theorem vr_div : VR K (r2 (rI CDiv fun i j => .int (i / j))) gDiv := vr_I2 fun i j h => by
  unfold okDiv at h
  rw [Bool.and_eq_true] at h
  simp only [decide_eq_true_eq] at h
  exact h
theorem vr_mod : VR K (r2 (rI (fun _ j => 0 < j) fun i j => .int (i % j))) gMod := vr_I2 fun i j h => of_decide_eq_true h
theorem vr_pow : VR K (r2 (rI CPow fun i j => .int (i ^ j.toNat))) gPow := vr_I2 fun i j h => by
  unfold okPow at h
  rw [Bool.and_eq_true, Bool.and_eq_true] at h
  simp only [decide_eq_true_eq] at h
  exact ⟨h.1.1, by omega, h.2⟩
def rMul3 : R2 := fun x y H Q => (rI CMul fun i j => .int (i * j)) x y H Q ∨ rRep x y H Q
theorem oD_mul : OpR X (binaryOp .Mult) rMul3 := op_mul.or op_rep
def gMul : Bool → List D → Option R := fun fl ds => match ds with
  | [.int i, .int j] => if okMul i j then some (RI (i * j)) else none
  | [.lst xs, .int k] => if decide (-1000000 ≤ k) && decide (k ≤ 1000000) && decide (xs.length * k.toNat ≤ 1000000) then some ⟨.lst (List.replicate k.toNat xs).flatten, true⟩ else none
  | _ => none
theorem Reps.rep {U : Addr → Prop} {H : Hp} {ds : List D} {xs : List V} (h : Reps K U H ds xs) : ∀ n : Nat, Reps K U H (List.replicate n ds).flatten (List.replicate n xs).flatten
  | 0 => by simp only [List.replicate_zero, List.flatten_nil, Reps]
  | n + 1 => by
    simp only [List.replicate_succ, List.flatten_cons]
    exact h.append (h.rep n)
theorem vr_mul : VR K (r2 rMul3) gMul := by
  intro U H ds vs fl rr Q rt rf e q
  unfold gMul at e
  split at e
  · rename_i i j
    have h := vr_mulI U H _ vs fl rr Q rt rf e q
    obtain ⟨x, _, rfl, h1, y, _, rfl, h2, h3⟩ := rt
    simp only [RepTs] at h3
    subst h3
    exact .inl h
  · rename_i xs k
    split at e
    · rename_i hk
      rw [Bool.and_eq_true, Bool.and_eq_true] at hk
      simp only [decide_eq_true_eq] at hk
      cases e
      obtain ⟨x, _, rfl, h1, y, _, rfl, h2, h3⟩ := rt
      simp only [RepTs] at h3
      subst h3
      obtain ⟨a, us, rfl, s1, r1⟩ := h1
      simp only [RepT, Rep] at h2
      subst h2
      refine .inr ⟨a, k, us, rfl, rfl, s1, by omega, by omega, by rw [Reps.len _ _ r1]; exact ml hk.2, fun p hp => ?_⟩
      exact q _ _ (same_upd' hp) (RRes.newL (r1.rep _) hp)
    · cases e
  · cases e
/-- - x -/
def gNeg : Bool → List D → Option R := fun _ ds => match ds with
  | [.int i] => some (RI (-i))
  | _ => none
theorem vr_neg : VR K (r1 (rU fun i => .int (-i))) gNeg := by
  intro U H ds vs fl rr Q rt rf e q
  unfold gNeg at e
  split at e
  · cases e
    obtain ⟨x, _, rfl, h1, h3⟩ := rt
    simp only [RepTs] at h3
    simp only [RepT, Rep] at h1
    subst h1 h3
    exact ⟨_, rfl, q _ H (Same.refl H) .int⟩
  · cases e
/-! is None, is True -/
def rIs (neg : Bool) : R2 := fun x y H Q => (y = .non ∧ Q (.bl (xor neg (decide (x = .non)))) H) ∨ ∃ a b, x = .bl a ∧ y = .bl b ∧ Q (.bl (xor neg (decide (a = b)))) H
theorem oD_is : OpR X (compareOp .Is) (rIs false) := fun pins s σ H x y v u Q I rx ry h => by
  rcases h with ⟨e, q⟩ | ⟨a, b, e1, e2, q⟩
  · exact op_isN pins s σ H x y v u Q I rx ry ⟨e, by rw [Bool.false_xor] at q; exact q⟩
  · exact op_is_bl pins s σ H x y v u Q I rx ry ⟨a, b, e1, e2, by rw [Bool.false_xor] at q; exact q⟩
theorem oD_isNot : OpR X (compareOp .IsNot) (rIs true) := fun pins s σ H x y v u Q I rx ry h => by
  rcases h with ⟨e, q⟩ | ⟨a, b, e1, e2, q⟩
  · exact op_notN pins s σ H x y v u Q I rx ry ⟨e, by rw [Bool.true_xor] at q; exact q⟩
  · exact op_isnot_bl pins s σ H x y v u Q I rx ry ⟨a, b, e1, e2, by rw [Bool.true_xor] at q; exact q⟩
def isNon : D → Bool
  | .non => true
  | _ => false
def gIsB (neg : Bool) : Bool → List D → Option R := fun _ ds => match ds with
  | [d, .non] => some (RB (xor neg (isNon d)))
  | [.bl a, .bl b] => some (RB (xor neg (decide (a = b))))
  | _ => none
def gIs := gIsB false
def gIsNot := gIsB true
theorem RepT.non {U : Addr → Prop} {H : Hp} {d : D} {v : V} (h : RepT K U H d v) : decide (v = .non) = isNon d := by
  cases d with
  | non => simp only [RepT, Rep] at h; subst h; rfl
  | bl b => simp only [RepT, Rep] at h; subst h; rfl
  | int i => simp only [RepT, Rep] at h; subst h; rfl
  | str x => simp only [RepT, Rep] at h; subst h; rfl
  | tup ds => simp only [RepT, Rep] at h; obtain ⟨a, xs, rfl, _⟩ := h; rfl
  | lst ds => obtain ⟨a, xs, rfl, _⟩ := h; rfl
  | dct _ _ => simp only [RepT, Rep] at h
  | scr ns => simp only [RepT, Rep] at h; obtain ⟨a, rfl, _⟩ := h; rfl
theorem vr_isB (neg : Bool) : VR K (r2 (rIs neg)) (gIsB neg) := by
  intro U H ds vs fl rr Q rt rf e q
  unfold gIsB at e
  split at e
  · cases e
    obtain ⟨x, _, rfl, h1, y, _, rfl, h2, h3⟩ := rt
    simp only [RepTs] at h3
    have hn := h1.non
    simp only [RepT, Rep] at h2
    subst h2 h3
    exact .inl ⟨rfl, by rw [hn]; exact q _ H (Same.refl H) .bl⟩
  · cases e
    obtain ⟨x, _, rfl, h1, y, _, rfl, h2, h3⟩ := rt
    simp only [RepTs] at h3
    simp only [RepT, Rep] at h1 h2
    subst h1 h2 h3
    exact .inr ⟨_, _, rfl, rfl, q _ H (Same.refl H) .bl⟩
  · cases e
theorem vr_is : VR K (r2 (rIs false)) gIs := vr_isB false
theorem vr_isNot : VR K (r2 (rIs true)) gIsNot := vr_isB true
end
end DL

namespace DL
open PySem PySem.Spec PyProof.Rows L2

section
variable {X : Cx} {K : PySem.W.Frag}
/-! ### x[i], x[lo:hi] -/
def gIx : Bool → List D → Option R := fun _ ds => match ds with
  | [.lst xs, .int i] => (atI xs i).map fun d => ⟨d, false⟩
  | [.tup xs, .int i] => (atI xs i).map fun d => ⟨d, false⟩
  | [.str z, .int i] => if z.length ≤ 1000000 then (atI z.cps.toList i).map fun c => ⟨.str ⟨#[c]⟩, false⟩ else none
  | [.scr ns, .int i] => (atI ns i).map fun k => RI k
  | _ => none
theorem atI_reps {U : Addr → Prop} {H : Hp} {ds : List D} {xs : List V} {i : Int} {d : D} (h : Reps K U H ds xs) (e : atI ds i = some d) : ∃ v, atI xs i = some v ∧ Rep K U H d v := by
  unfold atI at e ⊢
  rw [Reps.len _ _ h]
  cases w : ixN ds.length i with
  | none => rw [w] at e; cases e
  | some j =>
    rw [w] at e
    obtain ⟨x, ex, rx⟩ := h.get e
    exact ⟨x, ex, rx⟩
theorem atI_map {α β : Type} (f : α → β) (xs : List α) (i : Int) : atI (xs.map f) i = (atI xs i).map f := by
  unfold atI
  rw [List.length_map]
  cases ixN xs.length i with
  | none => rfl
  | some j => simp [List.getElem?_map]
theorem vr_ix : VR K (r2 (rIx K)) gIx := by
  intro U H ds vs fl rr Q rt rf e q
  unfold gIx at e
  split at e
  · simp only [Option.map_eq_some_iff] at e
    obtain ⟨d, e1, rfl⟩ := e
    obtain ⟨x, _, rfl, h1, y, _, rfl, h2, h3⟩ := rt
    simp only [RepTs] at h3
    obtain ⟨a, xs, rfl, hs, hr⟩ := h1
    simp only [RepT, Rep] at h2
    subst h2 h3
    obtain ⟨v, ev, rv⟩ := atI_reps hr e1
    exact .inl ⟨a, xs, _, v, rfl, rfl, SqL.of hs, ev, q _ H (Same.refl H) (RRes.old rv)⟩
  · simp only [Option.map_eq_some_iff] at e
    obtain ⟨d, e1, rfl⟩ := e
    obtain ⟨x, _, rfl, h1, y, _, rfl, h2, h3⟩ := rt
    simp only [RepTs] at h3
    simp only [RepT, Rep] at h1 h2
    obtain ⟨a, xs, rfl, hs, hr⟩ := h1
    subst h2 h3
    obtain ⟨v, ev, rv⟩ := atI_reps hr e1
    exact .inr (.inl ⟨a, xs, _, v, rfl, rfl, hs, ev, q _ H (Same.refl H) (RRes.old rv)⟩)
  · split at e
    · rename_i hl
      simp only [Option.map_eq_some_iff] at e
      obtain ⟨c, e1, rfl⟩ := e
      obtain ⟨x, _, rfl, h1, y, _, rfl, h2, h3⟩ := rt
      simp only [RepTs] at h3
      simp only [RepT, Rep] at h1 h2
      subst h1 h2 h3
      exact .inr (.inr ⟨_, _, c, rfl, rfl, ml hl, e1, q _ H (Same.refl H) .str⟩)
    · cases e
  · simp only [Option.map_eq_some_iff] at e
    obtain ⟨k, e1, rfl⟩ := e
    obtain ⟨x, _, rfl, h1, y, _, rfl, h2, h3⟩ := rt
    simp only [RepTs] at h3
    simp only [RepT, Rep] at h1 h2
    obtain ⟨a, rfl, hs⟩ := h1
    subst h2 h3
    exact .inl ⟨a, _, _, .int k, rfl, rfl, hs.seq, by rw [atI_map, e1]; rfl, q _ H (Same.refl H) .int⟩
  · cases e
variable {a b : Expr} {pos : Pos} {oa ob : Opn}
theorem de_ix (ha : Opd X a oa) (hb : Opd X b ob) (hs : PlainIx b := by exact fun _ _ => rfl) : DE X (.Subscript a b pos) (cP gIx [oa, ob]) := pe_imp (pe_ix ix_seq ha hb hs) fun σ H Q h => vr_fold vr_ix h
/-- slices -/
def cut {α : Type} (xs : List α) (lo hi : Option Int) : List α := (xs.drop (HT.sIx xs.length 0 lo)).take (HT.sIx xs.length xs.length hi - HT.sIx xs.length 0 lo)
def rSl3 (K : PySem.W.Frag) : V → Option Int → Option Int → Hp → VK → Prop := fun x lo hi H Q => rSlL K x lo hi H Q ∨ (rSlA K x lo hi H Q ∨ rSlS x lo hi H Q)
theorem sl3 : SlR X (rSl3 X.K) := sl_list.or (sl_tupA.or sl_str)
def slD (d : D) (lo hi : Option Int) : Option R := match d with
  | .lst xs => some ⟨.lst (cut xs lo hi), true⟩
  | .tup xs => some ⟨.tup (cut xs lo hi), false⟩
  | .str z => if z.length ≤ 1000000 then some ⟨.str (cutS z lo hi), false⟩ else none
  | _ => none
theorem slD_ok {U : Addr → Prop} {H : Hp} {d : D} {v : V} {lo hi : Option Int} {rr : R} {Q : VK} (h : RepT K U H d v) (e : slD d lo hi = some rr) (q : ∀ v H', Same H H' → RRes K U H H' rr v → Q v H') : rSl3 K v lo hi H Q := by
  unfold slD at e
  split at e
  · cases e
    obtain ⟨a, xs, rfl, hs, hr⟩ := h
    refine .inl ⟨a, xs, rfl, SqL.of hs, fun p hp => q _ _ (same_upd' hp) ?_⟩
    refine RRes.newL ?_ hp
    unfold cut cutV
    rw [Reps.len _ _ hr]
    exact (hr.drop _).take _
  · rename_i es
    cases e
    have h' := h
    simp only [RepT, Rep] at h
    obtain ⟨a, xs, rfl, hs, hr⟩ := h
    refine .inr (.inl ⟨a, xs, rfl, hs, fun z => ?_, fun _ p hp => q _ _ (same_upd' hp) (RRes.newT ?_ hp)⟩)
    · rw [Reps.len _ _ hr] at z
      have : cut es lo hi = es := by
        unfold cut
        rw [z.1, z.2, List.drop_zero, Nat.sub_zero, List.take_length]
      rw [this] at q
      exact q _ H (Same.refl H) (RRes.old (show Rep K U H (.tup es) (.ref a) from h'))
    · unfold cut cutV
      rw [Reps.len _ _ hr]
      exact (hr.drop _).take _
  · split at e
    · rename_i hl
      cases e
      simp only [RepT, Rep] at h
      subst h
      exact .inr (.inr ⟨_, rfl, ml hl, q _ H (Same.refl H) .str⟩)
    · cases e
  · cases e
def gSl00 : Bool → List D → Option R := fun _ ds => match ds with
  | [d] => slD d none none
  | _ => none
def gSl10 : Bool → List D → Option R := fun _ ds => match ds with
  | [d, .int i] => slD d (some i) none
  | _ => none
def gSl01 : Bool → List D → Option R := fun _ ds => match ds with
  | [d, .int i] => slD d none (some i)
  | _ => none
theorem vr_sl00 : VR K (r1 fun x H Q => rSl3 K x none none H Q) gSl00 := by
  intro U H ds vs fl rr Q rt rf e q
  unfold gSl00 at e
  split at e
  · obtain ⟨x, _, rfl, h1, h3⟩ := rt
    simp only [RepTs] at h3
    subst h3
    exact slD_ok h1 e q
  · cases e
theorem vr_sl10 : VR K (r2 fun x y H Q => ∃ i, y = .int i ∧ rSl3 K x (some i) none H Q) gSl10 := by
  intro U H ds vs fl rr Q rt rf e q
  unfold gSl10 at e
  split at e
  · obtain ⟨x, _, rfl, h1, y, _, rfl, h2, h3⟩ := rt
    simp only [RepTs] at h3
    simp only [RepT, Rep] at h2
    subst h2 h3
    exact ⟨_, rfl, slD_ok h1 e q⟩
  · cases e
theorem vr_sl01 : VR K (r2 fun x y H Q => ∃ i, y = .int i ∧ rSl3 K x none (some i) H Q) gSl01 := by
  intro U H ds vs fl rr Q rt rf e q
  unfold gSl01 at e
  split at e
  · obtain ⟨x, _, rfl, h1, y, _, rfl, h2, h3⟩ := rt
    simp only [RepTs] at h3
    simp only [RepT, Rep] at h2
    subst h2 h3
    exact ⟨_, rfl, slD_ok h1 e q⟩
  · cases e
theorem de_sl00 {p2 : Pos} (ha : Opd X a oa) : DE X (.Subscript a (.Slice none none none p2) pos) (cP gSl00 [oa]) := pe_imp (pe_slice sl3 ha po_none po_none) fun σ H Q h => vr_fold vr_sl00 h
theorem de_sl10 {p2 : Pos} (ha : Opd X a oa) (hb : Opd X b ob) : DE X (.Subscript a (.Slice (some b) none none p2) pos) (cP gSl10 [oa, ob]) := pe_imp (pe_slice sl3 ha (po_some hb) po_none) fun σ H Q h => vr_fold vr_sl10 h
theorem de_sl01 {p2 : Pos} (ha : Opd X a oa) (hb : Opd X b ob) : DE X (.Subscript a (.Slice none (some b) none p2) pos) (cP gSl01 [oa, ob]) := pe_imp (pe_slice sl3 ha po_none (po_some hb)) fun σ H Q h => vr_fold vr_sl01 h
def cSl11 (o lo hi : Opn) : Env → Option (R × Env) := fun env => do
  let (ds, fl, env1) ← evOps [o, lo] env
  let (es, _, env2) ← evOps [hi] env1
  match fl, ds, es with
  | false, [d, .int i], [.int j] => do
    let r ← slD d (some i) (some j)
    some (r, env2)
  | _, _, _ => none
theorem de_sl11 {c : Expr} {oc : Opn} {p2 : Pos} (ha : Opd X a oa) (hb : Opd X b ob) (hc : Opd X c oc) : DE X (.Subscript a (.Slice (some b) (some c) none p2) pos) (cSl11 oa ob oc) := pe_imp (pe_slice sl3 ha (po_some hb) (po_some hc)) fun σ H Q h => by
  obtain ⟨O, A, env, rr, env', R, e, q⟩ := h
  simp only [cSl11, Option.bind_eq_bind, Option.bind_eq_some_iff] at e
  obtain ⟨⟨ds, fl, env1⟩, e1, ⟨es, fl2, env2⟩, e2, e3⟩ := e
  refine ops_fold [oa, ob] O H env ds fl env1 (fun vs H' => match vs with | [x, y] => tPart (fun _ H Q => Q y H) σ H' fun i H2 => tPart (teOp X.K oc) σ H2 fun j H3 => rSl3 X.K x i j H3 Q | _ => False) R e1 fun vs H1 F1 R1 rt rf => ?_
  dsimp only at e3
  split at e3
  · rename_i d i j
    simp only [Option.bind_eq_some_iff] at e3
    obtain ⟨r, e4, e5⟩ := e3
    cases e5
    have hv := rf rfl
    simp only [Reps] at hv
    obtain ⟨x, _, rfl, h1, y, _, rfl, h2, h3⟩ := hv
    simp only [Rep] at h2
    subst h2 h3
    refine ⟨i, rfl, ?_⟩
    refine ops_fold [oc] O H1 env1 _ fl2 _ (fun vs H' => match vs with | [z] => ∃ m, z = .int m ∧ rSl3 X.K x (some i) (some m) H' Q | _ => False) R1 e2 fun ws H2 F2 R2 rt2 rf2 => ?_
    obtain ⟨z, _, rfl, hz, hz2⟩ := rt2
    simp only [RepTs] at hz2
    simp only [RepT, Rep] at hz
    subst hz hz2
    have h1' : Rep X.K (Un O A) H2 d x := Rep.step (W := fun b => ∃ i, A i = some b) F2.hF R1.hW (fun _ u => .inl u) _ _ h1
    exact ⟨j, rfl, slD_ok h1'.t e4 fun v H3 S hr => q v H3 ((F1.trans F2).trans (Fr.same S)) ((hr.res R2 S).back fun b n => F2.more b (F1.more b n))⟩
  · cases e3
/-- x[::-1] -/
def gRev : Bool → List D → Option R := fun _ ds => match ds with
  | [.lst xs] => some ⟨.lst xs.reverse, true⟩
  | _ => none

/-! ### built-in functions -/
def gLen : Bool → List D → Option R := fun _ ds => match ds with
  | [.lst xs] => some (RI xs.length)
  | [.tup xs] => some (RI xs.length)
  | [.str z] => if z.length ≤ 1000000 then some (RI z.length) else none
  | [.scr ns] => some (RI ns.length)
  | _ => none
def rLen2 (K : PySem.W.Frag) : List V → Hp → VK → Prop := fun xs H Q => (∃ p ys, xs = [.ref p] ∧ (SqL K H p ys ∨ SqT K H p ys) ∧ Q (.int ys.length) H) ∨ ∃ z, xs = [.str z] ∧ z.length ≤ sizeLine ∧ Q (.int z.length) H
theorem cr_len : CallR X (.builtin "len") (rLen2 X.K) := call_len_seq.or call_len_str
theorem vr_len : VR K (rLen2 K) gLen := by
  intro U H ds vs fl rr Q rt rf e q
  unfold gLen at e
  split at e
  · cases e
    obtain ⟨x, _, rfl, h1, h3⟩ := rt
    simp only [RepTs] at h3
    obtain ⟨a, xs, rfl, hs, hr⟩ := h1
    subst h3
    exact .inl ⟨a, xs, rfl, .inl (SqL.of hs), by rw [Reps.len _ _ hr]; exact q _ H (Same.refl H) .int⟩
  · cases e
    obtain ⟨x, _, rfl, h1, h3⟩ := rt
    simp only [RepTs] at h3
    simp only [RepT, Rep] at h1
    obtain ⟨a, xs, rfl, hs, hr⟩ := h1
    subst h3
    exact .inl ⟨a, xs, rfl, .inr hs, by rw [Reps.len _ _ hr]; exact q _ H (Same.refl H) .int⟩
  · split at e
    · rename_i hl
      cases e
      obtain ⟨x, _, rfl, h1, h3⟩ := rt
      simp only [RepTs] at h3
      simp only [RepT, Rep] at h1
      subst h1 h3
      exact .inr ⟨_, rfl, ml hl, q _ H (Same.refl H) .int⟩
    · cases e
  · cases e
    obtain ⟨x, _, rfl, h1, h3⟩ := rt
    simp only [RepTs] at h3
    simp only [RepT, Rep] at h1
    obtain ⟨a, rfl, hs⟩ := h1
    subst h3
    exact .inl ⟨a, _, rfl, .inl hs.seq, by rw [List.length_map]; exact q _ H (Same.refl H) .int⟩
  · cases e
def gAbs : Bool → List D → Option R := fun _ ds => match ds with
  | [.int i] => some (RI (if i < 0 then -i else i))
  | _ => none
theorem vr_abs : VR K (fun xs H Q => ∃ i, xs = [.int i] ∧ Q (.int (if i < 0 then -i else i)) H) gAbs := by
  intro U H ds vs fl rr Q rt rf e q
  unfold gAbs at e
  split at e
  · cases e
    obtain ⟨x, _, rfl, h1, h3⟩ := rt
    simp only [RepTs] at h3
    simp only [RepT, Rep] at h1
    subst h1 h3
    exact ⟨_, rfl, q _ H (Same.refl H) .int⟩
  · cases e
def gInt : Bool → List D → Option R := fun _ ds => match ds with
  | [.int i] => some (RI i)
  | [.bl b] => some (RI (if b then 1 else 0))
  | _ => none
theorem vr_int : VR K (fun xs H Q => (∃ i, xs = [.int i] ∧ Q (.int i) H) ∨ ∃ k, xs = [.bl k] ∧ Q (.int (if k then 1 else 0)) H) gInt := by
  intro U H ds vs fl rr Q rt rf e q
  unfold gInt at e
  split at e
  · cases e
    obtain ⟨x, _, rfl, h1, h3⟩ := rt
    simp only [RepTs] at h3
    simp only [RepT, Rep] at h1
    subst h1 h3
    exact .inl ⟨_, rfl, q _ H (Same.refl H) .int⟩
  · cases e
    obtain ⟨x, _, rfl, h1, h3⟩ := rt
    simp only [RepTs] at h3
    simp only [RepT, Rep] at h1
    subst h1 h3
    exact .inr ⟨_, rfl, q _ H (Same.refl H) .int⟩
  · cases e
/-- the ints, the bools of a list of data -/
def dInts : List D → Option (List Int)
  | [] => some []
  | .int i :: ds => (dInts ds).map fun is => i :: is
  | _ => none
def dBools : List D → Option (List Bool)
  | [] => some []
  | .bl b :: ds => (dBools ds).map fun bs => b :: bs
  | _ => none
theorem ints_reps {U : Addr → Prop} {H : Hp} : ∀ {ds : List D} {xs : List V} {is : List Int}, dInts ds = some is → Reps K U H ds xs → xs = is.map V.int
  | [], _, _, e, h => by cases e; simp only [Reps] at h; subst h; rfl
  | .int i :: ds, _, _, e, h => by
    simp only [dInts, Option.map_eq_some_iff] at e
    obtain ⟨js, e1, rfl⟩ := e
    simp only [Reps, Rep] at h
    obtain ⟨x, r, rfl, rfl, h2⟩ := h
    rw [ints_reps e1 h2, List.map_cons]
  | .non :: _, _, _, e, _ => by simp [dInts] at e
  | .bl _ :: _, _, _, e, _ => by simp [dInts] at e
  | .str _ :: _, _, _, e, _ => by simp [dInts] at e
  | .tup _ :: _, _, _, e, _ => by simp [dInts] at e
  | .lst _ :: _, _, _, e, _ => by simp [dInts] at e
  | .dct _ _ :: _, _, _, e, _ => by simp [dInts] at e
  | .scr _ :: _, _, _, e, _ => by simp [dInts] at e
theorem bools_reps {U : Addr → Prop} {H : Hp} : ∀ {ds : List D} {xs : List V} {is : List Bool}, dBools ds = some is → Reps K U H ds xs → xs = is.map V.bl
  | [], _, _, e, h => by cases e; simp only [Reps] at h; subst h; rfl
  | .bl i :: ds, _, _, e, h => by
    simp only [dBools, Option.map_eq_some_iff] at e
    obtain ⟨js, e1, rfl⟩ := e
    simp only [Reps, Rep] at h
    obtain ⟨x, r, rfl, rfl, h2⟩ := h
    rw [bools_reps e1 h2, List.map_cons]
  | .non :: _, _, _, e, _ => by simp [dBools] at e
  | .int _ :: _, _, _, e, _ => by simp [dBools] at e
  | .str _ :: _, _, _, e, _ => by simp [dBools] at e
  | .tup _ :: _, _, _, e, _ => by simp [dBools] at e
  | .lst _ :: _, _, _, e, _ => by simp [dBools] at e
  | .dct _ _ :: _, _, _, e, _ => by simp [dBools] at e
  | .scr _ :: _, _, _, e, _ => by simp [dBools] at e
def gAll : Bool → List D → Option R := fun _ ds => match ds with
  | [.lst xs] => (dBools xs).map fun bs => RB (bs.all id)
  | _ => none
def gAny : Bool → List D → Option R := fun _ ds => match ds with
  | [.lst xs] => (dBools xs).map fun bs => RB (bs.any id)
  | _ => none
def gSum : Bool → List D → Option R := fun _ ds => match ds with
  | [.lst xs] => (dInts xs).map fun is => RI is.sum
  | _ => none
theorem vr_all : VR K (rAll K) gAll := by
  intro U H ds vs fl rr Q rt rf e q
  unfold gAll at e
  split at e
  · simp only [Option.map_eq_some_iff] at e
    obtain ⟨bs, e1, rfl⟩ := e
    obtain ⟨x, _, rfl, ⟨a, xs, rfl, hs, hr⟩, h3⟩ := rt
    simp only [RepTs] at h3
    subst h3
    exact ⟨a, bs, rfl, by rw [← bools_reps e1 hr]; exact SqL.of hs, q _ H (Same.refl H) .bl⟩
  · cases e
theorem vr_any : VR K (rAny K) gAny := by
  intro U H ds vs fl rr Q rt rf e q
  unfold gAny at e
  split at e
  · simp only [Option.map_eq_some_iff] at e
    obtain ⟨bs, e1, rfl⟩ := e
    obtain ⟨x, _, rfl, ⟨a, xs, rfl, hs, hr⟩, h3⟩ := rt
    simp only [RepTs] at h3
    subst h3
    exact ⟨a, bs, rfl, by rw [← bools_reps e1 hr]; exact SqL.of hs, q _ H (Same.refl H) .bl⟩
  · cases e
theorem vr_sum : VR K (rSum K) gSum := by
  intro U H ds vs fl rr Q rt rf e q
  unfold gSum at e
  split at e
  · simp only [Option.map_eq_some_iff] at e
    obtain ⟨is, e1, rfl⟩ := e
    obtain ⟨x, _, rfl, ⟨a, xs, rfl, hs, hr⟩, h3⟩ := rt
    simp only [RepTs] at h3
    subst h3
    exact ⟨a, is, rfl, by rw [← ints_reps e1 hr]; exact SqL.of hs, q _ H (Same.refl H) .int⟩
  · cases e
/-- tuple(x), list(x) -/
def gTupOf : Bool → List D → Option R := fun _ ds => match ds with
  | [.lst xs] => some ⟨.tup xs, false⟩
  | [.tup xs] => some ⟨.tup xs, false⟩
  | _ => none
def gLstOf : Bool → List D → Option R := fun _ ds => match ds with
  | [.lst xs] => some ⟨.lst xs, true⟩
  | [.tup xs] => some ⟨.lst xs, true⟩
  | [.scr ns] => some ⟨.lst (ns.map .int), true⟩
  | _ => none
theorem vr_tupOf : VR K (fun xs H Q => ∃ p ys, xs = [.ref p] ∧ ((SqL K H p ys ∧ ∀ l, H l = none → Q (.ref l) (upd H l (.tup ys))) ∨ (SqT K H p ys ∧ Q (.ref p) H))) gTupOf := by
  intro U H ds vs fl rr Q rt rf e q
  unfold gTupOf at e
  split at e
  · cases e
    obtain ⟨x, _, rfl, ⟨a, xs, rfl, hs, hr⟩, h3⟩ := rt
    simp only [RepTs] at h3
    subst h3
    exact ⟨a, xs, rfl, .inl ⟨SqL.of hs, fun p hp => q _ _ (same_upd' hp) (RRes.newT hr hp)⟩⟩
  · rename_i es
    cases e
    obtain ⟨x, _, rfl, h1, h3⟩ := rt
    simp only [RepTs] at h3
    have h1' := h1
    simp only [RepT, Rep] at h1
    obtain ⟨a, xs, rfl, hs, hr⟩ := h1
    subst h3
    exact ⟨a, xs, rfl, .inr ⟨hs, q _ H (Same.refl H) (RRes.old (show Rep K U H (.tup es) (.ref a) from h1'))⟩⟩
  · cases e
theorem intsR {U : Addr → Prop} {H : Hp} : ∀ ns : List Int, Reps K U H (ns.map D.int) (ns.map V.int)
  | [] => by simp [Reps]
  | n :: ns => by
    simp only [List.map_cons, Reps, Rep]
    exact ⟨_, _, rfl, rfl, intsR ns⟩
theorem vr_lstOf : VR K (fun xs H Q => ∃ p ys, xs = [.ref p] ∧ (SqL K H p ys ∨ SqT K H p ys) ∧ ∀ l, H l = none → Q (.ref l) (upd H l (.lst ys))) gLstOf := by
  intro U H ds vs fl rr Q rt rf e q
  unfold gLstOf at e
  split at e
  · cases e
    obtain ⟨x, _, rfl, ⟨a, xs, rfl, hs, hr⟩, h3⟩ := rt
    simp only [RepTs] at h3
    subst h3
    exact ⟨a, xs, rfl, .inl (SqL.of hs), fun p hp => q _ _ (same_upd' hp) (RRes.newL hr hp)⟩
  · cases e
    obtain ⟨x, _, rfl, h1, h3⟩ := rt
    simp only [RepTs] at h3
    simp only [RepT, Rep] at h1
    obtain ⟨a, xs, rfl, hs, hr⟩ := h1
    subst h3
    exact ⟨a, xs, rfl, .inr hs, fun p hp => q _ _ (same_upd' hp) (RRes.newL hr hp)⟩
  · cases e
    obtain ⟨x, _, rfl, h1, h3⟩ := rt
    simp only [RepTs] at h3
    simp only [RepT, Rep] at h1
    obtain ⟨a, rfl, hs⟩ := h1
    subst h3
    exact ⟨a, _, rfl, .inl hs.seq, fun p hp => q _ _ (same_upd' hp) (RRes.newL (intsR _) hp)⟩
  · cases e
end
/-! ### isinstance -/
/-- whether data are of a built-in type -/
def tyIs (T : String) (d : D) : Option Bool := match T with
  | "tuple" => some (match d with | .tup _ => true | _ => false)
  | "list" => some (match d with | .lst _ => true | .scr _ => true | _ => false)
  | "str" => some (match d with | .str _ => true | _ => false)
  | "int" => some (match d with | .int _ => true | .bl _ => true | _ => false)
  | "bool" => some (match d with | .bl _ => true | _ => false)
  | _ => none
def tyN : D → String
  | .non => "NoneType" | .bl _ => "bool" | .int _ => "int" | .str _ => "str" | .tup _ => "tuple" | .lst _ => "list" | .dct _ _ => "dict" | .scr _ => "list"
theorem kit_all : ∀ a ∈ ["NoneType", "bool", "int", "str", "tuple", "list"], ∀ b ∈ ["tuple", "list", "str", "int", "bool"], kitB a b = some (match b with
  | "tuple" => a == "tuple" | "list" => a == "list" | "str" => a == "str" | "int" => a == "int" || a == "bool" | "bool" => a == "bool" | _ => false) := by
  decide +kernel
theorem tyIs_kit {T : String} {d : D} {b : Bool} (h : tyIs T d = some b) (hd : ∀ ks vs, d ≠ .dct ks vs) : kitB (tyN d) T = some b := by
  unfold tyIs at h
  split at h
  · cases h; rw [kit_all (tyN d) (by cases d <;> simp [tyN] <;> exact absurd rfl (hd _ _)) "tuple" (by decide)]; cases d <;> first | rfl | exact absurd rfl (hd _ _)
  · cases h; rw [kit_all (tyN d) (by cases d <;> simp [tyN] <;> exact absurd rfl (hd _ _)) "list" (by decide)]; cases d <;> first | rfl | exact absurd rfl (hd _ _)
  · cases h; rw [kit_all (tyN d) (by cases d <;> simp [tyN] <;> exact absurd rfl (hd _ _)) "str" (by decide)]; cases d <;> first | rfl | exact absurd rfl (hd _ _)
  · cases h; rw [kit_all (tyN d) (by cases d <;> simp [tyN] <;> exact absurd rfl (hd _ _)) "int" (by decide)]; cases d <;> first | rfl | exact absurd rfl (hd _ _)
  · cases h; rw [kit_all (tyN d) (by cases d <;> simp [tyN] <;> exact absurd rfl (hd _ _)) "bool" (by decide)]; cases d <;> first | rfl | exact absurd rfl (hd _ _)
  · cases h
theorem tyx_sqT {K : PySem.W.Frag} {H : Hp} {a : Addr} {xs : List V} (h : SqT K H a xs) : TyX K H (.ref a) (.type "tuple") := by
  rcases h with (h | ⟨o, h⟩) | ⟨o, its, n, h, hc, _⟩
  · exact .base (.tup h)
  · exact .fTuple h
  · exact .kTuple h hc
/-- where nothing is tracked the list of the module is one -/
theorem tyx_sqL {K : PySem.W.Frag} {H : Hp} {a : Addr} {xs : List V} (h : SqL K H a xs) : TyX K H (.ref a) (.type "list") := by
  rcases h with (h | ⟨o, h⟩) | ⟨o, its, n, h, hc, _⟩
  · exact .base (.lst h)
  · exact .base (.frz h)
  · exact .kList h hc
theorem RepT.tyx {K : PySem.W.Frag} {U : Addr → Prop} {H : Hp} {d : D} {v : V} (h : RepT K U H d v) : TyX K H v (.type (tyN d)) := by
  cases d with
  | non => simp only [RepT, Rep] at h; subst h; exact .base .non
  | bl b => simp only [RepT, Rep] at h; subst h; exact .base (.bl b)
  | int i => simp only [RepT, Rep] at h; subst h; exact .base (.int i)
  | str x => simp only [RepT, Rep] at h; subst h; exact .base (.str x)
  | tup ds => simp only [RepT, Rep] at h; obtain ⟨a, xs, rfl, hs, _⟩ := h; exact tyx_sqT hs
  | lst ds => obtain ⟨a, xs, rfl, hs, _⟩ := h; exact .base (.lst hs)
  | dct _ _ => simp only [RepT, Rep] at h
  | scr ns => simp only [RepT, Rep] at h; obtain ⟨a, rfl, hs⟩ := h; exact tyx_sqL hs.seq
theorem RepT.nodct {K : PySem.W.Frag} {U : Addr → Prop} {H : Hp} {d : D} {v : V} (h : RepT K U H d v) : ∀ ks vs, d ≠ .dct ks vs := fun ks vs e => by
  subst e
  simp only [RepT, Rep] at h
section
variable {X : Cx} {a : Expr} {pos p p2 p3 : Pos} {oa : Opn} {x y : Str}
def cIsi (T : String) (o : Opn) : Env → Option (R × Env) := cP (fun _ ds => match ds with
  | [d] => (tyIs T d).map RB
  | _ => none) [o]
theorem de_isi {T : String} (ha : Opd X a oa) (hm : X.mg "isinstance" = none) (hm2 : X.mg y = none) (hv2 : bootBuiltins y = some (.type T)) (hg : Gl X "isinstance" := by rfl) (hg2 : Gl X y := by rfl) (hn2 : y ≠ "__name__" := by decide) (hd2 : (y == ("__debug__" : Str)) = false := by decide)
    (he : starEach [a, .Name y p2] X.env = (false, eval a X.env) :: starEach [.Name y p2] X.env := by rfl) (he2 : starEach [.Name y p2] X.env = (false, eval (.Name y p2) X.env) :: starEach [] X.env := by rfl) (hpl : (backTo pos (starEach [.Name y p2] X.env)).any (·.1) = false := by rfl)
    (hv : bootBuiltins "isinstance" = some (.builtin "isinstance") := by decide +kernel) : DE X (.Call (.Name "isinstance" p) [a, .Name y p2] [] pos) (cIsi T oa) :=
  pe_imp (pe_callB call_isi hg hm hv (pa_cons ha (pa_cons (pe_bltn hg2 hm2 hv2 (show RelV (.ty T) (.type T) from rfl) hn2 hd2) pa_nil he2) he) (by decide) (by decide) he hpl) fun σ H Q h => by
  have h1 := vr_fold (K := X.K) (r := fun vs H Q => match vs with | [v] => rIsi X.K [v, .ty T] H Q | _ => False) (fun U H ds vs fl rr Q rt rf e q => ?_) h
  · exact h1
  · split at e
    · rename_i d
      simp only [Option.map_eq_some_iff] at e
      obtain ⟨b, e1, rfl⟩ := e
      obtain ⟨v, _, rfl, r1, r3⟩ := rt
      simp only [RepTs] at r3
      subst r3
      exact ⟨v, .ty T, _, .type T, b, rfl, .ty T, r1.tyx, kit_ty (tyIs_kit e1 r1.nodct), q _ H (Same.refl H) .bl⟩
    · cases e
/-- isinstance(x, (T1, T2)) -/
def cIsi2 (T1 T2 : String) (o : Opn) : Env → Option (R × Env) := cP (fun _ ds => match ds with
  | [d] => do
    let b ← tyIs T1 d
    let c ← tyIs T2 d
    some (RB (b || c))
  | _ => none) [o]
theorem de_isi2 {T1 T2 : String} {y2 : Str} {p4 : Pos} {k : Nat} (ha : Opd X a oa) (hm : X.mg "isinstance" = none) (hm1 : X.mg y = none) (hv1 : bootBuiltins y = some (.type T1)) (hm2 : X.mg y2 = none) (hv2 : bootBuiltins y2 = some (.type T2)) (hg : Gl X "isinstance" := by rfl) (hg1 : Gl X y := by rfl) (hg2 : Gl X y2 := by rfl)
    (hn1 : y ≠ "__name__" := by decide) (hd1 : (y == ("__debug__" : Str)) = false := by decide) (hn2 : y2 ≠ "__name__" := by decide) (hd2 : (y2 == ("__debug__" : Str)) = false := by decide)
    (hs1 : starEach [.Name y p2, .Name y2 p4] X.env = (false, eval (.Name y p2) X.env) :: starEach [.Name y2 p4] X.env := by rfl) (hs2 : starEach [.Name y2 p4] X.env = (false, eval (.Name y2 p4) X.env) :: starEach [] X.env := by rfl)
    (he : starEach [a, .Tuple [.Name y p2, .Name y2 p4] k p3] X.env = (false, eval a X.env) :: starEach [.Tuple [.Name y p2, .Name y2 p4] k p3] X.env := by rfl) (he2 : starEach [.Tuple [.Name y p2, .Name y2 p4] k p3] X.env = (false, eval (.Tuple [.Name y p2, .Name y2 p4] k p3) X.env) :: starEach [] X.env := by rfl)
    (hpl : (backTo pos (starEach [.Tuple [.Name y p2, .Name y2 p4] k p3] X.env)).any (·.1) = false := by rfl)
    (hv : bootBuiltins "isinstance" = some (.builtin "isinstance") := by decide +kernel) : DE X (.Call (.Name "isinstance" p) [a, .Tuple [.Name y p2, .Name y2 p4] k p3] [] pos) (cIsi2 T1 T2 oa) :=
  pe_imp (pe_callB call_isiT hg hm hv (pa_cons ha (pa_cons (pe_tup (pa_cons (pe_bltn hg1 hm1 hv1 (show RelV (.ty T1) (.type T1) from rfl) hn1 hd1) (pa_cons (pe_bltn hg2 hm2 hv2 (show RelV (.ty T2) (.type T2) from rfl) hn2 hd2) pa_nil hs2) hs1)) pa_nil he2) he) (by decide) (by decide) he hpl) fun σ H Q h => by
  have h1 := vr_fold (K := X.K) (r := fun vs H Q => match vs with | [v] => (2 ≤ sizeLine ∧ ∀ p, H p = none → rIsiT X.K [v, .ref p] (upd H p (.tup [.ty T1, .ty T2])) Q) | _ => False) (fun U H ds vs fl rr Q rt rf e q => ?_) h
  · exact h1
  · split at e
    · rename_i d
      simp only [Option.bind_eq_bind, Option.bind_eq_some_iff] at e
      obtain ⟨b, e1, c, e2, e3⟩ := e
      cases e3
      obtain ⟨v, _, rfl, r1, r3⟩ := rt
      simp only [RepTs] at r3
      subst r3
      refine ⟨by rw [sizeLine_eq]; decide, fun p hp => ?_⟩
      have r2 : RepT X.K U (upd H p (.tup [.ty T1, .ty T2])) d v := r1.step (W := fun _ => False) (Same.hF (same_upd' hp)) (fun _ z => z.elim) (fun _ u => .inl u) fun _ _ z => z
      refine ⟨v, p, [.ty T1, .ty T2], _, [.type T1, .type T2], b || c, rfl, upd_same, .cons (.ty T1) (.cons (.ty T2) .nil), r2.tyx, ?_, q _ _ (same_upd' hp) (by show Rep X.K U (upd H p (.tup [.ty T1, .ty T2])) (.bl (b || c)) (.bl (b || c)); simp only [Rep])⟩
      exact kitAny_cons (kit_ty (tyIs_kit e1 r1.nodct)) (fun z => by subst z; exact kitAny_cons (kit_ty (tyIs_kit e2 r1.nodct)) (fun z => by subst z; rfl) fun z => by rw [z]; rfl) fun z => by rw [z]; rfl
    · cases e

/-! ### chains of two comparisons -/
def cChn (g g' : Bool → List D → Option R) (oa ob oc : Opn) : Env → Option (R × Env) := fun env => do
  let (ds, fl, env1) ← evOps [oa, ob] env
  let r ← g fl ds
  match r.d, ds with
  | .bl true, [_, d] => do
    let (es, fl2, env2) ← evOps [oc] env1
    match fl, es with
    | false, [e] => do
      let r2 ← g' fl2 [d, e]
      some (r2, env2)
    | _, _ => none
  | .bl false, _ => some (⟨.bl false, false⟩, env1)
  | _, _ => none
variable {b c : Expr} {ob oc : Opn} {op op' : CmpOp} {r r' : R2} {g g' : Bool → List D → Option R}
/-- what the rule of a comparison gives is a bool, the heap stays -/
theorem chn_fold {K : PySem.W.Frag} {σ : L2.St} {H : Hp} {Q : VK} (vr : VR K (r2 r) g) (vr' : VR K (r2 r') g') (h : tE K (cChn g g' oa ob oc) σ H Q) : tChain r r' (teOp K oa) (teOp K ob) (teOp K oc) σ H Q := by
  obtain ⟨O, A, env, rr, env', R0, e, q⟩ := h
  simp only [cChn, Option.bind_eq_bind, Option.bind_eq_some_iff] at e
  obtain ⟨⟨ds, fl, env1⟩, e1, rg, e2, e3⟩ := e
  refine ops_fold [oa, ob] O H env ds fl env1 (fun vs H' => match vs with | [x, y] => r x y H' fun z H3 => ∃ k, z = .bl k ∧ (if k = true then teOp K oc σ H3 fun w' H4 => r' y w' H4 Q else Q (.bl false) H3) | _ => False) R0 e1 fun vs H1 F1 R1 rt rf => ?_
  have h2 := vr (Un O A) H1 ds vs fl rg (fun z H3 => ∃ k, z = .bl k ∧ (if k = true then teOp K oc σ H3 fun w' H4 => r2 r' [vs.getD 1 .non, w'] H4 Q else Q (.bl false) H3)) rt rf e2 fun z H3 S hr => ?_
  · match vs, rt.len.trans (evOps_len e1) with
    | [x, y], _ => exact h2
  · dsimp only at e3
    split at e3
    · rename_i d0 d w
      simp only [Option.bind_eq_some_iff] at e3
      obtain ⟨⟨es, fl2, env2⟩, e4, e5⟩ := e3
      dsimp only at e5
      split at e5
      · rename_i e
        simp only [Option.bind_eq_some_iff] at e5
        obtain ⟨rr2, e6, e7⟩ := e5
        cases e7
        have hz := (hr.res R1 S).sh R1
        rw [w] at hz
        simp only [Rep] at hz
        have hb := rf rfl
        simp only [Reps] at hb
        obtain ⟨x, _, rfl, _, y, _, rfl, hy, hnil⟩ := hb
        subst hnil
        refine ⟨true, hz.2, ?_⟩
        rw [if_pos rfl]
        refine ops_fold [oc] O H3 env1 _ fl2 _ (fun ws H4 => match ws with | [w'] => r2 r' [y, w'] H4 Q | _ => False) hz.1 e4 fun ws H4 F4 R4 rt4 rf4 => ?_
        have hy4 : Rep K (Un O A) H4 d y := Rep.step (W := fun b => ∃ i, A i = some b) F4.hF hz.1.hW (fun _ u => .inl u) _ _ (hy.same S)
        obtain ⟨w', _, rfl, hw, hw2⟩ := rt4
        simp only [RepTs] at hw2
        subst hw2
        exact vr' (Un O A) H4 [d, _] [y, w'] fl2 _ Q ⟨y, [w'], rfl, hy4.t, w', [], rfl, hw, rfl⟩ (fun z => by
          have := rf4 z
          simp only [Reps] at this ⊢
          exact ⟨y, _, rfl, hy4, this⟩) e6 fun v H5 S5 hr5 => q v H5 (((F1.trans (Fr.same S)).trans F4).trans (Fr.same S5)) ((hr5.res R4 S5).back fun b n => F4.more b ((Fr.same (A := A) S).more b (F1.more b n)))
      · cases e5
    · rename_i w
      cases e3
      have hz := (hr.res R1 S).sh R1
      rw [w] at hz
      simp only [Rep] at hz
      refine ⟨false, hz.2, ?_⟩
      rw [if_neg Bool.false_ne_true]
      exact q _ H3 (F1.trans (Fr.same S)) (Res.of_rep hz.1 (by simp only [Rep]))
    · cases e3
theorem de_chn (ho : OpR X (compareOp op) r) (vr : VR X.K (r2 r) g) (ho' : OpR X (compareOp op') r') (vr' : VR X.K (r2 r') g') (ha : Opd X a oa) (hb : Opd X b ob) (hc : Opd X c oc)
    (hm : lastMarks [op, op'] [b, c] = false := by with_unfolding_all rfl) : DE X (.Compare a [op, op'] [b, c] pos) (cChn g g' oa ob oc) := pe_imp (pe_chain ho ho' ha hb hc hm) fun σ H Q h => chn_fold vr vr' h
theorem dt_chn (ho : OpR X (compareOp op) r) (vr : VR X.K (r2 r) g) (ho' : OpR X (compareOp op') r') (vr' : VR X.K (r2 r') g') (ha : Opd X a oa) (hb : Opd X b ob) (hc : Opd X c oc)
    (hm : lastMarks [op, op'] [b, c] = false := by with_unfolding_all rfl) : DT X (.Compare a [op, op'] [b, c] pos) (cBo (cChn g g' oa ob oc)) := pt_imp (pt_chain ho ho' ha hb hc hm) fun σ H Q h => chn_fold vr vr' (tT_of h)
end
end DL

namespace DL
open PySem PySem.Spec PyProof.Rows L2

/-! ### toP tells data apart -/
theorem toP_inj : ∀ (n : Nat) (a b : D), okd n a = true → okd n b = true → toP a = toP b → a = b := by
  intro n
  induction n with
  | zero =>
    intro a b ha hb e
    cases a <;> cases b <;> first | rfl | (simp [toP] at e; done) | (simp [okd] at ha; done) | (simp [okd] at hb; done) | (simp [toP] at e; subst e; rfl)
  | succ n ih =>
    have key : ∀ xs ys : List D, xs.all (okd n) = true → ys.all (okd n) = true → toPs xs = toPs ys → xs = ys := by
      intro xs
      induction xs with
      | nil => intro ys _ _ e; cases ys with
        | nil => rfl
        | cons => simp [toPs] at e
      | cons x xs ih2 =>
        intro ys hx hy e
        cases ys with
        | nil => simp [toPs] at e
        | cons y ys =>
          simp only [toPs, List.cons.injEq] at e
          rw [List.all_cons, Bool.and_eq_true] at hx hy
          rw [ih x y hx.1 hy.1 e.1, ih2 ys hx.2 hy.2 e.2]
    intro a b ha hb e
    cases a <;> cases b <;> first | rfl | (simp [toP] at e; done) | (simp [okd] at ha; done) | (simp [okd] at hb; done) | (simp [toP] at e; subst e; rfl) | (simp only [okd] at ha hb; simp only [toP, PyData.tuple.injEq, PyData.list.injEq] at e; rw [key _ _ ha hb e])
/-- all of one shape -/
def allAlike (ds : List D) : Bool := ds.all fun a => ds.all fun b => PySem.W.alike (toP a) (toP b)
theorem allAlike_ok {ds : List D} (h : allAlike ds = true) : PySem.W.AllAlike (toPs ds) := by
  intro d hd d' hd'
  rw [toPs_map] at hd hd'
  obtain ⟨a, ha, rfl⟩ := List.mem_map.mp hd
  obtain ⟨b, hb, rfl⟩ := List.mem_map.mp hd'
  exact List.all_eq_true.mp (List.all_eq_true.mp h a ha) b hb
def isTupC : D → Bool
  | .tup (_ :: _) => true
  | _ => false
def isPlainS : D → Bool
  | .bl _ => true
  | .int _ => true
  | .str _ => true
  | .lst _ => true
  | _ => false
def sortable (ds : List D) : Bool := ds.all isTupC || ds.all isPlainS
/-- Python's order, as sorted uses it -/
def leD (a b : D) : Bool := !PySem.W.dataLt (toP b) (toP a)
def gSorted : Bool → List D → Option R := fun _ ds => match ds with
  | [.lst xs] => if xs.all (okd 18) && allAlike xs && sortable xs && decide (xs.length ≤ 1000000) then some ⟨.lst (xs.mergeSort leD), true⟩ else none
  | _ => none
section
variable {X : Cx} {K : PySem.W.Frag}
theorem okd_up : ∀ (n m : Nat) (d : D), n ≤ m → okd n d = true → okd m d = true := by
  intro n
  induction n with
  | zero => intro m d _ h; cases d <;> simp [okd] at h ⊢
  | succ n ih =>
    intro m d hm h
    obtain ⟨m, rfl⟩ : ∃ k, m = k + 1 := ⟨m - 1, by omega⟩
    cases d <;> simp only [okd] at h ⊢
    · exact List.all_eq_true.mpr fun x hx => ih m x (by omega) (List.all_eq_true.mp h x hx)
    · exact List.all_eq_true.mpr fun x hx => ih m x (by omega) (List.all_eq_true.mp h x hx)
    · exact h
    · exact h
/-- values with what they stand for -/
theorem Reps.zipped {U : Addr → Prop} {H : Hp} : ∀ {ds : List D} {xs : List V}, Reps K U H ds xs → (∀ p, p ∈ xs.zip ds → Rep K U H p.2 p.1) ∧ (xs.zip ds).map Prod.fst = xs ∧ (xs.zip ds).map Prod.snd = ds
  | [], _, h => by simp only [Reps] at h; subst h; exact ⟨by simp, rfl, rfl⟩
  | d :: ds, _, h => by
    simp only [Reps] at h
    obtain ⟨x, r, rfl, h1, h2⟩ := h
    obtain ⟨a, b, c⟩ := Reps.zipped h2
    refine ⟨fun p hp => ?_, by simp [b], by simp [c]⟩
    rcases List.mem_cons.mp hp with rfl | hp
    · exact h1
    · exact a p hp
theorem Reps.of_pairs {U : Addr → Prop} {H : Hp} : ∀ {ps : List (V × D)}, (∀ p, p ∈ ps → Rep K U H p.2 p.1) → Reps K U H (ps.map Prod.snd) (ps.map Prod.fst)
  | [], _ => by simp only [List.map_nil, Reps]
  | p :: ps, h => by
    simp only [List.map_cons, Reps]
    exact ⟨_, _, rfl, h p List.mem_cons_self, Reps.of_pairs fun q hq => h q (List.mem_cons_of_mem _ hq)⟩
def rSrt (K : PySem.W.Frag) : List V → Hp → VK → Prop := fun vs H Q => ∃ (U : Addr → Prop) (a : Addr) (xs : List V) (ds : List D), vs = [.ref a] ∧ SqL K H a xs ∧ Reps K U H ds xs ∧ ds.all (okd 18) = true ∧ allAlike ds = true ∧ sortable ds = true ∧ ds.length ≤ 1000000 ∧
  ∀ p, H p = none → Q (.ref p) (upd H p (.lst (((xs.zip ds).mergeSort fun p q => leD p.2 q.2).map Prod.fst)))
theorem eachIs_of {Rl : Value → V × D → Prop} : ∀ {ps : List (V × D)} {us : List Value}, Vals (ps.map Prod.fst) us → (∀ p u, p ∈ ps → L2.RelV p.1 u → Rl u p) → PySem.W.EachIs Rl us ps
  | [], us, h, _ => by
    have h' : Vals [] us := h
    cases h'
    exact .nil
  | p :: ps, us, h, f => by
    have h' : Vals (p.1 :: ps.map Prod.fst) us := h
    cases h' with
    | cons r t => exact .cons (f p _ List.mem_cons_self r) (eachIs_of t fun q u hq => f q u (List.mem_cons_of_mem _ hq))
theorem vals_each : ∀ {ps : List (V × D)} {us : List Value}, PySem.W.EachIs (fun u (p : V × D) => L2.RelV p.1 u) us ps → Vals (ps.map Prod.fst) us
  | _, _, .nil => .nil
  | _, _, .cons r t => .cons r (vals_each t)
theorem cr_sortedD2 (hu : X.A.units + 64 < cLine) : CallR X (.builtin "sorted") (rSrt X.K) := fun pins s σ H vs us Q I r h => by
  obtain ⟨U, a, xs, ds, rfl, hs, hr, h1, h2, h3, h4, q⟩ := h
  obtain ⟨its, rv, hl, hz⟩ := I.list hs
  obtain ⟨zr, zf, zs⟩ := hr.zipped
  have hlen := Reps.len _ _ hr
  obtain ⟨u, rfl, ru⟩ := vals1 r
  obtain rfl : u = Value.ref a := ru
  have rv' : Vals ((xs.zip ds).map Prod.fst) its := by rw [zf]; exact rv
  have henc : (xs.zip ds).map (fun p => toP p.2) = toPs ds := by
    rw [toPs_map, ← zs, List.map_map, zs]
    rfl
  refine PySem.W.sorted_data (β := V × D) (enc := fun p => toP p.2) (R := fun u p => L2.RelV p.1 u) (bs := xs.zip ds) hl.isList (eachIs_of rv' fun p u _ r => r) (eachIs_of rv' fun p u hp r => ?_) ?_ ?_ ?_ (fun p hp => ?_) fun out ho eo => ?_
  · exact Dp.reads I _ _ _ (Rep.dp (U := U) _ _ (zr p hp)) r
  · rw [henc]; exact allAlike_ok h2
  · rw [henc]
    unfold sortable at h3
    rw [Bool.or_eq_true] at h3
    rcases h3 with h3 | h3
    · refine .inl fun d hd => ?_
      rw [toPs_map] at hd
      obtain ⟨b, hb, rfl⟩ := List.mem_map.mp hd
      have := List.all_eq_true.mp h3 b hb
      cases b <;> first | (simp [isTupC] at this; done) | skip
      rename_i es
      cases es with
      | nil => simp [isTupC] at this
      | cons e es => exact ⟨toP e, toPs es, by simp only [toP, toPs]⟩
    · refine .inr fun d hd => ?_
      rw [toPs_map] at hd
      obtain ⟨b, hb, rfl⟩ := List.mem_map.mp hd
      have := List.all_eq_true.mp h3 b hb
      cases b <;> first | (simp [isPlainS] at this; done) | exact ⟨by simp [toP], by simp [toP]⟩
  · rw [List.length_zip, hlen, Nat.min_self]
    exact ml h4
  · have hm : p.2 ∈ ds := by
      rw [← zs]
      exact List.mem_map.mpr ⟨p, hp, rfl⟩
    have := (okd_plain _ _ (List.all_eq_true.mp h1 p.2 hm)).2
    omega
  · obtain ⟨c, hc⟩ := sortedAll_at s.heap its out.toArray
    have eo' : PySem.W.EachIs (fun u (p : V × D) => L2.RelV p.1 u) out ((xs.zip ds).mergeSort fun p q => leD p.2 q.2) := eo
    have hp : s.heap.objs.size ≤ s.heap.objs.size + 1 := Nat.le_succ _
    refine ⟨.ref (s.heap.objs.size + 1), _, I.laid (t' := s.toks) (o := .lst (((xs.zip ds).mergeSort fun p q => leD p.2 q.2).map Prod.fst)) (fun _ _ => sortedAll_old) hp ⟨?_, out, c, vals_each eo', hc⟩, rfl, q _ (I.hok.fresh hp)⟩
    rw [List.length_map, List.length_mergeSort, List.length_zip, hlen, Nat.min_self]
    exact ml h4
theorem vr_sorted : VR K (rSrt K) gSorted := by
  intro U H ds vs fl rr Q rt rf e q
  unfold gSorted at e
  split at e
  · rename_i es
    split at e
    · rename_i hk
      rw [Bool.and_eq_true, Bool.and_eq_true, Bool.and_eq_true] at hk
      obtain ⟨⟨⟨k1, k2⟩, k3⟩, k4⟩ := hk
      cases e
      obtain ⟨x, _, rfl, ⟨a, xs, rfl, hs, hr⟩, h3⟩ := rt
      simp only [RepTs] at h3
      subst h3
      refine ⟨U, a, xs, es, rfl, SqL.of hs, hr, k1, k2, k3, of_decide_eq_true k4, fun p hp => q _ _ (same_upd' hp) ?_⟩
      obtain ⟨zr, zf, zs⟩ := hr.zipped
      have hmap : ((xs.zip es).mergeSort fun p q => leD p.2 q.2).map Prod.snd = es.mergeSort leD := by
        rw [PySem.W.sort_maps (s := leD) Prod.snd fun _ _ _ _ => rfl, zs]
      have hall : ∀ p, p ∈ (xs.zip es).mergeSort (fun p q => leD p.2 q.2) → Rep K U H p.2 p.1 := fun p hp => zr p ((List.mergeSort_perm _ _).mem_iff.mp hp)
      have hrr := Reps.of_pairs hall
      rw [hmap] at hrr
      exact RRes.newL hrr hp
    · cases e
  · cases e

/-! ### min, max -/
def pick (lt : D → D → Bool) (x : D) (xs : List D) : D := xs.foldl (fun a y => if lt a y then y else a) x
def ltD (a b : D) : Bool := PySem.W.dataLt (toP a) (toP b)
def minL (x : D) (xs : List D) : D := pick (fun a y => ltD y a) x xs
def maxL (x : D) (xs : List D) : D := pick ltD x xs
theorem pick_mem (lt : D → D → Bool) : ∀ (xs : List D) (x : D), pick lt x xs ∈ x :: xs
  | [], x => List.mem_cons_self
  | y :: ys, x => by
    show pick lt (if lt x y then y else x) ys ∈ x :: y :: ys
    have := pick_mem lt ys (if lt x y then y else x)
    rcases List.mem_cons.mp this with h | h
    · rw [h]; split
      · exact List.mem_cons_of_mem _ List.mem_cons_self
      · exact List.mem_cons_self
    · exact List.mem_cons_of_mem _ (List.mem_cons_of_mem _ h)
theorem minL_toP : ∀ (xs : List D) (x : D), PySem.W.minD (toP x) (toPs xs) = toP (minL x xs)
  | [], x => rfl
  | y :: ys, x => by
    have e1 : PySem.W.minD (toP x) (toPs (y :: ys)) = PySem.W.minD (if PySem.W.dataLt (toP y) (toP x) then toP y else toP x) (toPs ys) := by simp only [toPs]; rfl
    have e2 : minL x (y :: ys) = minL (if ltD y x then y else x) ys := rfl
    rw [e1, e2, ← minL_toP ys]
    unfold ltD
    split <;> rfl
theorem maxL_toP : ∀ (xs : List D) (x : D), PySem.W.maxD (toP x) (toPs xs) = toP (maxL x xs)
  | [], x => rfl
  | y :: ys, x => by
    have e1 : PySem.W.maxD (toP x) (toPs (y :: ys)) = PySem.W.maxD (if PySem.W.dataLt (toP x) (toP y) then toP y else toP x) (toPs ys) := by simp only [toPs]; rfl
    have e2 : maxL x (y :: ys) = maxL (if ltD x y then y else x) ys := rfl
    rw [e1, e2, ← maxL_toP ys]
    unfold ltD
    split <;> rfl
def okM (ds : List D) : Bool := ds.all (okd 18) && allAlike ds && ds.all fun d => match d with
  | .non => false
  | _ => true
def gExt (f : D → List D → D) : Bool → List D → Option R := fun fl ds => match ds with
  | [.lst (d :: ds)] => if okM (d :: ds) then some ⟨f d ds, false⟩ else none
  | [.tup (d :: ds)] => if okM (d :: ds) then some ⟨f d ds, false⟩ else none
  | _ => none
def gMin := gExt minL
def gMax := gExt maxL
def rExt (K : PySem.W.Frag) (f : D → List D → D) : List V → Hp → VK → Prop := fun vs H Q => ∃ (U : Addr → Prop) (a : Addr) (xs : List V) (d : D) (ds : List D), vs = [.ref a] ∧ (SqL K H a xs ∨ SqT K H a xs) ∧ Reps K U H (d :: ds) xs ∧ okM (d :: ds) = true ∧ ∀ (i : Nat) x, xs[i]? = some x → (d :: ds)[i]? = some (f d ds) → Q x H
theorem alikeAll_of {ds : List D} (h : okM ds = true) : PySem.W.AlikeAll (toPs ds) ∧ PyData.depthAll (toPs ds) ≤ 18 := by
  unfold okM at h
  rw [Bool.and_eq_true, Bool.and_eq_true] at h
  have h2 := allAlike_ok h.1.2
  refine ⟨⟨fun x hx y hy => h2 x hx y hy, fun x hx z => ?_⟩, ?_⟩
  · rw [toPs_map] at hx
    obtain ⟨b, hb, rfl⟩ := List.mem_map.mp hx
    have h3 := List.all_eq_true.mp h.2 b hb
    have h4 := List.all_eq_true.mp h.1.1 b hb
    cases b <;> first | (simp at h3; done) | (simp [toP] at z; done) | (simp [okd] at h4; done)
  · have h5 := (okd_plain 19 (.lst ds) (by simp only [okd]; exact h.1.1)).2
    simp only [toP, PyData.depth] at h5
    omega
theorem ext_same {ds : List D} {d d' : D} (h : okM ds = true) (h1 : d ∈ ds) (h2 : d' ∈ ds) {hp : Heap} {v : Value} {as bs : List Addr} (r1 : Reads hp v (toP d) as) (r2 : Reads hp v (toP d') bs) : d = d' := by
  unfold okM at h
  rw [Bool.and_eq_true, Bool.and_eq_true] at h
  have ha := List.all_eq_true.mp (List.all_eq_true.mp h.1.2 d h1) d' h2
  exact toP_inj 18 d d' (List.all_eq_true.mp h.1.1 d h1) (List.all_eq_true.mp h.1.1 d' h2) (PySem.W.alike_unique _ _ _ _ _ ha r1 r2)
theorem vals_pick {xs : List V} {its : List Value} {i : Nat} {v : Value} (rv : Vals xs its) (e : its[i]? = some v) : ∃ x, xs[i]? = some x ∧ L2.RelV x v := by
  have hi : i < xs.length := by rw [rv.length]; exact (List.getElem?_eq_some_iff.mp e).1
  obtain ⟨u, hu, ru⟩ := rv.get (List.getElem?_eq_getElem hi)
  rw [e] at hu; cases hu
  exact ⟨_, List.getElem?_eq_getElem hi, ru⟩
theorem ext_end {pins : List (Addr × Obj)} {s : Shared} {σ : L2.St} {H : Hp} {Q : VK} {U : Addr → Prop} {f : D → List D → D} {d : D} {ds : List D} {xs : List V} {its : List Value} {i : Nat} {v : Value} {h' : Heap} {tk : Nat} {bs : List Addr} (I : Inv X pins σ H s) (hr : Reps X.K U H (d :: ds) xs) (rv : Vals xs its)
    (ok : okM (d :: ds) = true) (fm : f d ds ∈ d :: ds) (ev : its[i]? = some v) (rd : Reads h' v (toP (f d ds)) bs) (kp : ∀ b o, s.heap.get? b = some o → h'.get? b = some o) (q : ∀ (i : Nat) x, xs[i]? = some x → (d :: ds)[i]? = some (f d ds) → Q x H) : EP X pins σ Q v { s with heap := h', toks := tk } := by
  obtain ⟨x, ex, rx⟩ := vals_pick rv ev
  obtain ⟨e, ee, re⟩ := hr.get' ex
  have I2 : Inv X pins σ H { s with heap := h', toks := tk } := I.kept kp
  obtain ⟨as, r1⟩ := Dp.reads I2 _ x v (Rep.dp (U := U) _ _ re) rx
  have hm : e ∈ d :: ds := List.mem_of_getElem? ee
  have := ext_same ok hm fm r1 rd
  subst this
  exact ⟨x, H, I2, rx, q i x ex ee⟩
theorem cr_minD (hc : X.calm = true) (hu : X.A.units + 64 < cLine) : CallR X (.builtin "min") (rExt X.K minL) := fun pins s σ H vs us Q I r h => by
  obtain ⟨U, a, xs, d, ds, rfl, hs, hr, ok, q⟩ := h
  obtain ⟨u, rfl, ru⟩ := vals1 r
  obtain rfl : u = Value.ref a := ru
  obtain ⟨al, dp⟩ := alikeAll_of ok
  have hu2 : X.A.units + 1 + PyData.depthAll (toPs (d :: ds)) < cLine := by omega
  rcases hs with hs | hs
  · obtain ⟨its, rv, hl, hz⟩ := I.list hs
    obtain ⟨as, ra⟩ := Dp.readsAll I _ _ its (Reps.dps (U := U) _ _ hr) rv
    refine PySem.W.min_list_data (I.ok.hd hc) hl.isList (by simpa [toPs] using ra) (by simpa [toPs] using al) (by simpa [toPs] using hu2) fun i v h' tk bs ev rd kp => ?_
    rw [minL_toP] at rd
    exact ext_end (f := minL) I hr rv ok (pick_mem _ _ _) (by simpa using ev) rd kp q
  · obtain ⟨its, rv, hl, hz⟩ := I.tuple hs
    obtain ⟨as, ra⟩ := Dp.readsAll I _ _ its (Reps.dps (U := U) _ _ hr) rv
    refine PySem.W.min_tuple_data (I.ok.hd hc) (show s.heap.IsTuple a its.toArray from hl) (by simpa [toPs] using ra) (by simpa [toPs] using al) (by simpa [toPs] using hu2) fun i v h' tk bs ev rd kp => ?_
    rw [minL_toP] at rd
    exact ext_end (f := minL) I hr rv ok (pick_mem _ _ _) (by simpa using ev) rd kp q
theorem cr_maxD2 (hc : X.calm = true) (hu : X.A.units + 64 < cLine) : CallR X (.builtin "max") (rExt X.K maxL) := fun pins s σ H vs us Q I r h => by
  obtain ⟨U, a, xs, d, ds, rfl, hs, hr, ok, q⟩ := h
  obtain ⟨u, rfl, ru⟩ := vals1 r
  obtain rfl : u = Value.ref a := ru
  obtain ⟨al, dp⟩ := alikeAll_of ok
  have hu2 : X.A.units + 1 + PyData.depthAll (toPs (d :: ds)) < cLine := by omega
  rcases hs with hs | hs
  · obtain ⟨its, rv, hl, hz⟩ := I.list hs
    obtain ⟨as, ra⟩ := Dp.readsAll I _ _ its (Reps.dps (U := U) _ _ hr) rv
    refine PySem.W.max_list_data (I.ok.hd hc) hl.isList (by simpa [toPs] using ra) (by simpa [toPs] using al) (by simpa [toPs] using hu2) fun i v h' tk bs ev rd kp => ?_
    rw [maxL_toP] at rd
    exact ext_end (f := maxL) I hr rv ok (pick_mem _ _ _) (by simpa using ev) rd kp q
  · obtain ⟨its, rv, hl, hz⟩ := I.tuple hs
    obtain ⟨as, ra⟩ := Dp.readsAll I _ _ its (Reps.dps (U := U) _ _ hr) rv
    refine PySem.W.max_tuple_data (I.ok.hd hc) (show s.heap.IsTuple a its.toArray from hl) (by simpa [toPs] using ra) (by simpa [toPs] using al) (by simpa [toPs] using hu2) fun i v h' tk bs ev rd kp => ?_
    rw [maxL_toP] at rd
    exact ext_end (f := maxL) I hr rv ok (pick_mem _ _ _) (by simpa using ev) rd kp q
theorem vr_ext (f : D → List D → D) : VR K (rExt K f) (gExt f) := by
  intro U H ds vs fl rr Q rt rf e q
  unfold gExt at e
  split at e
  · rename_i d es
    split at e
    · rename_i hk
      cases e
      obtain ⟨x, _, rfl, ⟨a, xs, rfl, hs, hr⟩, h3⟩ := rt
      simp only [RepTs] at h3
      subst h3
      refine ⟨U, a, xs, d, es, rfl, .inl (SqL.of hs), hr, hk, fun i x ex ee => ?_⟩
      obtain ⟨x', ex', rx⟩ := hr.get ee
      rw [ex] at ex'; cases ex'
      exact q _ H (Same.refl H) (RRes.old rx)
    · cases e
  · rename_i d es
    split at e
    · rename_i hk
      cases e
      obtain ⟨x, _, rfl, h1, h3⟩ := rt
      simp only [RepTs] at h3
      simp only [RepT, Rep] at h1
      obtain ⟨a, xs, rfl, hs, hr⟩ := h1
      subst h3
      refine ⟨U, a, xs, d, es, rfl, .inr hs, hr, hk, fun i x ex ee => ?_⟩
      obtain ⟨x', ex', rx⟩ := hr.get ee
      rw [ex] at ex'; cases ex'
      exact q _ H (Same.refl H) (RRes.old rx)
    · cases e
  · cases e
theorem vr_min : VR K (rExt K minL) gMin := vr_ext minL
theorem vr_max : VR K (rExt K maxL) gMax := vr_ext maxL
/-- of two ints -/
def gMin2 : Bool → List D → Option R := fun _ ds => match ds with
  | [.int i, .int j] => some (RI (if j < i then j else i))
  | _ => none
def gMax2 : Bool → List D → Option R := fun _ ds => match ds with
  | [.int i, .int j] => some (RI (if j > i then j else i))
  | _ => none
theorem vr_min2 : VR K (fun xs H Q => ∃ i j, xs = [.int i, .int j] ∧ Q (.int (if j < i then j else i)) H) gMin2 := by
  intro U H ds vs fl rr Q rt rf e q
  unfold gMin2 at e
  split at e
  · cases e
    obtain ⟨x, _, rfl, h1, y, _, rfl, h2, h3⟩ := rt
    simp only [RepTs] at h3
    simp only [RepT, Rep] at h1 h2
    subst h1 h2 h3
    exact ⟨_, _, rfl, q _ H (Same.refl H) .int⟩
  · cases e
theorem vr_max2 : VR K (fun xs H Q => ∃ i j, xs = [.int i, .int j] ∧ Q (.int (if j > i then j else i)) H) gMax2 := by
  intro U H ds vs fl rr Q rt rf e q
  unfold gMax2 at e
  split at e
  · cases e
    obtain ⟨x, _, rfl, h1, y, _, rfl, h2, h3⟩ := rt
    simp only [RepTs] at h3
    simp only [RepT, Rep] at h1 h2
    subst h1 h2 h3
    exact ⟨_, _, rfl, q _ H (Same.refl H) .int⟩
  · cases e
end

/-! ### zip, enumerate -/
section
variable {X : Cx} {K : PySem.W.Frag} {U : Addr → Prop} {H : Hp}
def zipD (xs ys : List D) : List D := List.zipWith (fun x y => .tup [x, y]) xs ys
def zipK : D → D → Option (List D)
  | .lst xs, .lst ys => some (zipD xs ys)
  | .tup xs, .tup ys => some (zipD xs ys)
  | _, _ => none
theorem zipD_get {xs ys : List D} {i : Nat} {d : D} (h : (zipD xs ys)[i]? = some d) : ∃ x y, xs[i]? = some x ∧ ys[i]? = some y ∧ d = .tup [x, y] := by
  unfold zipD at h
  rw [List.getElem?_zipWith_eq_some] at h
  obtain ⟨x, y, h1, h2, h3⟩ := h
  exact ⟨x, y, h1, h2, h3.symm⟩
theorem zipD_len {xs ys : List D} : xs.length ≤ (zipD xs ys).length ∨ ys.length ≤ (zipD xs ys).length := by
  unfold zipD
  rw [List.length_zipWith]
  omega
theorem pair_rep {H3 : Hp} {T : Addr} {d1 d2 : D} {x y : V} (h1 : Rep K U H d1 x) (h2 : Rep K U H d2 y) (hT : H T = none) (e : H3 = upd H T (.tup [x, y])) : Same H H3 ∧ Rep K U H3 (.tup [d1, d2]) (.ref T) := by
  subst e
  refine ⟨same_upd' hT, ?_⟩
  have := RRes.newT (K := K) (U := U) (p := T) (show Reps K U H [d1, d2] [x, y] from ?_) hT
  · exact this
  · simp only [Reps]
    exact ⟨_, _, rfl, h1, _, _, rfl, h2, rfl⟩
theorem itok_zip {a b : Addr} {xs ys : List V} {ds es : List D} (hna : ¬ U a) (hnb : ¬ U b) (ha : H a = some (.lst xs)) (hb : H b = some (.lst ys)) (ra : Reps K U H ds xs) (rb : Reps K U H es ys) : ItOk K U (Itz K a b) H (zipD ds es) := by
  refine ⟨fun W U2 H2 hF hW hU => ?_⟩
  have a2 : H2 a = some (.lst xs) := hF _ _ ha fun w => hna (hW a w).1
  have b2 : H2 b = some (.lst ys) := hF _ _ hb fun w => hnb (hW b w).1
  have ra2 := Reps.step hF hW hU _ _ ra
  have rb2 := Reps.step hF hW hU _ _ rb
  refine ⟨fun i d e => ?_, xs, ys, SqL.of a2, SqL.of b2, ?_⟩
  · obtain ⟨d1, d2, e1, e2, rfl⟩ := zipD_get e
    obtain ⟨x, ex, rx⟩ := ra2.get e1
    obtain ⟨y, ey, ry⟩ := rb2.get e2
    refine ⟨⟨xs, ys, x, y, SqL.of a2, SqL.of b2, ex, ey⟩, fun v H3 hy => ?_⟩
    obtain ⟨T, x', y', rfl, hT, rfl, f1, f2⟩ := hy
    have g1 := f1 xs (SqL.of a2)
    have g2 := f2 ys (SqL.of b2)
    rw [ex] at g1; rw [ey] at g2
    cases g1; cases g2
    exact pair_rep rx ry hT rfl
  · rw [Reps.len _ _ ra, Reps.len _ _ rb]
    exact zipD_len
theorem itok_zipT {a b : Addr} {xs ys : List V} {ds es : List D} (ha : SqT K H a xs) (hb : SqT K H b ys) (ra : Reps K U H ds xs) (rb : Reps K U H es ys) : ItOk K U (RZ.ItzT K a b) H (zipD ds es) := by
  refine ⟨fun W U2 H2 hF hW hU => ?_⟩
  have a2 : SqT K H2 a xs := SqT.stepW hF (fun b w => (hW b w).2) ha
  have b2 : SqT K H2 b ys := SqT.stepW hF (fun b w => (hW b w).2) hb
  have ra2 := Reps.step hF hW hU _ _ ra
  have rb2 := Reps.step hF hW hU _ _ rb
  refine ⟨fun i d e => ?_, xs, ys, a2, b2, ?_⟩
  · obtain ⟨d1, d2, e1, e2, rfl⟩ := zipD_get e
    obtain ⟨x, ex, rx⟩ := ra2.get e1
    obtain ⟨y, ey, ry⟩ := rb2.get e2
    refine ⟨⟨xs, ys, x, y, a2, b2, ex, ey⟩, fun v H3 hy => ?_⟩
    obtain ⟨T, x', y', rfl, hT, rfl, f1, f2⟩ := hy
    have g1 := f1 xs a2
    have g2 := f2 ys b2
    rw [ex] at g1; rw [ey] at g2
    cases g1; cases g2
    exact pair_rep rx ry hT rfl
  · rw [Reps.len _ _ ra, Reps.len _ _ rb]
    exact zipD_len
def cZip (o o' : Opn) : Env → Option (List D × Env) := fun env => do
  let (ds, fl, env') ← evOps [o, o'] env
  match fl, ds with
  | false, [a, b] => do
    let zs ← zipK a b
    some (zs, env')
  | _, _ => none
theorem di_zip {elts : List Expr} {kk : Nat} {tpos p pos : Pos} {a b : Expr} {o o' : Opn} (hm : X.mg "zip" = none) (ha : Opd X a o) (hb : Opd X b o') (hg : Gl X "zip" := by rfl) (hs : starEach [a, b] X.env = [(false, eval a X.env), (false, eval b X.env)] := by rfl) (hs2 : starEach [b] X.env = [(false, eval b X.env)] := by rfl) :
    DI X (.Tuple elts kk tpos) (.Call (.Name "zip" p) [a, b] [] pos) (cZip o o') :=
  pi_imp (RZ.pi_zipA hg hm (ops_cons ha (ops_cons hb ops_nil hs2) (by rw [hs, hs2])) (by rw [hs, hs2]) (by rw [hs2]; rfl)) fun σ H Rw q => by
  obtain ⟨O, A, env, ds, env', R, e, q⟩ := q
  simp only [cZip, Option.bind_eq_bind, Option.bind_eq_some_iff] at e
  obtain ⟨⟨es, fl, env1⟩, e1, e2⟩ := e
  refine ops_fold [o, o'] O H env es fl env1 _ R e1 fun vs H' F R1 rt rf => ?_
  dsimp only at e2
  split at e2
  · rename_i d1 d2
    simp only [Option.bind_eq_some_iff] at e2
    obtain ⟨zs, ez, e3⟩ := e2
    cases e3
    have hv := rf rfl
    simp only [Reps] at hv
    obtain ⟨x, _, rfl, r1, y, _, rfl, r2, rfl⟩ := hv
    unfold zipK at ez
    split at ez
    · cases ez
      simp only [Rep] at r1 r2
      obtain ⟨a, xs, rfl, na, sa, ra⟩ := r1
      obtain ⟨b, ys, rfl, nb, sb, rb⟩ := r2
      exact ⟨a, b, xs, ys, rfl, .inl ⟨SqL.of sa, SqL.of sb, q _ H' F R1 (itok_zip na nb sa sb ra rb)⟩⟩
    · cases ez
      simp only [Rep] at r1 r2
      obtain ⟨a, xs, rfl, sa, ra⟩ := r1
      obtain ⟨b, ys, rfl, sb, rb⟩ := r2
      exact ⟨a, b, xs, ys, rfl, .inr ⟨sa, sb, q _ H' F R1 (itok_zipT sa sb ra rb)⟩⟩
    · cases ez
  · cases e2
end
end DL

namespace DL
open PySem PySem.Spec PyProof.Rows L2

/-! ### enumerate of a tuple -/
set_option maxHeartbeats 1000000 in
theorem enum_new1 {v : Value} {ob : Obj} {Hq : Heap → Prop} (B : Begins v ob Hq) : Meets (Builtin.«enumerate.__new__» ⟨[.type "enumerate", v], []⟩) (fun _ Rr s => Hq s.heap ∧
      Rr (.ok (.ret (.ref (s.heap.push ob).objs.size))) { s with heap := (s.heap.push ob).push { cls := .type "enumerate", data := .fields #[.none, .bool false, .ref s.heap.objs.size, rawInt 0, .none, .none] } }) :=
  .of_wp fun prog w A Rr s hh => by
    obtain ⟨hp, g, d, tk, os⟩ := s
    obtain ⟨hq, hh⟩ := hh
    have hsubE := sub_enumerate
    have qIt : ∀ {A' : Around} {E : Value → Shared → Prop} {Q : Value → Shared → Prop}, Q (.ref hp.objs.size) ⟨hp.push ob, g, d, tk, os⟩ → wpAny (model prog w) A' (pyIter v) Q E ⟨hp, g, d, tk, os⟩ := fun q =>
      B.iter prog w _ _ ⟨hp, g, d, tk, os⟩ _ hq q
    wp_walk using qIt
    refine wpAny_stack_any fun st2 => wpAny_pure ?_
    split
    · rename_i cc _ _ _ _ _
      cases (cc == Value.type "enumerate") <;> (wp_walk using qIt; exact ⟨_, rfl, hh⟩)
    · wp_walk using qIt
      exact ⟨_, rfl, hh⟩
section
variable {prog : Program} {w : World} {A : Around} {E : Value → Shared → Prop} {s : Shared}
theorem enum_call1 {v : Value} {ob : Obj} {Hq : Heap → Prop} {Q : Value → Shared → Prop} (B : Begins v ob Hq) (hq : Hq s.heap)
    (hh : ∀ h', IsEnum h' (s.heap.objs.size + 1) s.heap.objs.size 0 .none → h'.get? s.heap.objs.size = some ob → (∀ b o, s.heap.get? b = some o → h'.get? b = some o) → Q (.ref (s.heap.objs.size + 1)) { s with heap := h' }) :
    wpAny (model prog w) A (call (.type "enumerate") [v]) Q E s := by
  refine callType_new F.called_enumerate (by decide) (F.typeCall_enumerate_1 _) (F.newCall_enumerate_1 _) (fun obj => F.args_object_init_2 obj _) F.entry_enumerate_new (enum_new1 B) ⟨hq, ?_⟩
  have hz : (s.heap.push ob).objs.size = s.heap.objs.size + 1 := Heap.size_push ..
  show _ ∧ _
  rw [hz]
  have he : IsEnum ((s.heap.push ob).push { cls := .type "enumerate", data := .fields #[.none, .bool false, .ref s.heap.objs.size, rawInt 0, .none, .none] }) (s.heap.objs.size + 1) s.heap.objs.size 0 .none := by
    have t := Heap.get?_push_size (s.heap.push ob) (o := { cls := .type "enumerate", data := .fields #[.none, .bool false, .ref s.heap.objs.size, rawInt 0, .none, .none] }) rfl
    rw [hz] at t
    exact t
  exact ⟨⟨_, he, rfl⟩, hh _ he (Heap.get?_push_of_some _ (Heap.get?_push_size _ B.free)) fun b o x => Heap.get?_push_of_some _ (Heap.get?_push_of_some _ x)⟩
end
def IteT (K : PySem.W.Frag) (a : Addr) : It :=
  ⟨fun i H => ∃ (xs : List V) (x : V), SqT K H a xs ∧ xs[i]? = some x,
   fun i H v H' => ∃ T x, v = .ref T ∧ H T = none ∧ H' = upd H T (.tup [.int (i : Nat), x]) ∧ ∀ xs, SqT K H a xs → xs[i]? = some x,
   fun i H => ∃ xs : List V, SqT K H a xs ∧ i = xs.length⟩
theorem turn_enumT {P : Program} {w : World} {K : PySem.W.Frag} {elts : List Expr} {kk : Nat} {tpos : Pos} (a e it : Addr) (hae : a ≠ e) (hai : a ≠ it) :
    Turn P w K (.Tuple elts kk tpos) (IteT K a) [e, it] e (fun i h => (∃ old, IsEnum h e it ((i : Nat) : Int) old) ∧ h.IsTupleIter it a i ∧ e ≠ it) where
  mem := by simp
  obj := fun i h st b hb => by
    obtain ⟨⟨old, he⟩, ⟨o, ho, hc, hd⟩, _⟩ := st
    rcases (show b = e ∨ b = it by simpa using hb) with z | z
    · subst z; exact ⟨_, he, fun v q => nomatch q⟩
    · subst z; exact ⟨o, ho, fun v q => by rw [hd] at q; cases q⟩
  keep := fun i h h' st k => by
    obtain ⟨⟨old, he⟩, hi, hne⟩ := st
    exact ⟨⟨old, k e (by simp) _ he⟩, hi.at fun o q => k it (by simp) o q, hne⟩
  item := by
    intro X hP hw hK hc i pins s σ H E I hf st hg
    subst hP hw hK
    obtain ⟨⟨old, he⟩, hit, hne⟩ := st
    obtain ⟨xs, x, hq, hx⟩ := hg
    obtain ⟨its, rv, tp, hz⟩ := I.tuple hq
    obtain ⟨u, hu, ru⟩ := rv.get hx
    have hel : e < s.heap.objs.size := Heap.lt_size he
    have hil : it < s.heap.objs.size := by
      obtain ⟨_, q, _⟩ := hit
      exact Heap.lt_size q
    have hlt : i < its.toArray.size := by
      rw [List.size_toArray]
      exact (List.getElem?_eq_some_iff.mp hu).1
    have htup : s.heap.IsTuple a its.toArray := tp
    have Dr := Draws.tuple (prog := X.prog) (w := X.w) (A := X.A.in1) (I.ok.hd hc) it a hai its.toArray
    refine wpAny_pyNext_enum_itemD Dr he (show _ ∧ _ from ⟨hit, htup⟩) hlt hne (by simp [Ne.symm hae, hne]) fun x' h' tk hx' ho hst hT hsz hk => ?_
    have hxu : x' = u := by
      have : its.toArray[i]? = some u := by simpa using hu
      rw [this] at hx'
      exact (Option.some.inj hx').symm
    subst hxu
    refine ⟨_, rfl, wpAny_letOwnedTupleGo_enum (s := { s with heap := h', toks := tk + 1 }) ho fun h'' he' sb => ?_⟩
    have hT2 : h''.get? s.heap.objs.size = some { cls := .type "tuple", data := .seq #[.int i tk, x'] } := (sb.2 _ (Nat.ne_of_gt hel)).trans hT
    have new : ObjOk X.prog X.w (upd H s.heap.objs.size (.tup [.int (i : Nat), x])) h'' s.heap.objs.size (.tup [.int (i : Nat), x]) :=
      ⟨by show 2 ≤ sizeLine; rw [sizeLine_eq]; decide, [.int i tk, x'], .cons ⟨_, rfl⟩ (.cons ru .nil), ⟨_, hT2, rfl, _, rfl⟩⟩
    have I1 : Inv X pins σ (upd H s.heap.objs.size (.tup [.int (i : Nat), x])) { s with heap := h'', toks := tk + 1 } :=
      I.turnedNew (ch := [e, it]) (fun b ob hb q => (sb.2 b (fun z => hb (by simp [z]))).trans (hk b ob (fun z => hb (by simp [z])) (fun z => hb (by simp [z])) q)) hf (Nat.le_refl _) new
    refine ⟨.ref s.heap.objs.size, _, I1, rfl, ⟨_, x, rfl, I.hok.fresh (Nat.le_refl _), rfl, fun ys hy => by rw [I.tuple_inj hy hq]; exact hx⟩, ⟨⟨x', ?_⟩, hst.1.at fun o q => (sb.2 it (Ne.symm hne)).trans q, hne⟩, fun b hb => ?_⟩
    · have e1 : ((i + 1 : Nat) : Int) = (i : Int) + 1 := by omega
      rw [e1]
      exact he'
    · have hb' : b < s.heap.objs.size := by
        rcases (show b = e ∨ b = it by simpa using hb) with z | z
        · rw [z]; exact hel
        · rw [z]; exact hil
      rw [upd_ne (Nat.ne_of_lt hb')]
      exact (hf b hb).1
  done := by
    intro X hP hw hK hc i pins s σ H E I hf st hg
    subst hP hw hK
    obtain ⟨⟨old, he⟩, hit, hne⟩ := st
    obtain ⟨xs, hq, hx⟩ := hg
    obtain ⟨its, rv, tp, hz⟩ := I.tuple hq
    obtain ⟨f0, f1, f2, f3, f4, f5⟩ := hf it (by simp)
    have hl := rv.length
    have htup : s.heap.IsTuple a its.toArray := tp
    have Dr := Draws.tuple (prog := X.prog) (w := X.w) (A := X.A.in1) (I.ok.hd hc) it a hai its.toArray
    refine wpAny_pyNext_enum_endD Dr he (show _ ∧ _ from ⟨?_, htup⟩) fun h' eb => ⟨rfl, I.turned (t' := s.toks) (fun b o hb q => eb b o hb q) f0 f1 f3 f4 f5⟩
    rw [List.size_toArray, ← hl, ← hx]
    exact hit
  self := fun A i s Q E st h => by
    obtain ⟨⟨_, he⟩, _⟩ := st
    exact wpAny_pyIter_enum he h
/-- enumerate of a list or a tuple -/
def iEnum2 (K : PySem.W.Frag) (ta : TA) : TI := fun σ H Rw => ta σ H fun vs H1 => ∃ a xs, vs = [.ref a] ∧ ((SqL K H1 a xs ∧ Rw (Ite K a) H1) ∨ (SqT K H1 a xs ∧ Rw (IteT K a) H1))
theorem pi_enum2 {X : Cx} {e : Expr} {ta : TA} {p pos tpos : Pos} {elts : List Expr} {kk : Nat} (hg : Gl X "enumerate") (hm : X.mg "enumerate" = none) (ha : PA X [e] ta) (hs : starEach [e] X.env = [(false, eval e X.env)] := by rfl) :
    PI X (.Tuple elts kk tpos) (.Call (.Name "enumerate" p) [e] [] pos) (iEnum2 X.K ta) := by
  refine ⟨fun pins s σ H Rw I h => Call_ (ld_blt I hg hm boot_enumerate (PyProof.Rows.callWith_type1 (thn (ha.run pos pins s σ H _ I h) fun us s1 ⟨vs, H1, I1, r1, a, xs, ev, q1⟩ => ?_) hs rfl))⟩
  subst ev
  obtain ⟨u, rfl, ru⟩ := vals1 r1
  obtain rfl : u = Value.ref a := ru
  have two : ∀ {b : Addr}, b ∈ [s1.heap.objs.size + 1, s1.heap.objs.size] → s1.heap.objs.size ≤ b := fun {b} hb => by
    rcases (show b = s1.heap.objs.size + 1 ∨ b = s1.heap.objs.size by simpa using hb) with z | z
    · rw [z]; exact Nat.le_succ _
    · rw [z]; exact Nat.le_refl _
  rcases q1 with ⟨hq, q⟩ | ⟨hq, q⟩
  · obtain ⟨its, rv, pl, hz⟩ := I1.list hq
    refine call_enumerate_list pl.isList fun h' he hit hsz hk => wpAny_pyIter_enum he ?_
    have I2 : Inv X pins σ H1 { s1 with heap := h' } := I1.kept (t' := s1.toks) hk
    exact ⟨s1.heap.objs.size + 1, [s1.heap.objs.size + 1, s1.heap.objs.size], _, _, H1, rfl, I2, turn_enum a _ _, ⟨⟨.none, he⟩, hit, Nat.succ_ne_self _⟩, fun b hb => I1.fpOk (two hb) (I1.hok.fresh (two hb)), q⟩
  · obtain ⟨its, rv, pl, hz⟩ := I1.tuple hq
    have htup : s1.heap.IsTuple a its.toArray := pl
    have hal : a < s1.heap.objs.size := by
      obtain ⟨o, ho, _⟩ := pl
      exact Heap.lt_size ho
    refine enum_call1 (begins_tuple a its.toArray) htup fun h' he hit hk => wpAny_pyIter_enum he ?_
    have I2 : Inv X pins σ H1 { s1 with heap := h' } := I1.kept (t' := s1.toks) hk
    exact ⟨s1.heap.objs.size + 1, [s1.heap.objs.size + 1, s1.heap.objs.size], _, _, H1, rfl, I2, turn_enumT a _ _ (Nat.ne_of_lt (Nat.lt_succ_of_lt hal)) (Nat.ne_of_lt hal), ⟨⟨.none, he⟩, ⟨_, hit, rfl, rfl⟩, Nat.succ_ne_self _⟩, fun b hb => I1.fpOk (two hb) (I1.hok.fresh (two hb)), q⟩
section
variable {X : Cx} {K : PySem.W.Frag} {U : Addr → Prop} {H : Hp}
def enumD : Nat → List D → List D
  | _, [] => []
  | i, d :: ds => .tup [.int i, d] :: enumD (i + 1) ds
theorem enumD_len : ∀ (i : Nat) (ds : List D), (enumD i ds).length = ds.length
  | _, [] => rfl
  | i, d :: ds => by simp [enumD, enumD_len (i + 1) ds]
theorem enumD_get : ∀ (k : Nat) (ds : List D) (i : Nat) (d : D), (enumD k ds)[i]? = some d → ∃ x, ds[i]? = some x ∧ d = .tup [.int ((k + i : Nat) : Int), x]
  | _, [], _, _, h => by simp [enumD] at h
  | k, x :: ds, 0, d, h => by
    simp [enumD] at h
    exact ⟨x, rfl, by rw [← h]; rfl⟩
  | k, x :: ds, i + 1, d, h => by
    simp only [enumD, List.getElem?_cons_succ] at h
    obtain ⟨y, h1, h2⟩ := enumD_get (k + 1) ds i d h
    exact ⟨y, by simpa using h1, by rw [h2]; simp; omega⟩
theorem int_rep {i : Int} : Rep K U H (.int i) (.int i) := by simp only [Rep]
theorem itok_enum {a : Addr} {xs : List V} {ds : List D} (hna : ¬ U a) (ha : H a = some (.lst xs)) (ra : Reps K U H ds xs) : ItOk K U (Ite K a) H (enumD 0 ds) := by
  refine ⟨fun W U2 H2 hF hW hU => ?_⟩
  have a2 : H2 a = some (.lst xs) := hF _ _ ha fun w => hna (hW a w).1
  have ra2 := Reps.step hF hW hU _ _ ra
  refine ⟨fun i d e => ?_, xs, SqL.of a2, by rw [Reps.len _ _ ra, enumD_len]; exact Nat.le_refl _⟩
  obtain ⟨d1, e1, rfl⟩ := enumD_get 0 ds i d e
  obtain ⟨x, ex, rx⟩ := ra2.get e1
  refine ⟨⟨xs, x, SqL.of a2, ex⟩, fun v H3 hy => ?_⟩
  obtain ⟨T, x', rfl, hT, rfl, f1⟩ := hy
  have g1 := f1 xs (SqL.of a2)
  rw [ex] at g1
  cases g1
  rw [Nat.zero_add]
  exact pair_rep int_rep rx hT rfl
theorem itok_enumT {a : Addr} {xs : List V} {ds : List D} (ha : SqT K H a xs) (ra : Reps K U H ds xs) : ItOk K U (IteT K a) H (enumD 0 ds) := by
  refine ⟨fun W U2 H2 hF hW hU => ?_⟩
  have a2 : SqT K H2 a xs := SqT.stepW hF (fun b w => (hW b w).2) ha
  have ra2 := Reps.step hF hW hU _ _ ra
  refine ⟨fun i d e => ?_, xs, a2, by rw [Reps.len _ _ ra, enumD_len]⟩
  obtain ⟨d1, e1, rfl⟩ := enumD_get 0 ds i d e
  obtain ⟨x, ex, rx⟩ := ra2.get e1
  refine ⟨⟨xs, x, a2, ex⟩, fun v H3 hy => ?_⟩
  obtain ⟨T, x', rfl, hT, rfl, f1⟩ := hy
  have g1 := f1 xs a2
  rw [ex] at g1
  cases g1
  rw [Nat.zero_add]
  exact pair_rep int_rep rx hT rfl
def cEnum (o : Opn) : Env → Option (List D × Env) := fun env => do
  let (ds, fl, env') ← evOps [o] env
  match fl, ds with
  | false, [d] => do
    let xs ← itsOf d
    some (enumD 0 xs, env')
  | _, _ => none
theorem di_enum {elts : List Expr} {kk : Nat} {tpos p pos : Pos} {a : Expr} {o : Opn} (hm : X.mg "enumerate" = none) (ha : Opd X a o) (hg : Gl X "enumerate" := by rfl) (hs : starEach [a] X.env = [(false, eval a X.env)] := by rfl) :
    DI X (.Tuple elts kk tpos) (.Call (.Name "enumerate" p) [a] [] pos) (cEnum o) :=
  pi_imp (pi_enum2 hg hm (ops_cons ha ops_nil hs) hs) fun σ H Rw q => by
  obtain ⟨O, A, env, ds, env', R, e, q⟩ := q
  simp only [cEnum, Option.bind_eq_bind, Option.bind_eq_some_iff] at e
  obtain ⟨⟨es, fl, env1⟩, e1, e2⟩ := e
  refine ops_fold [o] O H env es fl env1 _ R e1 fun vs H' F R1 rt rf => ?_
  dsimp only at e2
  split at e2
  · rename_i d
    simp only [Option.bind_eq_some_iff] at e2
    obtain ⟨zs, ez, e3⟩ := e2
    cases e3
    have hv := rf rfl
    simp only [Reps] at hv
    obtain ⟨x, _, rfl, r1, rfl⟩ := hv
    cases d <;> simp only [itsOf, Option.some.injEq, reduceCtorEq] at ez
    · subst ez
      simp only [Rep] at r1
      obtain ⟨a, xs, rfl, sa, ra⟩ := r1
      exact ⟨a, xs, rfl, .inr ⟨sa, q _ H' F R1 (itok_enumT sa ra)⟩⟩
    · subst ez
      simp only [Rep] at r1
      obtain ⟨a, xs, rfl, na, sa, ra⟩ := r1
      exact ⟨a, xs, rfl, .inl ⟨SqL.of sa, q _ H' F R1 (itok_enum na sa ra)⟩⟩
  · cases e2
end

/-! ### a test that is an if -/
theorem dt_if {X : Cx} {c a b : Expr} {pos : Pos} {ft fa fb : Env → Option (Bool × Env)} (hc : DT X c ft) (ha : DT X a fa) (hb : DT X b fb) : DT X (.IfExp c a b pos) (cIte ft fa fb) := by
  refine ⟨fun pins s σ H Q I h => ?_⟩
  obtain ⟨O, A, env, k, env', R, e, q⟩ := h
  simp only [cIte, Option.bind_eq_bind, Option.bind_eq_some_iff] at e
  obtain ⟨⟨k1, env1⟩, e1, e2⟩ := e
  refine PyProof.Rows.isTrue_IfExp (thn (hc.run pins s σ H (fun k H' => if k = true then tT X.K fa σ H' Q else tT X.K fb σ H' Q) I ⟨O, A, env, k1, env1, R, e1, fun H' F R1 => ?_⟩) fun k2 s2 ⟨H2, I2, q2⟩ => ?_)
  · cases k1 with
    | true =>
      rw [if_pos rfl] at e2 ⊢
      exact ⟨O, A, env1, k, env', R1, e2, fun H2 F2 R2 => q H2 (F.trans F2) R2⟩
    | false =>
      rw [if_neg Bool.false_ne_true] at e2 ⊢
      exact ⟨O, A, env1, k, env', R1, e2, fun H2 F2 R2 => q H2 (F.trans F2) R2⟩
  · cases k2 with
    | true => exact ha.run pins s2 σ H2 Q I2 q2
    | false => exact hb.run pins s2 σ H2 Q I2 q2

/-! ### x, y = a, b -/
section
variable {X : Cx} {lk : List Nat} {pos : Pos}
def cPar (i : Nat) (oi : Bool) (fa : Env → Option (R × Env)) (j : Nat) (oj : Bool) (fb : Env → Option (R × Env)) : Env → Option Out := fun env => do
  let (ra, env1) ← fa env
  let (rb, env2) ← fb env1
  let env3 ← storeSl oi i ra env2
  let env4 ← storeSl oj j rb env3
  some (.nx env4)
/-- a result stays over what runs behind it -/
theorem Res.over {K : PySem.W.Frag} {O : Addr → Prop} {A : Ow} {σ : L2.St} {H H1 H2 : Hp} {env1 env2 : Env} {r : R} {v : V} (hr : Res K O A σ H H1 env1 r v) (F : Fr A H1 H2) (R2 : RelEnv K (fun b => O b ∨ (r.fr = true ∧ v = .ref b)) A σ H2 env2) : Res K O A σ H H2 env2 r v := by
  unfold Res at hr ⊢
  cases w : r.fr with
  | false =>
    rw [w] at hr R2
    have hw : ∀ b, (O b ∨ (false = true ∧ v = .ref b)) → O b := fun b z => z.elim id fun z => nomatch z.1
    exact ⟨R2.weaken fun b z => .inl z, Rep.step (W := fun b => ∃ i, A i = some b) F.hF hr.1.hW (fun _ u => .inl u) _ _ hr.2⟩
  | true =>
    rw [w] at hr R2
    obtain ⟨a, rfl, hn, R1, t⟩ := hr
    have hna : ¬ ∃ i, A i = some a := fun ⟨i, e⟩ => (R1.ob a (.inr rfl)).2 i e
    exact ⟨a, rfl, hn, R2.weaken fun b z => z.imp id fun z => ⟨rfl, by rw [z]⟩, t.step (W := fun b => ∃ i, A i = some b) F.hF R1.hW (fun _ u => .inl u) hna⟩
end
end DL

namespace DL
open PySem PySem.Spec PyProof.Rows L2

/-! ### several names stored at once -/
def ResV (K : PySem.W.Frag) (O : Addr → Prop) (A : Ow) (σ : L2.St) (H : Hp) (env : Env) (r : R) (v : V) : Prop := match r.fr with
  | false => RelEnv K O A σ H env ∧ Rep K (Un O A) H r.d v
  | true => ∃ a, v = .ref a ∧ ¬ O a ∧ RelEnv K (fun b => O b ∨ b = a) A σ H env ∧ Top K (Un (fun b => O b ∨ b = a) A) H r.d a
/-- what a result's own object is -/
def frA (r : R) (v : V) (b : Addr) : Prop := r.fr = true ∧ v = .ref b
section
variable {K : PySem.W.Frag} {O O' : Addr → Prop} {A A' : Ow} {σ σ' : L2.St} {H H1 H' : Hp} {env env' : Env} {r : R} {v : V} {i : Nat} {own : Bool}
theorem Res.toV (hr : Res K O A σ H H' env r v) (hO : ∀ b, O b → H b ≠ none) : ResV K O A σ H' env r v := by
  unfold Res at hr
  unfold ResV
  cases w : r.fr with
  | false => rw [w] at hr; exact hr
  | true =>
    rw [w] at hr
    obtain ⟨a, e, hn, x⟩ := hr
    exact ⟨a, e, fun z => hO a z hn, x⟩
theorem ResV.rel (hr : ResV K O A σ H env r v) : RelEnv K (fun b => O b ∨ frA r v b) A σ H env := by
  unfold ResV at hr
  unfold frA
  cases w : r.fr with
  | false => rw [w] at hr; exact hr.1.weaken fun b z => z.elim id fun z => nomatch z.1
  | true =>
    rw [w] at hr
    obtain ⟨a, rfl, _, R1, _⟩ := hr
    exact R1.weaken fun b z => z.imp id fun z => (V.ref.inj z.2).symm
/-- carried to another state: what it leans on stays -/
theorem ResV.move (hr : ResV K O A σ H env r v) {W : Addr → Prop} (hF : ∀ b o, H b = some o → ¬ W b → H' b = some o) (hW : ∀ b, W b → Un (fun b => O b ∨ frA r v b) A b ∧ ¬ (O b ∨ frA r v b) ∧ Wr (H b))
    (hO : ∀ b, O' b → O b ∨ H b = none) (hA : ∀ k a, A' k = some a → A k = some a ∨ H a = none ∨ O a) (R2 : RelEnv K (fun b => O' b ∨ frA r v b) A' σ' H' env') : ResV K O' A' σ' H' env' r v := by
  unfold ResV at hr ⊢
  unfold frA at hW R2
  have hU : ∀ (f : Addr → Prop) b, Un (fun b => O' b ∨ f b) A' b → Un (fun b => O b ∨ f b) A b ∨ H b = none := fun f b u => by
    rcases u with (u | u) | ⟨k, u⟩
    · rcases hO b u with z | z
      · exact .inl (.inl (.inl z))
      · exact .inr z
    · exact .inl (.inl (.inr u))
    · rcases hA k b u with z | z | z
      · exact .inl (.inr ⟨k, z⟩)
      · exact .inr z
      · exact .inl (.inl (.inl z))
  cases w : r.fr with
  | false =>
    rw [w] at hr R2 hW
    refine ⟨R2.weaken fun b z => .inl z, Rep.step (W := W) hF (fun b z => ?_) (fun b u => ?_) _ _ hr.2⟩
    · obtain ⟨u, _, y⟩ := hW b z
      exact ⟨u.imp (fun z => z.elim id fun z => nomatch z.1) id, y⟩
    · rcases u with u | ⟨k, u⟩
      · rcases hO b u with z | z
        · exact .inl (.inl z)
        · exact .inr z
      · rcases hA k b u with z | z | z
        · exact .inl (.inr ⟨k, z⟩)
        · exact .inr z
        · exact .inl (.inl z)
  | true =>
    rw [w] at hr R2 hW
    obtain ⟨a, rfl, hn, R1, t⟩ := hr
    have ha : H a ≠ none := (R1.ob a (.inr rfl)).1
    refine ⟨a, rfl, fun z => ?_, R2.weaken fun b z => z.imp id fun z => ⟨rfl, by rw [z]⟩, t.step (W := W) hF (fun b z => ?_) (fun b u => ?_) fun z => ?_⟩
    · rcases hO a z with z | z
      · exact hn z
      · exact ha z
    · obtain ⟨u, _, y⟩ := hW b z
      refine ⟨u.imp (fun z => z.imp id fun z => (V.ref.inj z.2).symm) id, y⟩
    · exact hU (fun b => b = a) b u
    · exact (hW a z).2.1 (.inr ⟨rfl, rfl⟩)
theorem store_core (hr : ResV K O A σ H env r v) (e : storeSl own i r env = some env') : ∃ A', RelEnv K O A' (σ.set i (some v)) H env' ∧ (∀ k, k ≠ i → A' k = A k) ∧ ∀ k a, A' k = some a → A k = some a ∨ frA r v a := by
  unfold storeSl at e
  split at e
  · rename_i hl
    cases own with
    | false =>
      rw [if_neg Bool.false_ne_true] at e
      cases e
      have hb : RelEnv K O A σ H env ∧ Rep K (Un O A) H r.d v := by
        unfold ResV at hr
        cases w : r.fr with
        | false => rw [w] at hr; exact hr
        | true =>
          rw [w] at hr
          obtain ⟨a, rfl, hn, R1, t⟩ := hr
          refine ⟨R1.weaken fun _ z => .inl z, Top.rep (t.step (W := fun _ => False) (fun _ _ e _ => e) (fun _ z => z.elim) (fun b u => .inl (Un.mono (fun _ z => .inl z) u)) fun z => z) fun u => ?_⟩
          rcases u with u | ⟨k, u⟩
          · exact hn u
          · exact (R1.ob a (.inr rfl)).2 k u
      exact ⟨off A i, hb.1.setAny hl hb.2, fun k hk => by unfold off; rw [if_neg hk], fun k a z => .inl (off_some z).1⟩
    | true =>
      rw [if_pos rfl] at e
      split at e
      · rename_i hf
        cases e
        unfold ResV at hr
        rw [hf] at hr
        obtain ⟨a, rfl, hn, R1, t⟩ := hr
        refine ⟨on A i a, R1.setOwn hl hn t, fun k hk => by unfold on; rw [if_neg hk], fun k b z => ?_⟩
        rcases on_some z with ⟨_, y⟩ | ⟨_, y⟩
        · exact .inr ⟨hf, by rw [y]⟩
        · exact .inl y
      · cases e
  · cases e
end
section
variable {X : Cx} {lk : List Nat} {pos : Pos} {i j : Nat} {x y : Str} {a b : Expr} {px py pt : Pos} {kt k2 : Nat} {pt2 : Pos} {fa fb : Env → Option (R × Env)}
theorem ds_par (hN : X.N.Nodup) (i : Nat) (oi : Bool) (j : Nat) (oj : Bool) (ha : DE X a fa) (hb : DE X b fb) (hc : X.calm = true := by rfl) (hi : X.N[i]? = some x := by rfl) (hj : X.N[j]? = some y := by rfl) (hij : i ≠ j := by decide) (hx : X.env.scope.names.lookup x = some .local := by rfl) (hy : X.env.scope.names.lookup y = some .local := by rfl)
    (hs1 : starEach [a, b] X.env = (false, eval a X.env) :: starEach [b] X.env := by rfl) (hs2 : starEach [b] X.env = (false, eval b X.env) :: starEach [] X.env := by rfl)
    (hw : swappedStores [.Tuple [.Name x px, .Name y py] kt pt] (.Tuple [a, b] k2 pt2) X.env = pure (some [x, y]) := by rfl) (hs : swapsWithSole [.Tuple [.Name x px, .Name y py] kt pt] (.Tuple [a, b] k2 pt2) pos.line X.env = pure false := by rfl) (hli : i ∉ lk := by decide) (hlj : j ∉ lk := by decide) :
    DS X lk (.Assign [.Tuple [.Name x px, .Name y py] kt pt] (.Tuple [a, b] k2 pt2) pos) (cPar i oi fa j oj fb) := ps_imp (ps_par hc hN hi hj hij hx hy (pa_cons ha (pa_cons hb pa_nil hs2) hs1) hw hs) fun Dn σ H h => by
  obtain ⟨O, A, env, out, R, e, q⟩ := h
  simp only [cPar, Option.bind_eq_bind, Option.bind_eq_some_iff] at e
  obtain ⟨⟨ra, env1⟩, e1, ⟨rb, env2⟩, e2, env3, e3, env4, e4, e5⟩ := e
  cases e5
  refine ⟨O, A, env, ra, env1, R, e1, fun v H1 F1 h1 => ?_⟩
  have v1 := h1.toV fun b z => (R.ob b z).1
  refine ⟨_, A, env1, rb, env2, v1.rel, e2, fun w H2 F2 h2 => ⟨v, w, rfl, ?_⟩⟩
  have v2 := h2.toV fun b z => (v1.rel.ob b z).1
  have nA : ∀ b, H1 b = none → H b = none := fun b z => Classical.byContradiction fun n => F1.more b n z
  have fa1 : ∀ c, frA ra v c → H c = none := fun c z => by
    unfold Res at h1
    rw [z.1] at h1
    obtain ⟨a, e, hn, _⟩ := h1
    rw [e] at z
    rw [← V.ref.inj z.2]
    exact hn
  have fb1 : ∀ c, frA rb w c → H1 c = none := fun c z => by
    unfold Res at h2
    rw [z.1] at h2
    obtain ⟨a, e, hn, _⟩ := h2
    rw [e] at z
    rw [← V.ref.inj z.2]
    exact hn
  -- the first result, where both have come
  have va : ResV X.K (fun c => O c ∨ frA rb w c) A σ H2 env2 ra v := v1.move (W := fun b => ∃ i, A i = some b) F2.hF (fun c ⟨k, z⟩ => ⟨.inr ⟨k, z⟩, fun n => (v1.rel.ob c n).2 k z, v1.rel.owWr z⟩) (fun c z => z.imp id (fb1 c)) (fun k c z => .inl z) (v2.rel.weaken fun c z => by
    rcases z with (z | z) | z
    · exact .inl (.inl z)
    · exact .inr z
    · exact .inl (.inr z))
  obtain ⟨A1, R3, k3, g3⟩ := store_core va e3
  have vb : ResV X.K O A1 (σ.set i (some v)) H2 env3 rb w := v2.move (W := fun _ => False) (fun _ _ e _ => e) (fun _ z => z.elim) (fun c z => .inl (.inl z)) (fun k c z => by
    rcases g3 k c z with z | z
    · exact .inl z
    · exact .inr (.inr (.inr z))) R3
  obtain ⟨A2, R4, k4, g4⟩ := store_core vb e4
  refine q _ H2 A2 ⟨F1.trans F2, fun k c z => ?_, fun k hk => ?_⟩ R4
  · rcases g4 k c z with z | z
    · rcases g3 k c z with z | z
      · exact .inl z
      · exact .inr (fa1 c z)
    · exact .inr (nA c (fb1 c z))
  · rw [k4 k fun z => hlj (by rw [← z]; exact hk), k3 k fun z => hli (by rw [← z]; exact hk)]
end

/-! ### x[::-1] -/
section
variable {X : Cx} {a : Expr} {oa : Opn}
theorem de_rev {k : Nat} {p1 p2 p3 pos : Pos} (ha : Opd X a oa) : DE X (.Subscript a (.Slice none none (some (.UnaryOp .USub (.Constant (.int 1) k p1) p2)) p3) pos) (cP gRev [oa]) := pe_imp (pe_revL ha) fun σ H Q h => by
  have h1 := vr_fold (K := X.K) (r := fun vs H Q => match vs with | [v] => (∃ a xs, v = .ref a ∧ SqL X.K H a xs ∧ ∀ p, H p = none → Q (.ref p) (upd H p (.lst xs.reverse))) | _ => False) (fun U H ds vs fl rr Q rt rf e q => ?_) h
  · exact h1
  · unfold gRev at e
    split at e
    · cases e
      obtain ⟨v, _, rfl, ⟨a, xs, rfl, hs, hr⟩, r3⟩ := rt
      simp only [RepTs] at r3
      subst r3
      refine ⟨a, xs, rfl, SqL.of hs, fun p hp => q _ _ (same_upd' hp) (RRes.newL ?_ hp)⟩
      have hl := Reps.len _ _ hr
      refine Reps.of_all (by simp [hl]) fun i d x e1 e2 => ?_
      have hi : i < xs.reverse.length := (List.getElem?_eq_some_iff.mp e2).1
      rw [List.length_reverse] at hi
      rw [List.getElem?_reverse (by omega)] at e1
      rw [List.getElem?_reverse hi] at e2
      rw [← hl] at e1
      obtain ⟨x', e3, r⟩ := hr.get e1
      rw [e2] at e3
      cases e3
      exact r
    · cases e
end

/-! ### c.count(x), c.index(x) -/
section
variable {X : Cx} {K : PySem.W.Frag}
/-- a method of a list or a tuple, one argument: the rule by the receiver's type -/
def rMt (K : PySem.W.Frag) (g : Bool → List D → Option R) : List V → Hp → VK → Prop := fun vs H Q => ∃ (U : Addr → Prop) (ds : List D) (fl : Bool) (rr : R), RepTs K U H ds vs ∧ (fl = false → Reps K U H ds vs) ∧ g fl ds = some rr ∧ ∀ v H', Same H H' → RRes K U H H' rr v → Q v H'
end
end DL

namespace DL
open PySem PySem.Spec PyProof.Rows L2
/-- what is promised of nothing -/
theorem fn_none {P : Program} {w : World} {K : PySem.W.Frag} {mg : Str → Option Value} {base : Heap} {k : Nat} {f : Addr} {fd : FuncData} {ps : List Str} {m : Bool} : FnOk P w K mg base CX0 k f fd ps (spD K m fun _ => none) :=
  ⟨fun vs H Q E ⟨_, _, _, _, _, e, _⟩ => (nomatch e), fun A outer s H args us vs Q E _ _ _ _ ⟨_, _, _, _, _, e, _⟩ => nomatch e⟩
end DL

namespace DL
open PySem PySem.Spec PyProof.Rows L2
/-! ### the module's constants, the law's own head -/
mutual
def repK (K : PySem.W.Frag) : D → Value → Bool
  | .non, .none => true
  | .bl b, .bool c => b == c
  | .int i, .int j _ => i == j
  | .str x, .str y _ => x == y
  | .tup ds, .ref a => match K.lookup a with
    | some o => match o.cls, o.data with
      | .type n, .seq its _ => (n == "tuple") && decide (its.size ≤ sizeLine) && repKs K ds its.toList
      | _, _ => false
    | none => false
  | _, _ => false
def repKs (K : PySem.W.Frag) : List D → List Value → Bool
  | [], [] => true
  | d :: ds, u :: us => repK K d u && repKs K ds us
  | _, _ => false
end
mutual
theorem repK_ok {K : PySem.W.Frag} : ∀ (d : D) (u : Value), repK K d u = true → ∃ v, RelV v u ∧ ∀ U H, Rep K U H d v
  | .non, u, h => by
    cases u <;> simp [repK] at h
    exact ⟨.non, rfl, fun _ _ => by simp only [Rep]⟩
  | .bl b, u, h => by
    cases u <;> simp [repK] at h
    exact ⟨.bl b, by rw [h]; rfl, fun _ _ => by simp only [Rep]⟩
  | .int i, u, h => by
    cases u <;> simp [repK] at h
    exact ⟨.int i, ⟨_, by rw [h]⟩, fun _ _ => by simp only [Rep]⟩
  | .str x, u, h => by
    cases u <;> simp [repK] at h
    exact ⟨.str x, ⟨_, by rw [h]⟩, fun _ _ => by simp only [Rep]⟩
  | .lst xs, u, h => by cases u <;> simp [repK] at h
  | .dct xs ys, u, h => by cases u <;> simp [repK] at h
  | .scr ns, u, h => by cases u <;> simp [repK] at h
  | .tup ds, u, h => by
    cases u with
    | ref a =>
      simp only [repK] at h
      cases w : K.lookup a with
      | none => rw [w] at h; cases h
      | some o =>
        rw [w] at h
        dsimp only at h
        split at h
        · rename_i n its k ec ed
          rw [Bool.and_eq_true, Bool.and_eq_true] at h
          obtain ⟨vs, hv, hr⟩ := repKs_ok ds its.toList h.2
          refine ⟨.ref a, rfl, fun U H => ?_⟩
          simp only [Rep]
          exact ⟨a, vs, rfl, .inr ⟨o, its, k, w, by rw [ec, beq_iff_eq.mp h.1.1], ed, of_decide_eq_true h.1.2, hv⟩, hr U H⟩
        · cases h
    | _ => simp [repK] at h
theorem repKs_ok {K : PySem.W.Frag} : ∀ (ds : List D) (us : List Value), repKs K ds us = true → ∃ vs, Vals vs us ∧ ∀ U H, Reps K U H ds vs
  | [], us, h => by
    cases us <;> simp [repKs] at h
    exact ⟨[], .nil, fun _ _ => by simp only [Reps]⟩
  | d :: ds, us, h => by
    cases us with
    | nil => simp [repKs] at h
    | cons u us =>
      simp only [repKs, Bool.and_eq_true] at h
      obtain ⟨v, r, hr⟩ := repK_ok d u h.1
      obtain ⟨vs, rs, hrs⟩ := repKs_ok ds us h.2
      exact ⟨v :: vs, .cons r rs, fun U H => by simp only [Reps]; exact ⟨v, vs, rfl, hr U H, hrs U H⟩⟩
end
/-- a name of the module's dict that holds a constant -/
def gcB (K : PySem.W.Frag) (x : Str) (d : D) : Bool := match PySem.W.nsIn K mainGlobals x with
  | some (some u) => repK K d u
  | _ => false
theorem gc_of {K : PySem.W.Frag} {h : Heap} {mg : Str → Option Value} {x : Str} {d : D} (X : K.In h) (G : h.Ns mainGlobals mg) (e : gcB K x d = true) : GC K mg x d := by
  unfold gcB at e
  split at e
  · rename_i u w
    obtain ⟨v, r, hr⟩ := repK_ok d u e
    exact ⟨u, v, PySem.W.mg_of X G w, r, hr⟩
  · cases e
theorem law_start {K : PySem.W.Frag} {H : Hp} {a : Addr} {ns : List Int} {F : FD} {fr : Bool} {d : D} (ho : Only H) (hS : SqL K H a (ns.map V.int)) (hF : F [.scr ns] = some (⟨.bl true, fr⟩, d)) : spD K false F [V.ref a] H (fun v _ => v = .bl true) fun _ _ _ => False := by
  refine ⟨fun _ => False, [.scr ns], ⟨.bl true, fr⟩, d, fun _ z => z.elim, hF, rfl, ?_, fun v H' _ hr => ?_⟩
  · simp only [Reps, Rep]
    refine ⟨.ref a, [], rfl, ⟨a, rfl, ?_⟩, rfl⟩
    rcases hS with h | h
    · rcases ho a with z | ⟨o, xs, z⟩
      · rcases h with h | ⟨o, h⟩ <;> (rw [z] at h; cases h)
      · rcases h with h | ⟨o', h⟩ <;> rw [z] at h
        · cases h
        · cases h
          exact .inl ⟨_, z⟩
    · exact .inr fun H' => .inr h
  · cases fr with
    | false => simpa only [RRes, Rep] using hr
    | true =>
      obtain ⟨b, _, _, t⟩ := hr
      exact t.elim
end DL

namespace DL
open PySem PySem.Spec PyProof.Rows L2
/-! ### readings at plain data -/
theorem eqv_int (i j : Int) : PyData.eqv (.int i) (.int j) = decide (i = j) := by simp [PyData.eqv]; rfl
theorem eqv_str (i j : Str) : PyData.eqv (.str i) (.str j) = decide (i = j) := by
  simp only [PyData.eqv]
  by_cases h : i = j
  · subst h; simp
  · simp [h]
theorem gEq_int (fl : Bool) (i j : Int) : gEq fl [.int i, .int j] = some (RB (decide (i = j))) := by simp [gEq, g2, okEb, okd, toP, eqv_int]
theorem gNe_int (fl : Bool) (i j : Int) : gNe fl [.int i, .int j] = some (RB (decide (i ≠ j))) := by simp [gNe, g2, okEb, okd, toP, eqv_int]
theorem gEq_str (fl : Bool) (i j : Str) : gEq fl [.str i, .str j] = some (RB (decide (i = j))) := by simp [gEq, g2, okEb, okd, toP, eqv_str]
theorem gNe_str (fl : Bool) (i j : Str) : gNe fl [.str i, .str j] = some (RB (decide (i ≠ j))) := by simp [gNe, g2, okEb, okd, toP, eqv_str]
theorem gLt_int (fl : Bool) (i j : Int) : gLt fl [.int i, .int j] = some (RB (decide (i < j))) := by simp [gLt, g2, okLb, okd, toP, PySem.W.alike, PySem.W.dataLt_int]
theorem gGt_int (fl : Bool) (i j : Int) : gGt fl [.int i, .int j] = some (RB (decide (i > j))) := by simp [gGt, g2, okLb, okd, toP, PySem.W.alike, PySem.W.dataLt_int]
theorem gLe_int (fl : Bool) (i j : Int) : gLe fl [.int i, .int j] = some (RB (decide (i ≤ j))) := by simp [gLe, g2, okLb, okd, toP, PySem.W.alike, PySem.W.dataLt_int]; by_cases h : i ≤ j <;> simp [h] <;> omega
theorem gGe_int (fl : Bool) (i j : Int) : gGe fl [.int i, .int j] = some (RB (decide (i ≥ j))) := by simp [gGe, g2, okLb, okd, toP, PySem.W.alike, PySem.W.dataLt_int]; by_cases h : j ≤ i <;> simp [h] <;> omega
theorem gLt_str (fl : Bool) (i j : Str) : gLt fl [.str i, .str j] = some (RB (decide (i.cps.toList < j.cps.toList))) := by simp [gLt, g2, okLb, okd, toP, PySem.W.alike, PySem.W.dataLt_str]
theorem gGt_str (fl : Bool) (i j : Str) : gGt fl [.str i, .str j] = some (RB (decide (j.cps.toList < i.cps.toList))) := by simp [gGt, g2, okLb, okd, toP, PySem.W.alike, PySem.W.dataLt_str]
theorem cut_drop {α : Type} (xs : List α) (k : Nat) : cut xs (some (k : Int)) none = xs.drop k := by
  unfold cut
  rw [HT.sIx_nat]
  show (xs.drop (min k xs.length)).take (xs.length - min k xs.length) = xs.drop k
  by_cases h : k ≤ xs.length
  · rw [Nat.min_eq_left h]
    exact List.take_of_length_le (by rw [List.length_drop]; exact Nat.le_refl _)
  · rw [List.drop_of_length_le (show xs.length ≤ k by omega), List.drop_of_length_le (show xs.length ≤ min k xs.length by omega), List.take_nil]
theorem cut_take {α : Type} (xs : List α) (k : Nat) : cut xs none (some (k : Int)) = xs.take k := by
  unfold cut
  rw [HT.sIx_nat]
  show (xs.drop 0).take (min k xs.length - 0) = xs.take k
  rw [List.drop_zero, Nat.sub_zero]
  by_cases h : k ≤ xs.length
  · rw [Nat.min_eq_left h]
  · rw [List.take_of_length_le (show xs.length ≤ k by omega), List.take_of_length_le (by omega)]
/-- a slot that may be written -/
def Fv (s : Sl) : Prop := s = .no ∨ ∃ d, s = .sh d
theorem Fv.no : Fv .no := .inl rfl
theorem Fv.sh (d : D) : Fv (.sh d) := .inr ⟨d, rfl⟩
theorem setSh_fv {i : Nat} {d : D} {env : Env} {s : Sl} (h : env[i]? = some s) (hs : Fv s) : setSh i d env = some (env.set i (.sh d)) := by
  unfold setSh
  rcases hs with rfl | ⟨x, rfl⟩ <;> rw [h]
theorem enum_at {rs pre post : List D} {d : D} (h : pre ++ d :: post = enumD 0 rs) : ∃ x, rs[pre.length]? = some x ∧ d = .tup [.int (pre.length : Nat), x] := by
  have h1 : (enumD 0 rs)[pre.length]? = some d := by rw [← h]; simp
  obtain ⟨x, h2, h3⟩ := enumD_get 0 rs pre.length d h1
  exact ⟨x, h2, by rw [h3, Nat.zero_add]⟩
theorem rng_at {i : Int} {n : Nat} {pre post : List D} {d : D} (h : pre ++ d :: post = rng i n) : pre.length < n ∧ d = .int (i + (pre.length : Nat)) := by
  have h1 : (rng i n)[pre.length]? = some d := by rw [← h]; simp
  unfold rng at h1
  rw [List.getElem?_map] at h1
  by_cases hk : pre.length < n
  · rw [List.getElem?_range hk] at h1
    exact ⟨hk, (Option.some.inj h1).symm⟩
  · rw [List.getElem?_eq_none (by rw [List.length_range]; omega)] at h1
    cases h1
theorem pre_sld (d : D) (e : Env) : sld (.sh d :: e) 0 = some (d, false) := by simp only [sld, List.getElem?_cons_zero]
theorem pre_own (ds : List D) (e : Env) : ownL (.ow (.lst ds) :: e) 0 = some ds := by simp only [ownL, List.getElem?_cons_zero]
theorem gAdd_int (fl : Bool) (i j : Int) : gAdd fl [.int i, .int j] = some (RI (i + j)) := rfl
theorem gSub_int (fl : Bool) (i j : Int) : gSub fl [.int i, .int j] = some (RI (i - j)) := rfl
theorem gMod_int (fl : Bool) (i j : Int) (h : 0 < j) : gMod fl [.int i, .int j] = some (RI (i % j)) := by simp [gMod, gI2, h]
theorem gDiv_int (fl : Bool) (i j : Int) (h : 0 < j) (h' : j < 1073741824) : gDiv fl [.int i, .int j] = some (RI (i / j)) := by simp [gDiv, gI2, okDiv, h, h']
theorem cSeq_nx {f g : Env → Option Out} {env e : Env} (h : f env = some (.nx e)) : cSeq f g env = g e := by simp only [cSeq, h]
theorem cSeq_ret {f g : Env → Option Out} {env e : Env} {r : R} (h : f env = some (.ret r e)) : cSeq f g env = some (.ret r e) := by simp only [cSeq, h]
theorem cIte_t {α : Type} {c : Env → Option (Bool × Env)} {f g : Env → Option α} {env e : Env} (h : c env = some (true, e)) : cIte c f g env = f e := by simp [cIte, h]
theorem cIte_f {α : Type} {c : Env → Option (Bool × Env)} {f g : Env → Option α} {env e : Env} (h : c env = some (false, e)) : cIte c f g env = g e := by simp [cIte, h]
theorem at_nat {α : Type} (xs : List α) (k : Nat) : atI xs (k : Int) = xs[k]? := by
  unfold atI ixN
  by_cases h : k < xs.length
  · simp [h]
  · simp [h, List.getElem?_eq_none (Nat.le_of_not_lt h)]
theorem at_m1 {α : Type} (xs : List α) (x : α) : atI (xs ++ [x]) (-1) = some x := atI_last xs x
theorem at_0 {α : Type} (x0 : α) (xs : List α) : atI (x0 :: xs) 0 = some x0 := (at_nat _ 0).trans rfl
theorem at_1 {α : Type} (x0 x1 : α) (xs : List α) : atI (x0 :: x1 :: xs) 1 = some x1 := (at_nat _ 1).trans rfl
theorem at_2 {α : Type} (x0 x1 x2 : α) (xs : List α) : atI (x0 :: x1 :: x2 :: xs) 2 = some x2 := (at_nat _ 2).trans rfl
theorem at_3 {α : Type} (x0 x1 x2 x3 : α) (xs : List α) : atI (x0 :: x1 :: x2 :: x3 :: xs) 3 = some x3 := (at_nat _ 3).trans rfl
theorem at_4 {α : Type} (x0 x1 x2 x3 x4 : α) (xs : List α) : atI (x0 :: x1 :: x2 :: x3 :: x4 :: xs) 4 = some x4 := (at_nat _ 4).trans rfl
theorem at_5 {α : Type} (x0 x1 x2 x3 x4 x5 : α) (xs : List α) : atI (x0 :: x1 :: x2 :: x3 :: x4 :: x5 :: xs) 5 = some x5 := (at_nat _ 5).trans rfl
theorem at_6 {α : Type} (x0 x1 x2 x3 x4 x5 x6 : α) (xs : List α) : atI (x0 :: x1 :: x2 :: x3 :: x4 :: x5 :: x6 :: xs) 6 = some x6 := (at_nat _ 6).trans rfl
theorem at_7 {α : Type} (x0 x1 x2 x3 x4 x5 x6 x7 : α) (xs : List α) : atI (x0 :: x1 :: x2 :: x3 :: x4 :: x5 :: x6 :: x7 :: xs) 7 = some x7 := (at_nat _ 7).trans rfl
theorem at_8 {α : Type} (x0 x1 x2 x3 x4 x5 x6 x7 x8 : α) (xs : List α) : atI (x0 :: x1 :: x2 :: x3 :: x4 :: x5 :: x6 :: x7 :: x8 :: xs) 8 = some x8 := (at_nat _ 8).trans rfl
theorem at_9 {α : Type} (x0 x1 x2 x3 x4 x5 x6 x7 x8 x9 : α) (xs : List α) : atI (x0 :: x1 :: x2 :: x3 :: x4 :: x5 :: x6 :: x7 :: x8 :: x9 :: xs) 9 = some x9 := (at_nat _ 9).trans rfl
theorem at_10 {α : Type} (x0 x1 x2 x3 x4 x5 x6 x7 x8 x9 x10 : α) (xs : List α) : atI (x0 :: x1 :: x2 :: x3 :: x4 :: x5 :: x6 :: x7 :: x8 :: x9 :: x10 :: xs) 10 = some x10 := (at_nat _ 10).trans rfl
theorem at_11 {α : Type} (x0 x1 x2 x3 x4 x5 x6 x7 x8 x9 x10 x11 : α) (xs : List α) : atI (x0 :: x1 :: x2 :: x3 :: x4 :: x5 :: x6 :: x7 :: x8 :: x9 :: x10 :: x11 :: xs) 11 = some x11 := (at_nat _ 11).trans rfl
theorem at_12 {α : Type} (x0 x1 x2 x3 x4 x5 x6 x7 x8 x9 x10 x11 x12 : α) (xs : List α) : atI (x0 :: x1 :: x2 :: x3 :: x4 :: x5 :: x6 :: x7 :: x8 :: x9 :: x10 :: x11 :: x12 :: xs) 12 = some x12 := (at_nat _ 12).trans rfl
theorem at_13 {α : Type} (x0 x1 x2 x3 x4 x5 x6 x7 x8 x9 x10 x11 x12 x13 : α) (xs : List α) : atI (x0 :: x1 :: x2 :: x3 :: x4 :: x5 :: x6 :: x7 :: x8 :: x9 :: x10 :: x11 :: x12 :: x13 :: xs) 13 = some x13 := (at_nat _ 13).trans rfl
theorem at_14 {α : Type} (x0 x1 x2 x3 x4 x5 x6 x7 x8 x9 x10 x11 x12 x13 x14 : α) (xs : List α) : atI (x0 :: x1 :: x2 :: x3 :: x4 :: x5 :: x6 :: x7 :: x8 :: x9 :: x10 :: x11 :: x12 :: x13 :: x14 :: xs) 14 = some x14 := (at_nat _ 14).trans rfl
theorem at_15 {α : Type} (x0 x1 x2 x3 x4 x5 x6 x7 x8 x9 x10 x11 x12 x13 x14 x15 : α) (xs : List α) : atI (x0 :: x1 :: x2 :: x3 :: x4 :: x5 :: x6 :: x7 :: x8 :: x9 :: x10 :: x11 :: x12 :: x13 :: x14 :: x15 :: xs) 15 = some x15 := (at_nat _ 15).trans rfl
theorem ix_nat (n k : Nat) : ixN n (k : Int) = if k < n then some k else none := by
  unfold ixN
  by_cases h : k < n
  · simp [h]
  · simp [h]
theorem ix_lit (n k : Nat) : ixN n (OfNat.ofNat k : Int) = if k < n then some k else none := ix_nat n k
theorem ix_4_0 : ixN 4 0 = some 0 := rfl
theorem ix_4_1 : ixN 4 1 = some 1 := rfl
theorem ix_4_2 : ixN 4 2 = some 2 := rfl
theorem ix_4_3 : ixN 4 3 = some 3 := rfl
theorem runB_of {N n : Nat} {m : Bool} {body : Env → Option Out} {ds : List D} {o : Out} {q : R × D} (h : ds.length = n) (hb : body (env0 N m ds) = some o) (ho : outB m o = some q) : runB N n m body ds = some q := by
  unfold runB
  rw [if_pos h, hb]
  exact ho
/-- it ends well, and so -/
def W {α : Type} (x : Option α) (Q : α → Prop) : Prop := ∃ o, x = some o ∧ Q o
section
variable {f g : Env → Option Out} {env e : Env} {Q : Out → Prop} {b : Bool} {c : Env → Option (Bool × Env)} {fe : Env → Option (R × Env)} {r : R}
theorem W.imp {α : Type} {x : Option α} {Q Q' : α → Prop} (h : W x Q) (q : ∀ a, Q a → Q' a) : W x Q' := h.elim fun o h => ⟨o, h.1, q o h.2⟩
theorem w_run {N n : Nat} {m : Bool} {body : Env → Option Out} {ds : List D} {P : R × D → Prop} (h : ds.length = n) (hb : W (body (env0 N m ds)) fun o => W (outB m o) P) : W (runB N n m body ds) P := by
  obtain ⟨o, e1, q, e2, p⟩ := hb
  exact ⟨q, runB_of h e1 e2, p⟩
theorem w_nx (h : f env = some (.nx e)) (k : W (g e) Q) : W (cSeq f g env) Q := by
  obtain ⟨o, e1, q⟩ := k
  exact ⟨o, (cSeq_nx h).trans e1, q⟩
theorem w_seq (h : W (f env) fun o => match o with
    | .nx e => W (g e) Q
    | o => Q o) : W (cSeq f g env) Q := by
  obtain ⟨o, e1, q⟩ := h
  cases o with
  | nx e =>
    obtain ⟨o, e2, q⟩ := q
    exact ⟨o, (cSeq_nx e1).trans e2, q⟩
  | ret r e => exact ⟨_, cSeq_ret e1, q⟩
  | bk e => exact ⟨_, by simp only [cSeq, e1], q⟩
  | ct e => exact ⟨_, by simp only [cSeq, e1], q⟩
theorem w_ite (h : c env = some (b, e)) (k1 : b = true → W (f e) Q) (k2 : b = false → W (g e) Q) : W (cIte c f g env) Q := by
  cases b with
  | true =>
    obtain ⟨o, e1, q⟩ := k1 rfl
    exact ⟨o, (cIte_t h).trans e1, q⟩
  | false =>
    obtain ⟨o, e1, q⟩ := k2 rfl
    exact ⟨o, (cIte_f h).trans e1, q⟩
theorem w_it (h : c env = some (true, e)) (k1 : W (f e) Q) : W (cIte c f g env) Q := w_ite h (fun _ => k1) fun z => nomatch z
theorem w_if (h : c env = some (false, e)) (k1 : W (g e) Q) : W (cIte c f g env) Q := w_ite h (fun z => nomatch z) fun _ => k1
theorem w_ret (h : fe env = some (r, e)) (q : Q (.ret r e)) : W (cRet fe env) Q := ⟨_, by simp [cRet, h], q⟩
theorem w_st (h : f env = some (.nx e)) (q : Q (.nx e)) : W (f env) Q := ⟨_, h, q⟩
theorem w_nop (q : Q (.nx env)) : W (cNx env) Q := ⟨_, rfl, q⟩
/-- a loop -/
theorem w_for {it : Env → Option (List D × Env)} {gt : D → Env → Option Env} {ds : List D} (I : List D → List D → Env → Prop) (hi : it env = some (ds, e)) (h0 : I [] ds e)
    (hs : ∀ pre d post e, pre ++ d :: post = ds → I pre (d :: post) e → ∃ e1, gt d e = some e1 ∧ W (f e1) fun o => match o with
      | .nx e => I (pre ++ [d]) post e
      | .ct e => I (pre ++ [d]) post e
      | .bk e => Q (.nx e)
      | o => Q o) (hq : ∀ e, I ds [] e → Q (.nx e)) : W (cFor it gt f env) Q := by
  have main : ∀ (post pre : List D) (e : Env), pre ++ post = ds → I pre post e → W (forL gt f post e) Q := by
    intro post
    induction post with
    | nil =>
      intro pre e hp hI
      rw [List.append_nil] at hp
      subst hp
      exact ⟨_, rfl, hq e hI⟩
    | cons d post ih =>
      intro pre e hp hI
      obtain ⟨e1, h1, o, h2, q⟩ := hs pre d post e hp hI
      have hp2 : (pre ++ [d]) ++ post = ds := by rw [List.append_assoc]; exact hp
      unfold forL
      simp only [Option.bind_eq_bind, h1, h2, Option.bind_some]
      cases o with
      | nx e => exact ih _ _ hp2 q
      | ct e => exact ih _ _ hp2 q
      | bk e => exact ⟨_, rfl, q⟩
      | ret r e => exact ⟨_, rfl, q⟩
  obtain ⟨o, e1, q⟩ := main ds [] e rfl h0
  exact ⟨o, by simp only [cFor, hi, Option.bind_eq_bind, Option.bind_some]; exact e1, q⟩
/-- a comprehension: a walk of the things, with what it gives kept in an invariant -/
theorem lc_inv {vs : List Nat} {gt : D → Env → Option Env} {t : Env → Option (Bool × Env)} {fe : Env → Option (R × Env)} {ds0 : List D} (I : List D → List D → Env → Prop) (hl : ds0.length ≤ 1000000)
    (hs : ∀ pre d post acc e, pre ++ d :: post = ds0 → I pre acc e → ∃ e1 b e2, gt d e = some e1 ∧ t e1 = some (b, e2) ∧ match b with
      | true => ∃ r e3 e4, fe e2 = some (r, e3) ∧ wipeE vs e3 = some e4 ∧ I (pre ++ [d]) (acc ++ [r.d]) e4
      | false => ∃ e4, wipeE vs e2 = some e4 ∧ I (pre ++ [d]) acc e4) :
    ∀ (post pre acc : List D) (e : Env), pre ++ post = ds0 → acc.length ≤ pre.length → I pre acc e → ∃ acc' e', lcL vs gt t fe post acc e = some (acc', e') ∧ I ds0 acc' e' := by
  intro post
  induction post with
  | nil =>
    intro pre acc e hp _ hI
    rw [List.append_nil] at hp
    subst hp
    exact ⟨acc, e, rfl, hI⟩
  | cons d post ih =>
    intro pre acc e hp ha hI
    obtain ⟨e1, b, e2, h1, h2, h3⟩ := hs pre d post acc e hp hI
    have hp2 : (pre ++ [d]) ++ post = ds0 := by rw [List.append_assoc]; exact hp
    have hlt : acc.length < 1000000 := by
      have : (pre ++ d :: post).length ≤ 1000000 := by rw [hp]; exact hl
      simp at this
      omega
    unfold lcL
    simp only [Option.bind_eq_bind, h1, h2, Option.bind_some]
    cases b with
    | true =>
      obtain ⟨r, e3, e4, h4, h5, h6⟩ := h3
      simp only [if_true, h4, h5, Option.bind_some, hlt]
      exact ih (pre ++ [d]) _ _ hp2 (by simp; omega) h6
    | false =>
      obtain ⟨e4, h5, h6⟩ := h3
      simp only [Bool.false_eq_true, if_false, h5, Option.bind_some]
      exact ih (pre ++ [d]) _ _ hp2 (by simp; omega) h6
/-- the comprehension, its names free before it and behind it -/
theorem lc_run {vs : List Nat} {it : Env → Option (List D × Env)} {gt : D → Env → Option Env} {t : Env → Option (Bool × Env)} {fe : Env → Option (R × Env)} {ds0 : List D} {env e1 e2 : Env} (I : List D → List D → Env → Prop) (hi : it env = some (ds0, e1)) (hw : wipeE vs e1 = some e2) (h0 : I [] [] e2) (hl : ds0.length ≤ 1000000)
    (hs : ∀ pre d post acc e, pre ++ d :: post = ds0 → I pre acc e → ∃ e1 b e2, gt d e = some e1 ∧ t e1 = some (b, e2) ∧ match b with
      | true => ∃ r e3 e4, fe e2 = some (r, e3) ∧ wipeE vs e3 = some e4 ∧ I (pre ++ [d]) (acc ++ [r.d]) e4
      | false => ∃ e4, wipeE vs e2 = some e4 ∧ I (pre ++ [d]) acc e4) :
    ∃ acc' e', cLC vs it gt t fe env = some (⟨.lst acc', true⟩, backE vs e1 e') ∧ I ds0 acc' e' := by
  obtain ⟨acc, e', h1, h2⟩ := lc_inv I hl hs ds0 [] [] e2 rfl (Nat.le_refl _) h0
  exact ⟨acc, e', by simp only [cLC, hi, hw, h1, Option.bind_eq_bind, Option.bind_some], h2⟩
/-- a comprehension that changes nothing -/
theorem lc_map {vs : List Nat} {it : Env → Option (List D × Env)} {gt : D → Env → Option Env} {t : Env → Option (Bool × Env)} {fe : Env → Option (R × Env)} {ds0 : List D} {env e1 e2 : Env} (φ : D → Option D) (hi : it env = some (ds0, e1)) (hw : wipeE vs e1 = some e2) (hl : ds0.length ≤ 1000000)
    (hs : ∀ d, d ∈ ds0 → ∃ e3 b e4, gt d e2 = some e3 ∧ t e3 = some (b, e4) ∧ match b with
      | true => ∃ r e5, fe e4 = some (r, e5) ∧ wipeE vs e5 = some e2 ∧ φ d = some r.d
      | false => wipeE vs e4 = some e2 ∧ φ d = none) :
    cLC vs it gt t fe env = some (⟨.lst (ds0.filterMap φ), true⟩, backE vs e1 e2) := by
  obtain ⟨acc, e', h1, h2, h3⟩ := lc_run (fun pre acc e => acc = pre.filterMap φ ∧ e = e2) hi hw ⟨rfl, rfl⟩ hl (fun pre d post acc e hp ⟨ha, he⟩ => by
    subst he
    obtain ⟨e3, b, e4, g1, g2, g3⟩ := hs d (by rw [← hp]; simp)
    refine ⟨e3, b, e4, g1, g2, ?_⟩
    cases b with
    | true =>
      obtain ⟨r, e5, g4, g5, g6⟩ := g3
      exact ⟨r, e5, _, g4, g5, by simp [ha, g6], rfl⟩
    | false => exact ⟨_, g3.1, by simp [ha, g3.2], rfl⟩)
  rw [h1, h2, h3]
end
theorem gPow_int (fl : Bool) (i j : Int) (h : okPow i j = true) : gPow fl [.int i, .int j] = some (RI (i ^ j.toNat)) := by simp [gPow, gI2, h]
theorem gMul_int (fl : Bool) (i j : Int) (h : okMul i j = true) : gMul fl [.int i, .int j] = some (RI (i * j)) := by simp [gMul, h]
theorem okMul_r (i j : Int) (h : -(2 ^ 64) < j) (h' : j < 2 ^ 64) : okMul i j = true := by
  unfold okMul
  rw [decide_eq_true h, decide_eq_true h']
  simp
end DL

namespace DL
open PySem PySem.Spec PyProof.Rows L2
theorem leD_trans (a b c : D) (h1 : leD a b = true) (h2 : leD b c = true) : leD a c = true := by
  unfold leD at *
  rw [Bool.not_eq_true'] at *
  cases w : PySem.W.dataLt (toP c) (toP a) with
  | false => rfl
  | true =>
    rcases lex_negTrans (O := itemOrd) _ _ _ w with z | z
    · exact absurd (z.symm.trans h2) (by decide)
    · exact absurd (z.symm.trans h1) (by decide)
theorem leD_total (a b : D) : (leD a b || leD b a) = true := by
  unfold leD
  cases w : PySem.W.dataLt (toP b) (toP a) with
  | false => rfl
  | true =>
    cases w2 : PySem.W.dataLt (toP a) (toP b) with
    | false => rfl
    | true =>
      have := lex_trans (O := itemOrd) _ _ _ w w2
      rw [lex_irrefl] at this
      cases this
theorem leD_anti {a b : D} (h1 : leD a b = true) (h2 : leD b a = true) : PySem.W.keyToks (toP a) = PySem.W.keyToks (toP b) := by
  unfold leD at *
  rw [Bool.not_eq_true'] at *
  exact lex_total (O := itemOrd) _ _ h2 h1
theorem sort_unique {xs ys : List D} (hp : xs.Perm ys) (ha : ∀ a b, a ∈ xs → b ∈ xs → PySem.W.keyToks (toP a) = PySem.W.keyToks (toP b) → a = b) : xs.mergeSort leD = ys.mergeSort leD := by
  have p1 := List.mergeSort_perm xs leD
  have p2 := List.mergeSort_perm ys leD
  refine List.Perm.eq_of_pairwise (le := fun a b => leD a b = true) (fun a b h1 h2 l1 l2 => ha a b (p1.mem_iff.mp h1) (hp.mem_iff.mpr (p2.mem_iff.mp h2)) (leD_anti l1 l2)) (List.pairwise_mergeSort leD_trans leD_total xs) (List.pairwise_mergeSort leD_trans leD_total ys) (p1.trans (hp.trans p2.symm))
theorem sort_sorted {xs ys : List D} (hp : xs.Perm ys) (hs : ys.Pairwise fun a b => leD a b = true) (ha : ∀ a b, a ∈ xs → b ∈ xs → PySem.W.keyToks (toP a) = PySem.W.keyToks (toP b) → a = b) : xs.mergeSort leD = ys := by
  rw [sort_unique hp ha]
  exact List.mergeSort_of_pairwise hs
end DL

namespace KX
open PySem PySem.Spec PyProof.Rows L2 DL
def c_COLOURS : D := (.tup [(.str "red"), (.str "blue"), (.str "green"), (.str "black")])
def c_LETTERS : D := (.str "abcdefghijklmnopqrstuvwxyz")
def c_METALS : D := (.tup [(.str "gold"), (.str "silver")])
def c_STRIPES : D := (.tup [(.str "none"), (.str "pale"), (.str "fess"), (.str "bend"), (.str "cross")])
noncomputable def B_is_integer : DL.Env → Option Out :=
    (cRet (cAndV (cIsi "int" (.nm 0)) (cNotV (cIsi "bool" (.nm 0)))))
noncomputable def F_is_integer : FD := runB 1 1 false B_is_integer
noncomputable def B_is_number : DL.Env → Option Out :=
    (cRet (cAndV (cCall F_is_integer [(.nm 0)]) (cAndV (cP gGe [(.nm 0), (.nm 1)]) (cOrV (cP gIs [(.nm 2), (.ex (cC .non))]) (cP gLe [(.nm 0), (.nm 2)])))))
noncomputable def F_is_number : FD := runB 3 3 false B_is_number
noncomputable def B_is_name : DL.Env → Option Out :=
    (cSeq (cIte (cOr (cNot (cTr (.ex (cIsi "str" (.nm 0))))) (cNot (cBo (cChn gLe gLe (.ex (cC (.int 1))) (.ex (cP gLen [(.nm 0)])) (.ex (cC (.int 8)))))))
    (cRet (cC (.bl false)))
    cNx)
    (cRet (cP gAll [(.ex (cLC [1] (cIt (cNm 0)) (setSh 1) cYes (cP gIn [(.nm 1), (.ex (cC c_LETTERS))])))])))
noncomputable def F_is_name : FD := runB 2 1 false B_is_name
noncomputable def B_is_rising : DL.Env → Option Out :=
    (cRet (cP gAll [(.ex (cLC [1, 2] (cZip (.nm 0) (.ex (cP gSl10 [(.nm 0), (.ex (cC (.int 1)))]))) (gTupD 2 (gConsD (setSh 1) (gConsD (setSh 2) gNilD))) cYes (cP gLt [(.ex (cP gIx [(.nm 1), (.ex (cC (.int 0)))])), (.ex (cP gIx [(.nm 2), (.ex (cC (.int 0)))]))])))]))
noncomputable def F_is_rising : FD := runB 3 1 false B_is_rising
noncomputable def B_is_tincture : DL.Env → Option Out :=
    (cRet (cAndV (cIsi "str" (.nm 0)) (cP gIn [(.nm 0), (.ex (cP gAdd [(.ex (cC c_METALS)), (.ex (cC c_COLOURS))]))])))
noncomputable def F_is_tincture : FD := runB 1 1 false B_is_tincture
noncomputable def B_are_arms : DL.Env → Option Out :=
    (cSeq (cIte (cOr (cNot (cTr (.ex (cIsi "tuple" (.nm 0))))) (cOr (cBo (cP gNe [(.ex (cP gLen [(.nm 0)])), (.ex (cC (.int 5)))])) (cNot (cTr (.ex (cCall F_is_tincture [(.ex (cP gIx [(.nm 0), (.ex (cC (.int 0)))]))]))))))
    (cRet (cC (.bl false)))
    cNx)
    (cSeq (cAsg (cNm 0) (gTupD 5 (gConsD (setSh 1) (gConsD (setSh 2) (gConsD (setSh 3) (gConsD (setSh 4) (gConsD (setSh 5) gNilD)))))))
    (cSeq (cIte (cOr (cNot (cTr (.ex (cIsi "str" (.nm 2))))) (cBo (cP gNotIn [(.nm 2), (.ex (cC c_STRIPES))])))
    (cRet (cC (.bl false)))
    cNx)
    (cSeq (cIte (cIte (cBo (cP gEq [(.nm 2), (.ex (cC (.str "none")))])) (cBo (cP gIsNot [(.nm 3), (.ex (cC .non))])) (cNot (cTr (.ex (cCall F_is_tincture [(.nm 3)])))))
    (cRet (cC (.bl false)))
    cNx)
    (cRet (cIte (cBo (cP gIs [(.nm 4), (.ex (cC .non))])) (cP gIs [(.nm 5), (.ex (cC .non))]) (cAndV (cCall F_is_name [(.nm 4)]) (cCall F_is_tincture [(.nm 5)]))))))))
noncomputable def F_are_arms : FD := runB 6 1 false B_are_arms
noncomputable def B_are_unlike : DL.Env → Option Out :=
    (cRet (cP gNe [(.ex (cP gIn [(.nm 0), (.ex (cC c_METALS))])), (.ex (cP gIn [(.nm 1), (.ex (cC c_METALS))]))]))
noncomputable def F_are_unlike : FD := runB 2 2 false B_are_unlike
noncomputable def B_by_rule : DL.Env → Option Out :=
    (cSeq (cAsg (cNm 0) (gTupD 5 (gConsD (setSh 1) (gConsD (setSh 2) (gConsD (setSh 3) (gConsD (setSh 4) (gConsD (setSh 5) gNilD)))))))
    (cSeq (cIte (cAnd (cBo (cP gNe [(.nm 2), (.ex (cC (.str "none")))])) (cNot (cTr (.ex (cCall F_are_unlike [(.nm 1), (.nm 3)])))))
    (cRet (cC (.bl false)))
    cNx)
    (cRet (cOrV (cP gIs [(.nm 4), (.ex (cC .non))]) (cCall F_are_unlike [(.ex (cIte (cBo (cP gEq [(.nm 2), (.ex (cC (.str "none")))])) (cNm 1) (cNm 3))), (.nm 5)])))))
noncomputable def F_by_rule : FD := runB 6 1 false B_by_rule
noncomputable def B_parts_apart : DL.Env → Option Out :=
    (cRet (cP gLen [(.ex (cLC [2, 3] (cZip (.nm 0) (.nm 1)) (gTupD 2 (gConsD (setSh 2) (gConsD (setSh 3) gNilD))) (cBo (cP gNe [(.nm 2), (.nm 3)])) (cC (.int 1))))]))
noncomputable def F_parts_apart : FD := runB 4 2 false B_parts_apart
noncomputable def B_is_roll : DL.Env → Option Out :=
    (cSeq (cIte (cOr (cNot (cTr (.ex (cIsi "tuple" (.nm 0))))) (cBo (cP gGt [(.ex (cP gLen [(.nm 0)])), (.ex (cC (.int 10)))])))
    (cRet (cC (.bl false)))
    cNx)
    (cSeq (cFor (cIt (cNm 0)) (setSh 1)
    (cSeq (cIte (cOr (cNot (cTr (.ex (cIsi "tuple" (.nm 1))))) (cOr (cBo (cP gNe [(.ex (cP gLen [(.nm 1)])), (.ex (cC (.int 3)))])) (cNot (cTr (.ex (cCall F_is_name [(.ex (cP gIx [(.nm 1), (.ex (cC (.int 0)))]))]))))))
    (cRet (cC (.bl false)))
    cNx)
    (cIte (cOr (cNot (cTr (.ex (cCall F_is_number [(.ex (cP gIx [(.nm 1), (.ex (cC (.int 1)))])), (.ex (cC (.int 0))), (.ex (cC (.int 999)))])))) (cNot (cTr (.ex (cCall F_are_arms [(.ex (cP gIx [(.nm 1), (.ex (cC (.int 2)))]))])))))
    (cRet (cC (.bl false)))
    cNx)))
    (cRet (cCall F_is_rising [(.nm 0)]))))
noncomputable def F_is_roll : FD := runB 2 1 false B_is_roll
noncomputable def B_clashes : DL.Env → Option Out :=
    (cSeq (cSet false 2 (cP gLst []))
    (cSeq (cFor (cEnum (.nm 0)) (gTupD 2 (gConsD (setSh 3) (gConsD (setSh 4) gNilD)))
    (cSet false 2 (cP gAdd [(.nm 2), (.ex (cLC [5] (cIt (cP gSl10 [(.nm 0), (.ex (cP gAdd [(.nm 3), (.ex (cC (.int 1)))]))])) (setSh 5) (cBo (cP gLt [(.ex (cCall F_parts_apart [(.ex (cP gIx [(.nm 4), (.ex (cC (.int 2)))])), (.ex (cP gIx [(.nm 5), (.ex (cC (.int 2)))]))])), (.nm 1)])) (cP gTup [(.nm 4), (.nm 5)])))])))
    (cRetO 2)))
noncomputable def F_clashes : FD := runB 6 2 false B_clashes
noncomputable def B_losers : DL.Env → Option Out :=
    (cSeq (cSet true 2 (cP gLst []))
    (cSeq (cFor (cIt (cCall F_clashes [(.nm 0), (.nm 1)])) (gTupD 2 (gConsD (setSh 3) (gConsD (setSh 4) gNilD)))
    (cIte (cBo (cP gNe [(.ex (cP gIx [(.nm 3), (.ex (cC (.int 1)))])), (.ex (cP gIx [(.nm 4), (.ex (cC (.int 1)))]))]))
    (cApp 2 (.ex (cIte (cBo (cP gLt [(.ex (cP gIx [(.nm 3), (.ex (cC (.int 1)))])), (.ex (cP gIx [(.nm 4), (.ex (cC (.int 1)))]))])) (cP gTup [(.ex (cP gIx [(.nm 4), (.ex (cC (.int 0)))])), (.ex (cP gIx [(.nm 3), (.ex (cC (.int 0)))]))]) (cP gTup [(.ex (cP gIx [(.nm 3), (.ex (cC (.int 0)))])), (.ex (cP gIx [(.nm 4), (.ex (cC (.int 0)))]))]))))
    cNx))
    (cRet (cP gSorted [(.nm 2)]))))
noncomputable def F_losers : FD := runB 5 2 false B_losers
noncomputable def B_open_clashes : DL.Env → Option Out :=
    (cRet (cLC [2, 3] (cIt (cCall F_clashes [(.nm 0), (.nm 1)])) (gTupD 2 (gConsD (setSh 2) (gConsD (setSh 3) gNilD))) (cBo (cP gEq [(.ex (cP gIx [(.nm 2), (.ex (cC (.int 1)))])), (.ex (cP gIx [(.nm 3), (.ex (cC (.int 1)))]))])) (cP gTup [(.ex (cP gIx [(.nm 2), (.ex (cC (.int 0)))])), (.ex (cP gIx [(.nm 3), (.ex (cC (.int 0)))]))])))
noncomputable def F_open_clashes : FD := runB 4 2 false B_open_clashes
noncomputable def B__law_draw : DL.Env → Option Out :=
    (cRet (cP gLst [(.ex (cP gLstOf [(.nm 0)])), (.ex (cC (.int 0))), (.ex (cC (.int 0))), (.ex (cC (.int 17)))]))
noncomputable def F__law_draw : FD := runB 1 1 false B__law_draw
noncomputable def B__law_next : DL.Env → Option Out :=
    (cSeq (cIte (cBo (cP gGt [(.ex (cP gIx [(.nm 0), (.ex (cC (.int 2)))])), (.ex (cC (.int 0)))]))
    (cSeq (cSet false 2 (cP gMod [(.ex (cP gInt [(.ex (cP gIx [(.nm 0), (.ex (cC (.int 2)))]))])), (.nm 1)]))
    (cSeq (cSetIx 0 (.ex (cP gDiv [(.ex (cP gIx [(.nm 0), (.ex (cC (.int 2)))])), (.nm 1)])) (.ex (cC (.int 2))))
    (cRetO 2)))
    cNx)
    (cSeq (cIte (cBo (cP gLt [(.ex (cP gIx [(.nm 0), (.ex (cC (.int 1)))])), (.ex (cP gLen [(.ex (cP gIx [(.nm 0), (.ex (cC (.int 0)))]))]))]))
    (cSeq (cSet false 3 (cP gAbs [(.ex (cP gIx [(.ex (cP gIx [(.nm 0), (.ex (cC (.int 0)))])), (.ex (cP gIx [(.nm 0), (.ex (cC (.int 1)))]))]))]))
    (cSeq (cSetIx 0 (.ex (cP gAdd [(.ex (cP gIx [(.nm 0), (.ex (cC (.int 1)))])), (.ex (cC (.int 1)))])) (.ex (cC (.int 1))))
    (cSeq (cIte (cBo (cP gGe [(.nm 3), (.ex (cP gPow [(.ex (cC (.int 10))), (.ex (cC (.int 18)))]))]))
    (cSeq (cSetIx 0 (.ex (cP gDiv [(.nm 3), (.nm 1)])) (.ex (cC (.int 2))))
    (cRet (cP gMod [(.ex (cP gInt [(.nm 3)])), (.nm 1)])))
    cNx)
    (cSetIx 0 (.ex (cP gMod [(.ex (cP gInt [(.ex (cP gAdd [(.ex (cP gAdd [(.ex (cP gMul [(.ex (cP gIx [(.nm 0), (.ex (cC (.int 3)))])), (.ex (cC (.int 48271)))])), (.nm 3)])), (.ex (cC (.int 11)))]))])), (.ex (cC (.int 2147483647)))])) (.ex (cC (.int 3)))))))
    (cSetIx 0 (.ex (cP gMod [(.ex (cP gInt [(.ex (cP gAdd [(.ex (cP gMul [(.ex (cP gIx [(.nm 0), (.ex (cC (.int 3)))])), (.ex (cC (.int 48271)))])), (.ex (cC (.int 12345)))]))])), (.ex (cC (.int 2147483647)))])) (.ex (cC (.int 3)))))
    (cRet (cP gMod [(.ex (cP gDiv [(.ex (cP gInt [(.ex (cP gMod [(.ex (cP gMul [(.ex (cP gIx [(.nm 0), (.ex (cC (.int 3)))])), (.ex (cC (.int 69621)))])), (.ex (cC (.int 2147483629)))]))])), (.ex (cC (.int 7)))])), (.nm 1)]))))
noncomputable def F__law_next : FD := runB 4 2 true B__law_next
noncomputable def B__law_same (Fr : FD) : DL.Env → Option Out :=
    (cSeq (cIte (cTr (.ex (cIsi2 "list" "tuple" (.nm 1))))
    (cSeq (cIte (cOr (cBo (cP gNe [(.ex (cIsi "list" (.nm 1))), (.ex (cIsi "list" (.nm 0)))])) (cBo (cP gNe [(.ex (cIsi "tuple" (.nm 1))), (.ex (cIsi "tuple" (.nm 0)))])))
    (cRet (cC (.bl false)))
    cNx)
    (cSeq (cIte (cBo (cP gNe [(.ex (cP gLen [(.nm 0)])), (.ex (cP gLen [(.nm 1)]))]))
    (cRet (cC (.bl false)))
    cNx)
    (cRet (cP gAll [(.ex (cLC [2] (cRg1 (.ex (cP gLen [(.nm 1)]))) (setSh 2) cYes (cCall Fr [(.ex (cP gIx [(.nm 0), (.nm 2)])), (.ex (cP gIx [(.nm 1), (.nm 2)]))])))]))))
    cNx)
    (cSeq (cIte (cBo (cP gIs [(.nm 1), (.ex (cC .non))]))
    (cRet (cP gIs [(.nm 0), (.ex (cC .non))]))
    cNx)
    (cSeq (cIte (cBo (cP gNe [(.ex (cIsi "bool" (.nm 1))), (.ex (cIsi "bool" (.nm 0)))]))
    (cRet (cC (.bl false)))
    cNx)
    (cSeq (cIte (cTr (.ex (cIsi "str" (.nm 1))))
    (cRet (cAndV (cIsi "str" (.nm 0)) (cP gEq [(.nm 0), (.nm 1)])))
    cNx)
    (cRet (cAndV (cIsi "int" (.nm 0)) (cP gEq [(.nm 0), (.nm 1)])))))))
noncomputable def FN__law_same : Nat → FD
  | 0 => fun _ => none
  | n + 1 => runB 3 2 false (B__law_same (FN__law_same n))
noncomputable abbrev F__law_same : FD := FN__law_same 30
noncomputable def B__law_arms : DL.Env → Option Out :=
    (cSeq (cSet false 1 (cP gLst [(.ex (cC (.str "gold"))), (.ex (cC (.str "silver"))), (.ex (cC (.str "red"))), (.ex (cC (.str "blue")))]))
    (cSeq (cPar 2 false (cP gIx [(.ex (cP gLst [(.ex (cC (.str "none"))), (.ex (cC (.str "none"))), (.ex (cC (.str "pale"))), (.ex (cC (.str "cross")))])), (.ex (cCallM F__law_next 0 [(.ex (cC (.int 4)))]))]) 3 false (cP gIx [(.ex (cP gLst [(.ex (cC .non)), (.ex (cC (.str "bear"))), (.ex (cC (.str "lion")))])), (.ex (cCallM F__law_next 0 [(.ex (cC (.int 3)))]))]))
    (cSeq (cPar 4 false (cP gIx [(.nm 1), (.ex (cCallM F__law_next 0 [(.ex (cC (.int 4)))]))]) 5 false (cP gIx [(.nm 1), (.ex (cCallM F__law_next 0 [(.ex (cC (.int 4)))]))]))
    (cRet (cP gTup [(.ex (cP gIx [(.nm 1), (.ex (cCallM F__law_next 0 [(.ex (cC (.int 4)))]))])), (.nm 2), (.ex (cIte (cBo (cP gNe [(.nm 2), (.ex (cC (.str "none")))])) (cNm 4) (cC .non))), (.nm 3), (.ex (cIte (cBo (cP gIsNot [(.nm 3), (.ex (cC .non))])) (cNm 5) (cC .non)))])))))
noncomputable def F__law_arms : FD := runB 6 1 true B__law_arms
noncomputable def B__law_roll : DL.Env → Option Out :=
    (cRet (cP gTupOf [(.ex (cLC [2] (cIt (cP gSl01 [(.ex (cP gLst [(.ex (cC (.str "aldo"))), (.ex (cC (.str "bert"))), (.ex (cC (.str "carl"))), (.ex (cC (.str "dirk")))])), (.ex (cCallM F__law_next 0 [(.ex (cP gAdd [(.nm 1), (.ex (cC (.int 1)))]))]))])) (setSh 2) cYes (cP gTup [(.nm 2), (.ex (cCallM F__law_next 0 [(.ex (cC (.int 4)))])), (.ex (cCallM F__law_arms 0 []))])))]))
noncomputable def F__law_roll : FD := runB 3 2 true B__law_roll
noncomputable def B__law_by_rule : DL.Env → Option Out :=
    (cSeq (cAsg (cNm 0) (gTupD 5 (gConsD (setSh 3) (gConsD (setSh 4) (gConsD (setSh 5) (gConsD (setSh 6) (gConsD (setSh 7) gNilD)))))))
    (cSeq (cSet false 1 (cP gTup [(.ex (cC (.str "gold"))), (.ex (cC (.str "silver")))]))
    (cSeq (cSet false 2 (cIte (cBo (cP gEq [(.nm 4), (.ex (cC (.str "none")))])) (cNm 3) (cNm 5)))
    (cSeq (cIte (cAnd (cBo (cP gNe [(.nm 4), (.ex (cC (.str "none")))])) (cBo (cP gEq [(.ex (cP gIn [(.nm 3), (.nm 1)])), (.ex (cP gIn [(.nm 5), (.nm 1)]))])))
    (cRet (cC (.bl false)))
    cNx)
    (cRet (cOrV (cP gIs [(.nm 6), (.ex (cC .non))]) (cP gNe [(.ex (cP gIn [(.nm 2), (.nm 1)])), (.ex (cP gIn [(.nm 7), (.nm 1)]))])))))))
noncomputable def F__law_by_rule : FD := runB 8 1 false B__law_by_rule
noncomputable def B__law_apart : DL.Env → Option Out :=
    (cRet (cP gSum [(.ex (cLC [2] (cRg1 (.ex (cC (.int 5)))) (setSh 2) cYes (cIte (cBo (cP gNe [(.ex (cP gIx [(.nm 0), (.nm 2)])), (.ex (cP gIx [(.nm 1), (.nm 2)]))])) (cC (.int 1)) (cC (.int 0)))))]))
noncomputable def F__law_apart : FD := runB 3 2 false B__law_apart
noncomputable def B_law : DL.Env → Option Out :=
    (cSeq (cSet true 1 (cCall F__law_draw [(.nm 0)]))
    (cSeq (cAsg (cP gTup [(.ex (cCallM F__law_roll 1 [(.ex (cC (.int 4)))])), (.ex (cP gAdd [(.ex (cC (.int 1))), (.ex (cCallM F__law_next 1 [(.ex (cC (.int 5)))]))])), (.ex (cCallM F__law_arms 1 [])), (.ex (cCallM F__law_arms 1 []))]) (gTupD 4 (gConsD (setSh 7) (gConsD (setSh 8) (gConsD (setSh 9) (gConsD (setSh 10) gNilD))))))
    (cSeq (cIte (cOr (cBo (cP gIsNot [(.ex (cCall F_is_roll [(.nm 7)])), (.ex (cC (.bl true)))])) (cOr (cBo (cP gIsNot [(.ex (cCall F_are_arms [(.nm 9)])), (.ex (cC (.bl true)))])) (cOr (cBo (cP gNe [(.ex (cP gIs [(.ex (cCall F_by_rule [(.nm 9)])), (.ex (cC (.bl true)))])), (.ex (cCall F__law_by_rule [(.nm 9)]))])) (cNot (cTr (.ex (cCall F__law_same [(.ex (cCall F_parts_apart [(.nm 9), (.nm 10)])), (.ex (cCall F__law_apart [(.nm 9), (.nm 10)]))])))))))
    (cRet (cC (.bl false)))
    cNx)
    (cSeq (cPar 11 false (cP gLst []) 12 false (cP gLst []))
    (cSeq (cFor (cRg1 (.ex (cP gLen [(.nm 7)]))) (setSh 2)
    (cFor (cRg1 (.nm 2)) (setSh 13)
    (cIte (cBo (cP gLt [(.ex (cCall F__law_apart [(.ex (cP gIx [(.ex (cP gIx [(.nm 7), (.nm 13)])), (.ex (cC (.int 2)))])), (.ex (cP gIx [(.ex (cP gIx [(.nm 7), (.nm 2)])), (.ex (cC (.int 2)))]))])), (.nm 8)]))
    (cSeq (cAsg (cIte (cBo (cP gLe [(.ex (cP gIx [(.ex (cP gIx [(.nm 7), (.nm 13)])), (.ex (cC (.int 1)))])), (.ex (cP gIx [(.ex (cP gIx [(.nm 7), (.nm 2)])), (.ex (cC (.int 1)))]))])) (cP gTup [(.ex (cP gIx [(.nm 7), (.nm 13)])), (.ex (cP gIx [(.nm 7), (.nm 2)]))]) (cP gTup [(.ex (cP gIx [(.nm 7), (.nm 2)])), (.ex (cP gIx [(.nm 7), (.nm 13)]))])) (gTupD 2 (gConsD (setSh 14) (gConsD (setSh 15) gNilD))))
    (cSeq (cSet false 11 (cP gAdd [(.nm 11), (.ex (cIte (cBo (cP gLt [(.ex (cP gIx [(.nm 14), (.ex (cC (.int 1)))])), (.ex (cP gIx [(.nm 15), (.ex (cC (.int 1)))]))])) (cP gLst [(.ex (cP gTup [(.ex (cP gIx [(.nm 15), (.ex (cC (.int 0)))])), (.ex (cP gIx [(.nm 14), (.ex (cC (.int 0)))]))]))]) (cP gLst [])))]))
    (cSet false 12 (cP gAdd [(.nm 12), (.ex (cIte (cBo (cP gEq [(.ex (cP gIx [(.nm 14), (.ex (cC (.int 1)))])), (.ex (cP gIx [(.nm 15), (.ex (cC (.int 1)))]))])) (cP gLst [(.ex (cP gTup [(.ex (cP gIx [(.ex (cP gIx [(.nm 7), (.nm 13)])), (.ex (cC (.int 0)))])), (.ex (cP gIx [(.ex (cP gIx [(.nm 7), (.nm 2)])), (.ex (cC (.int 0)))]))]))]) (cP gLst [])))]))))
    cNx)))
    (cSeq (cIte (cOr (cNot (cTr (.ex (cCall F__law_same [(.ex (cCall F_losers [(.nm 7), (.nm 8)])), (.ex (cP gSorted [(.nm 11)]))])))) (cNot (cTr (.ex (cCall F__law_same [(.ex (cCall F_open_clashes [(.nm 7), (.nm 8)])), (.ex (cP gSorted [(.nm 12)]))])))))
    (cRet (cC (.bl false)))
    cNx)
    (cSeq (cSet false 3 (cP gTup [(.ex (cC (.str "gold"))), (.ex (cC (.str "none"))), (.ex (cC .non)), (.ex (cC .non)), (.ex (cC .non))]))
    (cSeq (cSet false 4 (cP gLst [(.ex (cC .non)), (.ex (cP gSl01 [(.nm 3), (.ex (cC (.int 4)))])), (.ex (cP gLstOf [(.nm 3)])), (.ex (cP gAdd [(.ex (cP gTup [(.ex (cC (.str "pink")))])), (.ex (cP gSl10 [(.nm 3), (.ex (cC (.int 1)))]))])), (.ex (cP gAdd [(.ex (cP gTup [(.ex (cC (.int 7)))])), (.ex (cP gSl10 [(.nm 3), (.ex (cC (.int 1)))]))])), (.ex (cP gTup [(.ex (cC (.str "gold"))), (.ex (cC (.str "star"))), (.ex (cC .non)), (.ex (cC .non)), (.ex (cC .non))])), (.ex (cP gTup [(.ex (cC (.str "gold"))), (.ex (cC (.str "pale"))), (.ex (cC .non)), (.ex (cC .non)), (.ex (cC .non))])), (.ex (cP gTup [(.ex (cC (.str "gold"))), (.ex (cC (.str "none"))), (.ex (cC (.str "red"))), (.ex (cC .non)), (.ex (cC .non))])), (.ex (cP gTup [(.ex (cC (.str "gold"))), (.ex (cC (.str "pale"))), (.ex (cC (.str "pink"))), (.ex (cC .non)), (.ex (cC .non))])), (.ex (cP gTup [(.ex (cC (.str "gold"))), (.ex (cC (.str "none"))), (.ex (cC .non)), (.ex (cC .non)), (.ex (cC (.str "red")))])), (.ex (cP gTup [(.ex (cC (.str "gold"))), (.ex (cC (.str "none"))), (.ex (cC .non)), (.ex (cC (.str "lion"))), (.ex (cC .non))])), (.ex (cP gTup [(.ex (cC (.str "gold"))), (.ex (cC (.str "none"))), (.ex (cC .non)), (.ex (cC (.str "Lion"))), (.ex (cC (.str "red")))])), (.ex (cP gTup [(.ex (cC (.str "gold"))), (.ex (cC (.str "none"))), (.ex (cC .non)), (.ex (cC (.str "lion"))), (.ex (cC (.str "pink")))])), (.ex (cP gTup [(.ex (cC (.str "gold"))), (.ex (cC (.int 7))), (.ex (cC .non)), (.ex (cC .non)), (.ex (cC .non))]))]))
    (cSeq (cSet false 5 (cP gTup [(.ex (cC (.str "aldo"))), (.ex (cC (.int 3))), (.nm 3)]))
    (cSeq (cSet false 6 (cP gLst [(.ex (cC .non)), (.ex (cP gLst [(.nm 5)])), (.ex (cP gTup [(.ex (cP gSl01 [(.nm 5), (.ex (cC (.int 2)))]))])), (.ex (cP gTup [(.ex (cP gAdd [(.ex (cP gTup [(.ex (cC (.str "Aldo")))])), (.ex (cP gSl10 [(.nm 5), (.ex (cC (.int 1)))]))]))])), (.ex (cP gTup [(.ex (cP gTup [(.ex (cC (.str "aldo"))), (.ex (cP gNeg [(.ex (cC (.int 1)))])), (.nm 3)]))])), (.ex (cP gTup [(.ex (cP gTup [(.ex (cC (.str "aldo"))), (.ex (cC (.int 1000))), (.nm 3)]))])), (.ex (cP gTup [(.ex (cP gTup [(.ex (cC (.str "aldo"))), (.ex (cC (.int 3))), (.ex (cP gSl01 [(.nm 3), (.ex (cC (.int 4)))]))]))])), (.ex (cP gTup [(.nm 5), (.nm 5)])), (.ex (cP gTup [(.ex (cP gAdd [(.ex (cP gTup [(.ex (cC (.str "bert")))])), (.ex (cP gSl10 [(.nm 5), (.ex (cC (.int 1)))]))])), (.nm 5)])), (.ex (cP gTup [(.nm 5), (.ex (cP gTup [(.ex (cC (.str "aldo"))), (.ex (cC (.int 4))), (.nm 3)]))])), (.ex (cP gTupOf [(.ex (cLC [2] (cRg1 (.ex (cC (.int 11)))) (setSh 2) cYes (cP gTup [(.ex (cP gAdd [(.ex (cC (.str "o"))), (.ex (cP gIx [(.ex (cC (.str "abcdefghijk"))), (.nm 2)]))])), (.ex (cC (.int 3))), (.nm 3)])))]))]))
    (cRet (cAndV (cP gIs [(.ex (cCall F_are_arms [(.ex (cP gIx [(.nm 4), (.ex (cCallM F__law_next 1 [(.ex (cC (.int 14)))]))]))])), (.ex (cC (.bl false)))]) (cP gIs [(.ex (cCall F_is_roll [(.ex (cP gIx [(.nm 6), (.ex (cCallM F__law_next 1 [(.ex (cC (.int 11)))]))]))])), (.ex (cC (.bl false)))])))))))))))))
noncomputable def F_law : FD := runB 16 1 false B_law
end KX

namespace KX
open PySem PySem.Spec PyProof.Rows L2 DL
/-- the law's draw -/
def DrS (ns : List Int) (d : D) : Prop := ∃ (k : Nat) (b s : Int), k ≤ ns.length ∧ d = .lst [.lst (ns.map .int), .int k, .int b, .int s]
theorem dr_0 (ns : List Int) : DrS ns (.lst [.lst (ns.map .int), .int 0, .int 0, .int 17]) := ⟨0, 0, 17, Nat.zero_le _, rfl⟩
theorem next_ok {ns : List Int} {S : D} {m : Int} (h : DrS ns S) (hm : 0 < m) (hm2 : m < 1000000) : W (F__law_next [S, .int m]) fun q => ∃ r S', q = (⟨.int r, false⟩, S') ∧ 0 ≤ r ∧ r < m ∧ DrS ns S' := by
  obtain ⟨k, b, s, hk, rfl⟩ := h
  have hm3 : m < 1073741824 := by omega
  have md : ∀ (fl : Bool) (i : Int), gMod fl [.int i, .int m] = some (RI (i % m)) := fun fl i => gMod_int _ _ _ hm
  have dv : ∀ (fl : Bool) (i : Int), gDiv fl [.int i, .int m] = some (RI (i / m)) := fun fl i => gDiv_int _ _ _ hm hm3
  have m1 : ∀ (fl : Bool) (i : Int), gMod fl [.int i, .int 2147483647] = some (RI (i % 2147483647)) := fun fl i => gMod_int _ _ _ (by decide)
  have m2 : ∀ (fl : Bool) (i : Int), gMod fl [.int i, .int 2147483629] = some (RI (i % 2147483629)) := fun fl i => gMod_int _ _ _ (by decide)
  have d7 : ∀ (fl : Bool) (i : Int), gDiv fl [.int i, .int 7] = some (RI (i / 7)) := fun fl i => gDiv_int _ _ _ (by decide) (by decide)
  have u1 : ∀ (fl : Bool) (i : Int), gMul fl [.int i, .int 48271] = some (RI (i * 48271)) := fun fl i => gMul_int _ _ _ (okMul_r _ _ (by decide) (by decide))
  have u2 : ∀ (fl : Bool) (i : Int), gMul fl [.int i, .int 69621] = some (RI (i * 69621)) := fun fl i => gMul_int _ _ _ (okMul_r _ _ (by decide) (by decide))
  have pw : ∀ fl : Bool, gPow fl [.int 10, .int 18] = some (RI (10 ^ 18)) := fun fl => gPow_int _ _ _ (by decide)
  unfold F__law_next B__law_next
  have fin : ∀ (k b s : Int) (o : DL.Sl), cRet (cP gMod [(.ex (cP gDiv [(.ex (cP gInt [(.ex (cP gMod [(.ex (cP gMul [(.ex (cP gIx [(.nm 0), (.ex (cC (.int 3)))])), (.ex (cC (.int 69621)))])), (.ex (cC (.int 2147483629)))]))])), (.ex (cC (.int 7)))])), (.nm 1)]) [.ow (.lst [.lst (ns.map .int), .int k, .int b, .int s]), .sh (.int m), .no, o] = some (.ret ⟨.int (s * 69621 % 2147483629 / 7 % m), false⟩ [.ow (.lst [.lst (ns.map .int), .int k, .int b, .int s]), .sh (.int m), .no, o]) := fun k b s o => by
    simp only [runB, env0, outB, ow0, evOps, sld, storeSl, setSh, ownL, cP, cC, cNm, cBo, cTr, dTru, cAnd, cOr, cNot, cAndV, cOrV, cNotV, DL.gTup, gLst, gIx, gLen, gAbs, gInt, gTupOf, gLstOf, cRet, cRetO, cSet, cSetIx, cAsg, cShare, shE, cIsi, cIsi2, tyIs, RB, RI, gEq_int, gNe_int, gEq_str, gNe_str, gLt_int, gGt_int, gLe_int, gGe_int, gAdd_int, gSub_int, at_0, at_1, at_2, at_3, at_4, at_5, at_6, cNx, cYes, cDrop, gIs, gIsNot, gIsB, isNon, Bool.false_xor, Bool.true_xor, gNeg, DL.gTupD, gConsD, gNilD, cCall, cCallM, flatR, List.map_cons, List.map_nil, List.length_cons, List.length_nil, List.length_map, List.length_set, List.cons_append, List.nil_append, List.replicate_succ, List.replicate_zero, List.getElem?_cons_zero, List.getElem?_cons_succ, List.set_cons_zero, List.set_cons_succ, Option.bind_eq_bind, Option.bind_some, Option.map_some, Option.bind_none, Nat.reduceAdd, Nat.reduceSub, Nat.reduceLeDiff, Nat.reduceLT, Nat.reduceEqDiff, Nat.zero_add, Bool.or_false, Bool.or_true, Bool.false_or, Bool.true_or, Bool.and_true, Bool.true_and, Bool.and_false, Bool.false_and, Bool.not_true, Bool.not_false, if_true, if_false, ↓reduceIte, Bool.false_eq_true, ix_4_0, ix_4_1, ix_4_2, ix_4_3, List.set_cons_zero, forall_const, cIte, md, m2, d7, u2]
  have nn : ∀ i : Int, 0 ≤ i % m := fun i => Int.emod_nonneg _ (by omega)
  have nl : ∀ i : Int, i % m < m := fun i => Int.emod_lt_of_pos _ hm
  refine w_run rfl (w_seq ?_)
  refine w_ite (by simp only [runB, env0, outB, ow0, evOps, sld, storeSl, setSh, ownL, cP, cC, cNm, cBo, cTr, dTru, cAnd, cOr, cNot, cAndV, cOrV, cNotV, DL.gTup, gLst, gIx, gLen, gAbs, gInt, gTupOf, gLstOf, cRet, cRetO, cSet, cSetIx, cAsg, cShare, shE, cIsi, cIsi2, tyIs, RB, RI, gEq_int, gNe_int, gEq_str, gNe_str, gLt_int, gGt_int, gLe_int, gGe_int, gAdd_int, gSub_int, at_0, at_1, at_2, at_3, at_4, at_5, at_6, cNx, cYes, cDrop, gIs, gIsNot, gIsB, isNon, Bool.false_xor, Bool.true_xor, gNeg, DL.gTupD, gConsD, gNilD, cCall, cCallM, flatR, List.map_cons, List.map_nil, List.length_cons, List.length_nil, List.length_map, List.length_set, List.cons_append, List.nil_append, List.replicate_succ, List.replicate_zero, List.getElem?_cons_zero, List.getElem?_cons_succ, List.set_cons_zero, List.set_cons_succ, Option.bind_eq_bind, Option.bind_some, Option.map_some, Option.bind_none, Nat.reduceAdd, Nat.reduceSub, Nat.reduceLeDiff, Nat.reduceLT, Nat.reduceEqDiff, Nat.zero_add, Bool.or_false, Bool.or_true, Bool.false_or, Bool.true_or, Bool.and_true, Bool.true_and, Bool.and_false, Bool.false_and, Bool.not_true, Bool.not_false, if_true, if_false, ↓reduceIte, Bool.false_eq_true, ix_4_0, ix_4_1, ix_4_2, ix_4_3, List.set_cons_zero, forall_const, cIte]; rfl) (fun hb => ?_) (fun hb => ?_)
  · refine w_nx (by simp only [runB, env0, outB, ow0, evOps, sld, storeSl, setSh, ownL, cP, cC, cNm, cBo, cTr, dTru, cAnd, cOr, cNot, cAndV, cOrV, cNotV, DL.gTup, gLst, gIx, gLen, gAbs, gInt, gTupOf, gLstOf, cRet, cRetO, cSet, cSetIx, cAsg, cShare, shE, cIsi, cIsi2, tyIs, RB, RI, gEq_int, gNe_int, gEq_str, gNe_str, gLt_int, gGt_int, gLe_int, gGe_int, gAdd_int, gSub_int, at_0, at_1, at_2, at_3, at_4, at_5, at_6, cNx, cYes, cDrop, gIs, gIsNot, gIsB, isNon, Bool.false_xor, Bool.true_xor, gNeg, DL.gTupD, gConsD, gNilD, cCall, cCallM, flatR, List.map_cons, List.map_nil, List.length_cons, List.length_nil, List.length_map, List.length_set, List.cons_append, List.nil_append, List.replicate_succ, List.replicate_zero, List.getElem?_cons_zero, List.getElem?_cons_succ, List.set_cons_zero, List.set_cons_succ, Option.bind_eq_bind, Option.bind_some, Option.map_some, Option.bind_none, Nat.reduceAdd, Nat.reduceSub, Nat.reduceLeDiff, Nat.reduceLT, Nat.reduceEqDiff, Nat.zero_add, Bool.or_false, Bool.or_true, Bool.false_or, Bool.true_or, Bool.and_true, Bool.true_and, Bool.and_false, Bool.false_and, Bool.not_true, Bool.not_false, if_true, if_false, ↓reduceIte, Bool.false_eq_true, ix_4_0, ix_4_1, ix_4_2, ix_4_3, List.set_cons_zero, forall_const, cIte, md]; rfl) ?_
    refine w_nx (by simp only [runB, env0, outB, ow0, evOps, sld, storeSl, setSh, ownL, cP, cC, cNm, cBo, cTr, dTru, cAnd, cOr, cNot, cAndV, cOrV, cNotV, DL.gTup, gLst, gIx, gLen, gAbs, gInt, gTupOf, gLstOf, cRet, cRetO, cSet, cSetIx, cAsg, cShare, shE, cIsi, cIsi2, tyIs, RB, RI, gEq_int, gNe_int, gEq_str, gNe_str, gLt_int, gGt_int, gLe_int, gGe_int, gAdd_int, gSub_int, at_0, at_1, at_2, at_3, at_4, at_5, at_6, cNx, cYes, cDrop, gIs, gIsNot, gIsB, isNon, Bool.false_xor, Bool.true_xor, gNeg, DL.gTupD, gConsD, gNilD, cCall, cCallM, flatR, List.map_cons, List.map_nil, List.length_cons, List.length_nil, List.length_map, List.length_set, List.cons_append, List.nil_append, List.replicate_succ, List.replicate_zero, List.getElem?_cons_zero, List.getElem?_cons_succ, List.set_cons_zero, List.set_cons_succ, Option.bind_eq_bind, Option.bind_some, Option.map_some, Option.bind_none, Nat.reduceAdd, Nat.reduceSub, Nat.reduceLeDiff, Nat.reduceLT, Nat.reduceEqDiff, Nat.zero_add, Bool.or_false, Bool.or_true, Bool.false_or, Bool.true_or, Bool.and_true, Bool.true_and, Bool.and_false, Bool.false_and, Bool.not_true, Bool.not_false, if_true, if_false, ↓reduceIte, Bool.false_eq_true, ix_4_0, ix_4_1, ix_4_2, ix_4_3, List.set_cons_zero, forall_const, cIte, dv]; rfl) ?_
    exact ⟨_, rfl, _, rfl, _, _, rfl, nn _, nl _, k, _, _, hk, rfl⟩
  · refine w_nop (w_seq ?_)
    refine w_ite (by simp only [runB, env0, outB, ow0, evOps, sld, storeSl, setSh, ownL, cP, cC, cNm, cBo, cTr, dTru, cAnd, cOr, cNot, cAndV, cOrV, cNotV, DL.gTup, gLst, gIx, gLen, gAbs, gInt, gTupOf, gLstOf, cRet, cRetO, cSet, cSetIx, cAsg, cShare, shE, cIsi, cIsi2, tyIs, RB, RI, gEq_int, gNe_int, gEq_str, gNe_str, gLt_int, gGt_int, gLe_int, gGe_int, gAdd_int, gSub_int, at_0, at_1, at_2, at_3, at_4, at_5, at_6, cNx, cYes, cDrop, gIs, gIsNot, gIsB, isNon, Bool.false_xor, Bool.true_xor, gNeg, DL.gTupD, gConsD, gNilD, cCall, cCallM, flatR, List.map_cons, List.map_nil, List.length_cons, List.length_nil, List.length_map, List.length_set, List.cons_append, List.nil_append, List.replicate_succ, List.replicate_zero, List.getElem?_cons_zero, List.getElem?_cons_succ, List.set_cons_zero, List.set_cons_succ, Option.bind_eq_bind, Option.bind_some, Option.map_some, Option.bind_none, Nat.reduceAdd, Nat.reduceSub, Nat.reduceLeDiff, Nat.reduceLT, Nat.reduceEqDiff, Nat.zero_add, Bool.or_false, Bool.or_true, Bool.false_or, Bool.true_or, Bool.and_true, Bool.true_and, Bool.and_false, Bool.false_and, Bool.not_true, Bool.not_false, if_true, if_false, ↓reduceIte, Bool.false_eq_true, ix_4_0, ix_4_1, ix_4_2, ix_4_3, List.set_cons_zero, forall_const, cIte]; rfl) (fun hk2 => ?_) (fun hk2 => ?_)
    · have hk3 : k < ns.length := by
        have := of_decide_eq_true hk2
        omega
      obtain ⟨c, hc⟩ : ∃ c, ns[k]? = some c := ⟨_, List.getElem?_eq_getElem hk3⟩
      have hx : atI (List.map D.int ns) (k : Int) = some (D.int c) := by rw [at_nat, List.getElem?_map, hc]; rfl
      refine w_nx (by simp only [runB, env0, outB, ow0, evOps, sld, storeSl, setSh, ownL, cP, cC, cNm, cBo, cTr, dTru, cAnd, cOr, cNot, cAndV, cOrV, cNotV, DL.gTup, gLst, gIx, gLen, gAbs, gInt, gTupOf, gLstOf, cRet, cRetO, cSet, cSetIx, cAsg, cShare, shE, cIsi, cIsi2, tyIs, RB, RI, gEq_int, gNe_int, gEq_str, gNe_str, gLt_int, gGt_int, gLe_int, gGe_int, gAdd_int, gSub_int, at_0, at_1, at_2, at_3, at_4, at_5, at_6, cNx, cYes, cDrop, gIs, gIsNot, gIsB, isNon, Bool.false_xor, Bool.true_xor, gNeg, DL.gTupD, gConsD, gNilD, cCall, cCallM, flatR, List.map_cons, List.map_nil, List.length_cons, List.length_nil, List.length_map, List.length_set, List.cons_append, List.nil_append, List.replicate_succ, List.replicate_zero, List.getElem?_cons_zero, List.getElem?_cons_succ, List.set_cons_zero, List.set_cons_succ, Option.bind_eq_bind, Option.bind_some, Option.map_some, Option.bind_none, Nat.reduceAdd, Nat.reduceSub, Nat.reduceLeDiff, Nat.reduceLT, Nat.reduceEqDiff, Nat.zero_add, Bool.or_false, Bool.or_true, Bool.false_or, Bool.true_or, Bool.and_true, Bool.true_and, Bool.and_false, Bool.false_and, Bool.not_true, Bool.not_false, if_true, if_false, ↓reduceIte, Bool.false_eq_true, ix_4_0, ix_4_1, ix_4_2, ix_4_3, List.set_cons_zero, forall_const, cIte, hx]; rfl) ?_
      refine w_nx (by simp only [runB, env0, outB, ow0, evOps, sld, storeSl, setSh, ownL, cP, cC, cNm, cBo, cTr, dTru, cAnd, cOr, cNot, cAndV, cOrV, cNotV, DL.gTup, gLst, gIx, gLen, gAbs, gInt, gTupOf, gLstOf, cRet, cRetO, cSet, cSetIx, cAsg, cShare, shE, cIsi, cIsi2, tyIs, RB, RI, gEq_int, gNe_int, gEq_str, gNe_str, gLt_int, gGt_int, gLe_int, gGe_int, gAdd_int, gSub_int, at_0, at_1, at_2, at_3, at_4, at_5, at_6, cNx, cYes, cDrop, gIs, gIsNot, gIsB, isNon, Bool.false_xor, Bool.true_xor, gNeg, DL.gTupD, gConsD, gNilD, cCall, cCallM, flatR, List.map_cons, List.map_nil, List.length_cons, List.length_nil, List.length_map, List.length_set, List.cons_append, List.nil_append, List.replicate_succ, List.replicate_zero, List.getElem?_cons_zero, List.getElem?_cons_succ, List.set_cons_zero, List.set_cons_succ, Option.bind_eq_bind, Option.bind_some, Option.map_some, Option.bind_none, Nat.reduceAdd, Nat.reduceSub, Nat.reduceLeDiff, Nat.reduceLT, Nat.reduceEqDiff, Nat.zero_add, Bool.or_false, Bool.or_true, Bool.false_or, Bool.true_or, Bool.and_true, Bool.true_and, Bool.and_false, Bool.false_and, Bool.not_true, Bool.not_false, if_true, if_false, ↓reduceIte, Bool.false_eq_true, ix_4_0, ix_4_1, ix_4_2, ix_4_3, List.set_cons_zero, forall_const, cIte]; rfl) ?_
      refine w_seq ?_
      refine w_ite (by simp only [runB, env0, outB, ow0, evOps, sld, storeSl, setSh, ownL, cP, cC, cNm, cBo, cTr, dTru, cAnd, cOr, cNot, cAndV, cOrV, cNotV, DL.gTup, gLst, gIx, gLen, gAbs, gInt, gTupOf, gLstOf, cRet, cRetO, cSet, cSetIx, cAsg, cShare, shE, cIsi, cIsi2, tyIs, RB, RI, gEq_int, gNe_int, gEq_str, gNe_str, gLt_int, gGt_int, gLe_int, gGe_int, gAdd_int, gSub_int, at_0, at_1, at_2, at_3, at_4, at_5, at_6, cNx, cYes, cDrop, gIs, gIsNot, gIsB, isNon, Bool.false_xor, Bool.true_xor, gNeg, DL.gTupD, gConsD, gNilD, cCall, cCallM, flatR, List.map_cons, List.map_nil, List.length_cons, List.length_nil, List.length_map, List.length_set, List.cons_append, List.nil_append, List.replicate_succ, List.replicate_zero, List.getElem?_cons_zero, List.getElem?_cons_succ, List.set_cons_zero, List.set_cons_succ, Option.bind_eq_bind, Option.bind_some, Option.map_some, Option.bind_none, Nat.reduceAdd, Nat.reduceSub, Nat.reduceLeDiff, Nat.reduceLT, Nat.reduceEqDiff, Nat.zero_add, Bool.or_false, Bool.or_true, Bool.false_or, Bool.true_or, Bool.and_true, Bool.true_and, Bool.and_false, Bool.false_and, Bool.not_true, Bool.not_false, if_true, if_false, ↓reduceIte, Bool.false_eq_true, ix_4_0, ix_4_1, ix_4_2, ix_4_3, List.set_cons_zero, forall_const, cIte, pw]; rfl) (fun hz => ?_) (fun hz => ?_)
      · refine w_nx (by simp only [runB, env0, outB, ow0, evOps, sld, storeSl, setSh, ownL, cP, cC, cNm, cBo, cTr, dTru, cAnd, cOr, cNot, cAndV, cOrV, cNotV, DL.gTup, gLst, gIx, gLen, gAbs, gInt, gTupOf, gLstOf, cRet, cRetO, cSet, cSetIx, cAsg, cShare, shE, cIsi, cIsi2, tyIs, RB, RI, gEq_int, gNe_int, gEq_str, gNe_str, gLt_int, gGt_int, gLe_int, gGe_int, gAdd_int, gSub_int, at_0, at_1, at_2, at_3, at_4, at_5, at_6, cNx, cYes, cDrop, gIs, gIsNot, gIsB, isNon, Bool.false_xor, Bool.true_xor, gNeg, DL.gTupD, gConsD, gNilD, cCall, cCallM, flatR, List.map_cons, List.map_nil, List.length_cons, List.length_nil, List.length_map, List.length_set, List.cons_append, List.nil_append, List.replicate_succ, List.replicate_zero, List.getElem?_cons_zero, List.getElem?_cons_succ, List.set_cons_zero, List.set_cons_succ, Option.bind_eq_bind, Option.bind_some, Option.map_some, Option.bind_none, Nat.reduceAdd, Nat.reduceSub, Nat.reduceLeDiff, Nat.reduceLT, Nat.reduceEqDiff, Nat.zero_add, Bool.or_false, Bool.or_true, Bool.false_or, Bool.true_or, Bool.and_true, Bool.true_and, Bool.and_false, Bool.false_and, Bool.not_true, Bool.not_false, if_true, if_false, ↓reduceIte, Bool.false_eq_true, ix_4_0, ix_4_1, ix_4_2, ix_4_3, List.set_cons_zero, forall_const, cIte, dv]; rfl) ?_
        refine w_ret (by simp only [runB, env0, outB, ow0, evOps, sld, storeSl, setSh, ownL, cP, cC, cNm, cBo, cTr, dTru, cAnd, cOr, cNot, cAndV, cOrV, cNotV, DL.gTup, gLst, gIx, gLen, gAbs, gInt, gTupOf, gLstOf, cRet, cRetO, cSet, cSetIx, cAsg, cShare, shE, cIsi, cIsi2, tyIs, RB, RI, gEq_int, gNe_int, gEq_str, gNe_str, gLt_int, gGt_int, gLe_int, gGe_int, gAdd_int, gSub_int, at_0, at_1, at_2, at_3, at_4, at_5, at_6, cNx, cYes, cDrop, gIs, gIsNot, gIsB, isNon, Bool.false_xor, Bool.true_xor, gNeg, DL.gTupD, gConsD, gNilD, cCall, cCallM, flatR, List.map_cons, List.map_nil, List.length_cons, List.length_nil, List.length_map, List.length_set, List.cons_append, List.nil_append, List.replicate_succ, List.replicate_zero, List.getElem?_cons_zero, List.getElem?_cons_succ, List.set_cons_zero, List.set_cons_succ, Option.bind_eq_bind, Option.bind_some, Option.map_some, Option.bind_none, Nat.reduceAdd, Nat.reduceSub, Nat.reduceLeDiff, Nat.reduceLT, Nat.reduceEqDiff, Nat.zero_add, Bool.or_false, Bool.or_true, Bool.false_or, Bool.true_or, Bool.and_true, Bool.true_and, Bool.and_false, Bool.false_and, Bool.not_true, Bool.not_false, if_true, if_false, ↓reduceIte, Bool.false_eq_true, ix_4_0, ix_4_1, ix_4_2, ix_4_3, List.set_cons_zero, forall_const, cIte, md]; rfl) ?_
        exact ⟨_, rfl, _, _, rfl, nn _, nl _, k + 1, _, _, hk3, rfl⟩
      · refine w_nop ?_
        refine w_st (by simp only [runB, env0, outB, ow0, evOps, sld, storeSl, setSh, ownL, cP, cC, cNm, cBo, cTr, dTru, cAnd, cOr, cNot, cAndV, cOrV, cNotV, DL.gTup, gLst, gIx, gLen, gAbs, gInt, gTupOf, gLstOf, cRet, cRetO, cSet, cSetIx, cAsg, cShare, shE, cIsi, cIsi2, tyIs, RB, RI, gEq_int, gNe_int, gEq_str, gNe_str, gLt_int, gGt_int, gLe_int, gGe_int, gAdd_int, gSub_int, at_0, at_1, at_2, at_3, at_4, at_5, at_6, cNx, cYes, cDrop, gIs, gIsNot, gIsB, isNon, Bool.false_xor, Bool.true_xor, gNeg, DL.gTupD, gConsD, gNilD, cCall, cCallM, flatR, List.map_cons, List.map_nil, List.length_cons, List.length_nil, List.length_map, List.length_set, List.cons_append, List.nil_append, List.replicate_succ, List.replicate_zero, List.getElem?_cons_zero, List.getElem?_cons_succ, List.set_cons_zero, List.set_cons_succ, Option.bind_eq_bind, Option.bind_some, Option.map_some, Option.bind_none, Nat.reduceAdd, Nat.reduceSub, Nat.reduceLeDiff, Nat.reduceLT, Nat.reduceEqDiff, Nat.zero_add, Bool.or_false, Bool.or_true, Bool.false_or, Bool.true_or, Bool.and_true, Bool.true_and, Bool.and_false, Bool.false_and, Bool.not_true, Bool.not_false, if_true, if_false, ↓reduceIte, Bool.false_eq_true, ix_4_0, ix_4_1, ix_4_2, ix_4_3, List.set_cons_zero, forall_const, cIte, u1, m1]; rfl) ?_
        exact ⟨_, fin _ _ _ _, ⟨_, rfl, _, _, rfl, nn _, nl _, k + 1, _, _, hk3, rfl⟩⟩
    · refine w_st (by simp only [runB, env0, outB, ow0, evOps, sld, storeSl, setSh, ownL, cP, cC, cNm, cBo, cTr, dTru, cAnd, cOr, cNot, cAndV, cOrV, cNotV, DL.gTup, gLst, gIx, gLen, gAbs, gInt, gTupOf, gLstOf, cRet, cRetO, cSet, cSetIx, cAsg, cShare, shE, cIsi, cIsi2, tyIs, RB, RI, gEq_int, gNe_int, gEq_str, gNe_str, gLt_int, gGt_int, gLe_int, gGe_int, gAdd_int, gSub_int, at_0, at_1, at_2, at_3, at_4, at_5, at_6, cNx, cYes, cDrop, gIs, gIsNot, gIsB, isNon, Bool.false_xor, Bool.true_xor, gNeg, DL.gTupD, gConsD, gNilD, cCall, cCallM, flatR, List.map_cons, List.map_nil, List.length_cons, List.length_nil, List.length_map, List.length_set, List.cons_append, List.nil_append, List.replicate_succ, List.replicate_zero, List.getElem?_cons_zero, List.getElem?_cons_succ, List.set_cons_zero, List.set_cons_succ, Option.bind_eq_bind, Option.bind_some, Option.map_some, Option.bind_none, Nat.reduceAdd, Nat.reduceSub, Nat.reduceLeDiff, Nat.reduceLT, Nat.reduceEqDiff, Nat.zero_add, Bool.or_false, Bool.or_true, Bool.false_or, Bool.true_or, Bool.and_true, Bool.true_and, Bool.and_false, Bool.false_and, Bool.not_true, Bool.not_false, if_true, if_false, ↓reduceIte, Bool.false_eq_true, ix_4_0, ix_4_1, ix_4_2, ix_4_3, List.set_cons_zero, forall_const, cIte, u1, m1]; rfl) ?_
      exact ⟨_, fin _ _ _ _, ⟨_, rfl, _, _, rfl, nn _, nl _, k, _, _, hk, rfl⟩⟩
theorem gEq_bl (fl : Bool) (i : Bool) : gEq fl [.bl i, .bl i] = some (RB true) := by cases i <;> rfl
/-- plain, not too deep -/
def sd : Nat → D → Bool
  | _, .non => true
  | _, .bl _ => true
  | _, .int _ => true
  | _, .str x => decide (x.length ≤ 1000000)
  | n + 1, .tup ds => decide (ds.length ≤ 1000000) && ds.all (sd n)
  | n + 1, .lst ds => decide (ds.length ≤ 1000000) && ds.all (sd n)
  | _, _ => false
theorem dB_all : ∀ n : Nat, (dBools (List.replicate n (D.bl true))) = some (List.replicate n true)
  | 0 => rfl
  | n + 1 => by simp [List.replicate_succ, dBools, dB_all n]
theorem rng_mem {d : D} {n : Nat} (h : d ∈ rng 0 n) : ∃ k : Nat, k < n ∧ d = .int k := by
  unfold rng at h
  obtain ⟨k, hk, rfl⟩ := List.mem_map.mp h
  exact ⟨k, List.mem_range.mp hk, by simp⟩
theorem rng_len (i : Int) (n : Nat) : (rng i n).length = n := by simp [rng]
theorem fm_const {α β : Type} (b : β) : ∀ xs : List α, xs.filterMap (fun _ => some b) = List.replicate xs.length b
  | [] => rfl
  | x :: xs => by simp [List.replicate_succ, fm_const b xs]
theorem okR_nat {n : Nat} (h : n ≤ 1000000) : okR (n : Int) = true := by
  unfold okR
  rw [decide_eq_true (by omega : -1000000000 ≤ (n : Int)), decide_eq_true (by omega : (n : Int) ≤ 1000000000)]
  rfl
theorem same_seq {n : Nat} {c d : D} {ds : List D} (hc : (c = .lst ds ∨ c = .tup ds)) (hl : ds.length ≤ 1000000) (ih : ∀ d, d ∈ ds → FN__law_same n [d, d] = some (⟨.bl true, false⟩, .non)) : FN__law_same (n + 1) [c, c] = some (⟨.bl true, false⟩, .non) := by
  have key : ∀ a : D, (∀ k : Nat, k < ds.length → ∀ x, ds[k]? = some x → gIx false [a, .int k] = some ⟨x, false⟩) → gLen false [a] = some (RI ds.length) → (cP gAll [(.ex (cLC [2] (cRg1 (.ex (cP gLen [(.nm 1)]))) (setSh 2) cYes (cCall (FN__law_same n) [(.ex (cP gIx [(.nm 0), (.nm 2)])), (.ex (cP gIx [(.nm 1), (.nm 2)]))])))]) [.sh a, .sh a, .no] = some (RB true, [.sh a, .sh a, .no]) := by
    intro a ha hal
    have h1 := lc_map (vs := [2]) (it := cRg1 (.ex (cP gLen [(.nm 1)]))) (gt := setSh 2) (t := cYes) (fe := cCall (FN__law_same n) [(.ex (cP gIx [(.nm 0), (.nm 2)])), (.ex (cP gIx [(.nm 1), (.nm 2)]))]) (ds0 := rng 0 ds.length) (env := [.sh a, .sh a, .no]) (e1 := [.sh a, .sh a, .no]) (e2 := [.sh a, .sh a, .no]) (fun _ => some (.bl true))
      (by simp only [cRg1]; simp only [runB, env0, outB, ow0, evOps, sld, storeSl, setSh, ownL, cP, cC, cNm, cBo, cTr, dTru, cAnd, cOr, cNot, cAndV, cOrV, cNotV, DL.gTup, gLst, gAbs, gInt, gTupOf, gLstOf, cRet, cRetO, cSet, cSetIx, cAsg, cShare, shE, cIsi, cIsi2, tyIs, RB, RI, gNe_int, gNe_str, gLt_int, gGt_int, gLe_int, gGe_int, gAdd_int, gSub_int, at_0, at_1, at_2, at_3, at_4, at_5, at_6, cNx, cYes, cDrop, gIs, gIsNot, gIsB, isNon, Bool.false_xor, Bool.true_xor, gNeg, DL.gTupD, gConsD, gNilD, cCall, cCallM, flatR, List.map_cons, List.map_nil, List.length_cons, List.length_nil, List.length_map, List.length_set, List.cons_append, List.nil_append, List.replicate_succ, List.replicate_zero, List.getElem?_cons_zero, List.getElem?_cons_succ, List.set_cons_zero, List.set_cons_succ, Option.bind_eq_bind, Option.bind_some, Option.map_some, Option.bind_none, Nat.reduceAdd, Nat.reduceSub, Nat.reduceLeDiff, Nat.reduceLT, Nat.reduceEqDiff, Nat.zero_add, Bool.or_false, Bool.or_true, Bool.false_or, Bool.true_or, Bool.and_true, Bool.true_and, Bool.and_false, Bool.false_and, Bool.not_true, Bool.not_false, if_true, if_false, ↓reduceIte, Bool.false_eq_true, ix_4_0, ix_4_1, ix_4_2, ix_4_3, List.set_cons_zero, forall_const, cIte, hal, okR_nat hl, Int.toNat_natCast]) rfl (by rw [rng_len]; exact hl) (fun d hd => by
        obtain ⟨k, hk, rfl⟩ := rng_mem hd
        refine ⟨_, true, _, rfl, rfl, RB true, [.sh a, .sh a, .sh (.int k)], ?_, rfl, rfl⟩
        have hx : ds[k]? = some ds[k] := List.getElem?_eq_getElem hk
        have := ha k hk _ hx
        simp only [runB, env0, outB, ow0, evOps, sld, storeSl, setSh, ownL, cP, cC, cNm, cBo, cTr, dTru, cAnd, cOr, cNot, cAndV, cOrV, cNotV, DL.gTup, gLst, gAbs, gInt, gTupOf, gLstOf, cRet, cRetO, cSet, cSetIx, cAsg, cShare, shE, cIsi, cIsi2, tyIs, RB, RI, gNe_int, gNe_str, gLt_int, gGt_int, gLe_int, gGe_int, gAdd_int, gSub_int, at_0, at_1, at_2, at_3, at_4, at_5, at_6, cNx, cYes, cDrop, gIs, gIsNot, gIsB, isNon, Bool.false_xor, Bool.true_xor, gNeg, DL.gTupD, gConsD, gNilD, cCall, cCallM, flatR, List.map_cons, List.map_nil, List.length_cons, List.length_nil, List.length_map, List.length_set, List.cons_append, List.nil_append, List.replicate_succ, List.replicate_zero, List.getElem?_cons_zero, List.getElem?_cons_succ, List.set_cons_zero, List.set_cons_succ, Option.bind_eq_bind, Option.bind_some, Option.map_some, Option.bind_none, Nat.reduceAdd, Nat.reduceSub, Nat.reduceLeDiff, Nat.reduceLT, Nat.reduceEqDiff, Nat.zero_add, Bool.or_false, Bool.or_true, Bool.false_or, Bool.true_or, Bool.and_true, Bool.true_and, Bool.and_false, Bool.false_and, Bool.not_true, Bool.not_false, if_true, if_false, ↓reduceIte, Bool.false_eq_true, ix_4_0, ix_4_1, ix_4_2, ix_4_3, List.set_cons_zero, forall_const, cIte, this, ih _ (List.getElem_mem hk)])
    rw [fm_const, rng_len] at h1
    simp only [cP, evOps, h1, Option.bind_eq_bind, Option.bind_some, gAll, dB_all, Option.map_some]
    simp [backE, shOf]
  have step : W (FN__law_same (n + 1) [c, c]) fun q => q = (⟨.bl true, false⟩, .non) := by
    show W (runB 3 2 false (B__law_same (FN__law_same n)) [c, c]) _
    unfold B__law_same
    rcases hc with rfl | rfl
    · refine w_run rfl (w_seq ?_)
      refine w_it (by simp only [runB, env0, outB, ow0, evOps, sld, storeSl, setSh, ownL, cP, cC, cNm, cBo, cTr, dTru, cAnd, cOr, cNot, cAndV, cOrV, cNotV, DL.gTup, gLst, gIx, gLen, gAbs, gInt, gTupOf, gLstOf, cRet, cRetO, cSet, cSetIx, cAsg, cShare, shE, cIsi, cIsi2, tyIs, RB, RI, gEq_int, gNe_int, gEq_str, gNe_str, gLt_int, gGt_int, gLe_int, gGe_int, gAdd_int, gSub_int, at_0, at_1, at_2, at_3, at_4, at_5, at_6, cNx, cYes, cDrop, gIs, gIsNot, gIsB, isNon, Bool.false_xor, Bool.true_xor, gNeg, DL.gTupD, gConsD, gNilD, cCall, cCallM, flatR, List.map_cons, List.map_nil, List.length_cons, List.length_nil, List.length_map, List.length_set, List.cons_append, List.nil_append, List.replicate_succ, List.replicate_zero, List.getElem?_cons_zero, List.getElem?_cons_succ, List.set_cons_zero, List.set_cons_succ, Option.bind_eq_bind, Option.bind_some, Option.map_some, Option.bind_none, Nat.reduceAdd, Nat.reduceSub, Nat.reduceLeDiff, Nat.reduceLT, Nat.reduceEqDiff, Nat.zero_add, Bool.or_false, Bool.or_true, Bool.false_or, Bool.true_or, Bool.and_true, Bool.true_and, Bool.and_false, Bool.false_and, Bool.not_true, Bool.not_false, if_true, if_false, ↓reduceIte, Bool.false_eq_true, ix_4_0, ix_4_1, ix_4_2, ix_4_3, List.set_cons_zero, forall_const, cIte]; rfl) ?_
      refine w_seq ?_
      refine w_if (by simp only [runB, env0, outB, ow0, evOps, sld, storeSl, setSh, ownL, cP, cC, cNm, cBo, cTr, dTru, cAnd, cOr, cNot, cAndV, cOrV, cNotV, DL.gTup, gLst, gIx, gLen, gAbs, gInt, gTupOf, gLstOf, cRet, cRetO, cSet, cSetIx, cAsg, cShare, shE, cIsi, cIsi2, tyIs, RB, RI, gEq_int, gNe_int, gEq_str, gNe_str, gLt_int, gGt_int, gLe_int, gGe_int, gAdd_int, gSub_int, at_0, at_1, at_2, at_3, at_4, at_5, at_6, cNx, cYes, cDrop, gIs, gIsNot, gIsB, isNon, Bool.false_xor, Bool.true_xor, gNeg, DL.gTupD, gConsD, gNilD, cCall, cCallM, flatR, List.map_cons, List.map_nil, List.length_cons, List.length_nil, List.length_map, List.length_set, List.cons_append, List.nil_append, List.replicate_succ, List.replicate_zero, List.getElem?_cons_zero, List.getElem?_cons_succ, List.set_cons_zero, List.set_cons_succ, Option.bind_eq_bind, Option.bind_some, Option.map_some, Option.bind_none, Nat.reduceAdd, Nat.reduceSub, Nat.reduceLeDiff, Nat.reduceLT, Nat.reduceEqDiff, Nat.zero_add, Bool.or_false, Bool.or_true, Bool.false_or, Bool.true_or, Bool.and_true, Bool.true_and, Bool.and_false, Bool.false_and, Bool.not_true, Bool.not_false, if_true, if_false, ↓reduceIte, Bool.false_eq_true, ix_4_0, ix_4_1, ix_4_2, ix_4_3, List.set_cons_zero, forall_const, cIte]; rfl) ?_
      refine w_nop ?_
      refine w_seq ?_
      refine w_if (by simp only [runB, env0, outB, ow0, evOps, sld, storeSl, setSh, ownL, cP, cC, cNm, cBo, cTr, dTru, cAnd, cOr, cNot, cAndV, cOrV, cNotV, DL.gTup, gLst, gIx, gLen, gAbs, gInt, gTupOf, gLstOf, cRet, cRetO, cSet, cSetIx, cAsg, cShare, shE, cIsi, cIsi2, tyIs, RB, RI, gEq_int, gNe_int, gEq_str, gNe_str, gLt_int, gGt_int, gLe_int, gGe_int, gAdd_int, gSub_int, at_0, at_1, at_2, at_3, at_4, at_5, at_6, cNx, cYes, cDrop, gIs, gIsNot, gIsB, isNon, Bool.false_xor, Bool.true_xor, gNeg, DL.gTupD, gConsD, gNilD, cCall, cCallM, flatR, List.map_cons, List.map_nil, List.length_cons, List.length_nil, List.length_map, List.length_set, List.cons_append, List.nil_append, List.replicate_succ, List.replicate_zero, List.getElem?_cons_zero, List.getElem?_cons_succ, List.set_cons_zero, List.set_cons_succ, Option.bind_eq_bind, Option.bind_some, Option.map_some, Option.bind_none, Nat.reduceAdd, Nat.reduceSub, Nat.reduceLeDiff, Nat.reduceLT, Nat.reduceEqDiff, Nat.zero_add, Bool.or_false, Bool.or_true, Bool.false_or, Bool.true_or, Bool.and_true, Bool.true_and, Bool.and_false, Bool.false_and, Bool.not_true, Bool.not_false, if_true, if_false, ↓reduceIte, Bool.false_eq_true, ix_4_0, ix_4_1, ix_4_2, ix_4_3, List.set_cons_zero, forall_const, cIte]; simp only [ne_eq, not_true, decide_false]; rfl) ?_
      refine w_nop ?_
      refine w_ret (key _ (fun k _ x hx => by simp only [gIx, at_nat, hx, Option.map_some]) rfl) ?_
      exact ⟨_, rfl, rfl⟩
    · refine w_run rfl (w_seq ?_)
      refine w_it (by simp only [runB, env0, outB, ow0, evOps, sld, storeSl, setSh, ownL, cP, cC, cNm, cBo, cTr, dTru, cAnd, cOr, cNot, cAndV, cOrV, cNotV, DL.gTup, gLst, gIx, gLen, gAbs, gInt, gTupOf, gLstOf, cRet, cRetO, cSet, cSetIx, cAsg, cShare, shE, cIsi, cIsi2, tyIs, RB, RI, gEq_int, gNe_int, gEq_str, gNe_str, gLt_int, gGt_int, gLe_int, gGe_int, gAdd_int, gSub_int, at_0, at_1, at_2, at_3, at_4, at_5, at_6, cNx, cYes, cDrop, gIs, gIsNot, gIsB, isNon, Bool.false_xor, Bool.true_xor, gNeg, DL.gTupD, gConsD, gNilD, cCall, cCallM, flatR, List.map_cons, List.map_nil, List.length_cons, List.length_nil, List.length_map, List.length_set, List.cons_append, List.nil_append, List.replicate_succ, List.replicate_zero, List.getElem?_cons_zero, List.getElem?_cons_succ, List.set_cons_zero, List.set_cons_succ, Option.bind_eq_bind, Option.bind_some, Option.map_some, Option.bind_none, Nat.reduceAdd, Nat.reduceSub, Nat.reduceLeDiff, Nat.reduceLT, Nat.reduceEqDiff, Nat.zero_add, Bool.or_false, Bool.or_true, Bool.false_or, Bool.true_or, Bool.and_true, Bool.true_and, Bool.and_false, Bool.false_and, Bool.not_true, Bool.not_false, if_true, if_false, ↓reduceIte, Bool.false_eq_true, ix_4_0, ix_4_1, ix_4_2, ix_4_3, List.set_cons_zero, forall_const, cIte]; rfl) ?_
      refine w_seq ?_
      refine w_if (by simp only [runB, env0, outB, ow0, evOps, sld, storeSl, setSh, ownL, cP, cC, cNm, cBo, cTr, dTru, cAnd, cOr, cNot, cAndV, cOrV, cNotV, DL.gTup, gLst, gIx, gLen, gAbs, gInt, gTupOf, gLstOf, cRet, cRetO, cSet, cSetIx, cAsg, cShare, shE, cIsi, cIsi2, tyIs, RB, RI, gEq_int, gNe_int, gEq_str, gNe_str, gLt_int, gGt_int, gLe_int, gGe_int, gAdd_int, gSub_int, at_0, at_1, at_2, at_3, at_4, at_5, at_6, cNx, cYes, cDrop, gIs, gIsNot, gIsB, isNon, Bool.false_xor, Bool.true_xor, gNeg, DL.gTupD, gConsD, gNilD, cCall, cCallM, flatR, List.map_cons, List.map_nil, List.length_cons, List.length_nil, List.length_map, List.length_set, List.cons_append, List.nil_append, List.replicate_succ, List.replicate_zero, List.getElem?_cons_zero, List.getElem?_cons_succ, List.set_cons_zero, List.set_cons_succ, Option.bind_eq_bind, Option.bind_some, Option.map_some, Option.bind_none, Nat.reduceAdd, Nat.reduceSub, Nat.reduceLeDiff, Nat.reduceLT, Nat.reduceEqDiff, Nat.zero_add, Bool.or_false, Bool.or_true, Bool.false_or, Bool.true_or, Bool.and_true, Bool.true_and, Bool.and_false, Bool.false_and, Bool.not_true, Bool.not_false, if_true, if_false, ↓reduceIte, Bool.false_eq_true, ix_4_0, ix_4_1, ix_4_2, ix_4_3, List.set_cons_zero, forall_const, cIte]; rfl) ?_
      refine w_nop ?_
      refine w_seq ?_
      refine w_if (by simp only [runB, env0, outB, ow0, evOps, sld, storeSl, setSh, ownL, cP, cC, cNm, cBo, cTr, dTru, cAnd, cOr, cNot, cAndV, cOrV, cNotV, DL.gTup, gLst, gIx, gLen, gAbs, gInt, gTupOf, gLstOf, cRet, cRetO, cSet, cSetIx, cAsg, cShare, shE, cIsi, cIsi2, tyIs, RB, RI, gEq_int, gNe_int, gEq_str, gNe_str, gLt_int, gGt_int, gLe_int, gGe_int, gAdd_int, gSub_int, at_0, at_1, at_2, at_3, at_4, at_5, at_6, cNx, cYes, cDrop, gIs, gIsNot, gIsB, isNon, Bool.false_xor, Bool.true_xor, gNeg, DL.gTupD, gConsD, gNilD, cCall, cCallM, flatR, List.map_cons, List.map_nil, List.length_cons, List.length_nil, List.length_map, List.length_set, List.cons_append, List.nil_append, List.replicate_succ, List.replicate_zero, List.getElem?_cons_zero, List.getElem?_cons_succ, List.set_cons_zero, List.set_cons_succ, Option.bind_eq_bind, Option.bind_some, Option.map_some, Option.bind_none, Nat.reduceAdd, Nat.reduceSub, Nat.reduceLeDiff, Nat.reduceLT, Nat.reduceEqDiff, Nat.zero_add, Bool.or_false, Bool.or_true, Bool.false_or, Bool.true_or, Bool.and_true, Bool.true_and, Bool.and_false, Bool.false_and, Bool.not_true, Bool.not_false, if_true, if_false, ↓reduceIte, Bool.false_eq_true, ix_4_0, ix_4_1, ix_4_2, ix_4_3, List.set_cons_zero, forall_const, cIte]; simp only [ne_eq, not_true, decide_false]; rfl) ?_
      refine w_nop ?_
      refine w_ret (key _ (fun k _ x hx => by simp only [gIx, at_nat, hx, Option.map_some]) rfl) ?_
      exact ⟨_, rfl, rfl⟩
  obtain ⟨o, e, rfl⟩ := step
  exact e
theorem same_refl : ∀ (n : Nat) (d : D), sd n d = true → FN__law_same (n + 1) [d, d] = some (⟨.bl true, false⟩, .non)
  | n, .non, _ => by
    show runB 3 2 false (B__law_same (FN__law_same n)) [.non, .non] = _
    rfl
  | n, .bl b, _ => by
    show runB 3 2 false (B__law_same (FN__law_same n)) [.bl b, .bl b] = _
    cases b <;> rfl
  | n, .int i, _ => by
    show runB 3 2 false (B__law_same (FN__law_same n)) [.int i, .int i] = _
    have e : gEq false [.int i, .int i] = some (RB true) := by rw [gEq_int, decide_eq_true rfl]
    have st : W (runB 3 2 false (B__law_same (FN__law_same n)) [.int i, .int i]) fun q => q = (⟨.bl true, false⟩, .non) := by
      unfold B__law_same
      refine w_run rfl (w_seq (w_if (by simp only [runB, env0, outB, ow0, evOps, sld, storeSl, setSh, ownL, cP, cC, cNm, cBo, cTr, dTru, cAnd, cOr, cNot, cAndV, cOrV, cNotV, DL.gTup, gLst, gIx, gLen, gAbs, gInt, gTupOf, gLstOf, cRet, cRetO, cSet, cSetIx, cAsg, cShare, shE, cIsi, cIsi2, tyIs, RB, RI, gEq_int, gNe_int, gEq_str, gNe_str, gLt_int, gGt_int, gLe_int, gGe_int, gAdd_int, gSub_int, at_0, at_1, at_2, at_3, at_4, at_5, at_6, cNx, cYes, cDrop, gIs, gIsNot, gIsB, isNon, Bool.false_xor, Bool.true_xor, gNeg, DL.gTupD, gConsD, gNilD, cCall, cCallM, flatR, List.map_cons, List.map_nil, List.length_cons, List.length_nil, List.length_map, List.length_set, List.cons_append, List.nil_append, List.replicate_succ, List.replicate_zero, List.getElem?_cons_zero, List.getElem?_cons_succ, List.set_cons_zero, List.set_cons_succ, Option.bind_eq_bind, Option.bind_some, Option.map_some, Option.bind_none, Nat.reduceAdd, Nat.reduceSub, Nat.reduceLeDiff, Nat.reduceLT, Nat.reduceEqDiff, Nat.zero_add, Bool.or_false, Bool.or_true, Bool.false_or, Bool.true_or, Bool.and_true, Bool.true_and, Bool.and_false, Bool.false_and, Bool.not_true, Bool.not_false, if_true, if_false, ↓reduceIte, Bool.false_eq_true, ix_4_0, ix_4_1, ix_4_2, ix_4_3, List.set_cons_zero, forall_const, cIte]; rfl) (w_nop (w_seq (w_if (by simp only [runB, env0, outB, ow0, evOps, sld, storeSl, setSh, ownL, cP, cC, cNm, cBo, cTr, dTru, cAnd, cOr, cNot, cAndV, cOrV, cNotV, DL.gTup, gLst, gIx, gLen, gAbs, gInt, gTupOf, gLstOf, cRet, cRetO, cSet, cSetIx, cAsg, cShare, shE, cIsi, cIsi2, tyIs, RB, RI, gEq_int, gNe_int, gEq_str, gNe_str, gLt_int, gGt_int, gLe_int, gGe_int, gAdd_int, gSub_int, at_0, at_1, at_2, at_3, at_4, at_5, at_6, cNx, cYes, cDrop, gIs, gIsNot, gIsB, isNon, Bool.false_xor, Bool.true_xor, gNeg, DL.gTupD, gConsD, gNilD, cCall, cCallM, flatR, List.map_cons, List.map_nil, List.length_cons, List.length_nil, List.length_map, List.length_set, List.cons_append, List.nil_append, List.replicate_succ, List.replicate_zero, List.getElem?_cons_zero, List.getElem?_cons_succ, List.set_cons_zero, List.set_cons_succ, Option.bind_eq_bind, Option.bind_some, Option.map_some, Option.bind_none, Nat.reduceAdd, Nat.reduceSub, Nat.reduceLeDiff, Nat.reduceLT, Nat.reduceEqDiff, Nat.zero_add, Bool.or_false, Bool.or_true, Bool.false_or, Bool.true_or, Bool.and_true, Bool.true_and, Bool.and_false, Bool.false_and, Bool.not_true, Bool.not_false, if_true, if_false, ↓reduceIte, Bool.false_eq_true, ix_4_0, ix_4_1, ix_4_2, ix_4_3, List.set_cons_zero, forall_const, cIte]; rfl) (w_nop (w_seq (w_if (by simp only [runB, env0, outB, ow0, evOps, sld, storeSl, setSh, ownL, cP, cC, cNm, cBo, cTr, dTru, cAnd, cOr, cNot, cAndV, cOrV, cNotV, DL.gTup, gLst, gIx, gLen, gAbs, gInt, gTupOf, gLstOf, cRet, cRetO, cSet, cSetIx, cAsg, cShare, shE, cIsi, cIsi2, tyIs, RB, RI, gEq_int, gNe_int, gEq_str, gNe_str, gLt_int, gGt_int, gLe_int, gGe_int, gAdd_int, gSub_int, at_0, at_1, at_2, at_3, at_4, at_5, at_6, cNx, cYes, cDrop, gIs, gIsNot, gIsB, isNon, Bool.false_xor, Bool.true_xor, gNeg, DL.gTupD, gConsD, gNilD, cCall, cCallM, flatR, List.map_cons, List.map_nil, List.length_cons, List.length_nil, List.length_map, List.length_set, List.cons_append, List.nil_append, List.replicate_succ, List.replicate_zero, List.getElem?_cons_zero, List.getElem?_cons_succ, List.set_cons_zero, List.set_cons_succ, Option.bind_eq_bind, Option.bind_some, Option.map_some, Option.bind_none, Nat.reduceAdd, Nat.reduceSub, Nat.reduceLeDiff, Nat.reduceLT, Nat.reduceEqDiff, Nat.zero_add, Bool.or_false, Bool.or_true, Bool.false_or, Bool.true_or, Bool.and_true, Bool.true_and, Bool.and_false, Bool.false_and, Bool.not_true, Bool.not_false, if_true, if_false, ↓reduceIte, Bool.false_eq_true, ix_4_0, ix_4_1, ix_4_2, ix_4_3, List.set_cons_zero, forall_const, cIte]; rfl) (w_nop (w_seq (w_if (by simp only [runB, env0, outB, ow0, evOps, sld, storeSl, setSh, ownL, cP, cC, cNm, cBo, cTr, dTru, cAnd, cOr, cNot, cAndV, cOrV, cNotV, DL.gTup, gLst, gIx, gLen, gAbs, gInt, gTupOf, gLstOf, cRet, cRetO, cSet, cSetIx, cAsg, cShare, shE, cIsi, cIsi2, tyIs, RB, RI, gEq_int, gNe_int, gEq_str, gNe_str, gLt_int, gGt_int, gLe_int, gGe_int, gAdd_int, gSub_int, at_0, at_1, at_2, at_3, at_4, at_5, at_6, cNx, cYes, cDrop, gIs, gIsNot, gIsB, isNon, Bool.false_xor, Bool.true_xor, gNeg, DL.gTupD, gConsD, gNilD, cCall, cCallM, flatR, List.map_cons, List.map_nil, List.length_cons, List.length_nil, List.length_map, List.length_set, List.cons_append, List.nil_append, List.replicate_succ, List.replicate_zero, List.getElem?_cons_zero, List.getElem?_cons_succ, List.set_cons_zero, List.set_cons_succ, Option.bind_eq_bind, Option.bind_some, Option.map_some, Option.bind_none, Nat.reduceAdd, Nat.reduceSub, Nat.reduceLeDiff, Nat.reduceLT, Nat.reduceEqDiff, Nat.zero_add, Bool.or_false, Bool.or_true, Bool.false_or, Bool.true_or, Bool.and_true, Bool.true_and, Bool.and_false, Bool.false_and, Bool.not_true, Bool.not_false, if_true, if_false, ↓reduceIte, Bool.false_eq_true, ix_4_0, ix_4_1, ix_4_2, ix_4_3, List.set_cons_zero, forall_const, cIte]; rfl) (w_nop ?_))))))))))))
      refine w_ret (by simp only [runB, env0, outB, ow0, evOps, sld, storeSl, setSh, ownL, cP, cC, cNm, cBo, cTr, dTru, cAnd, cOr, cNot, cAndV, cOrV, cNotV, DL.gTup, gLst, gAbs, gInt, gTupOf, gLstOf, cRet, cRetO, cSet, cSetIx, cAsg, cShare, shE, cIsi, cIsi2, tyIs, RB, RI, gNe_int, gNe_str, gLt_int, gGt_int, gLe_int, gGe_int, gAdd_int, gSub_int, at_0, at_1, at_2, at_3, at_4, at_5, at_6, cNx, cYes, cDrop, gIs, gIsNot, gIsB, isNon, Bool.false_xor, Bool.true_xor, gNeg, DL.gTupD, gConsD, gNilD, cCall, cCallM, flatR, List.map_cons, List.map_nil, List.length_cons, List.length_nil, List.length_map, List.length_set, List.cons_append, List.nil_append, List.replicate_succ, List.replicate_zero, List.getElem?_cons_zero, List.getElem?_cons_succ, List.set_cons_zero, List.set_cons_succ, Option.bind_eq_bind, Option.bind_some, Option.map_some, Option.bind_none, Nat.reduceAdd, Nat.reduceSub, Nat.reduceLeDiff, Nat.reduceLT, Nat.reduceEqDiff, Nat.zero_add, Bool.or_false, Bool.or_true, Bool.false_or, Bool.true_or, Bool.and_true, Bool.true_and, Bool.and_false, Bool.false_and, Bool.not_true, Bool.not_false, if_true, if_false, ↓reduceIte, Bool.false_eq_true, ix_4_0, ix_4_1, ix_4_2, ix_4_3, List.set_cons_zero, forall_const, cIte, e]; rfl) ?_
      exact ⟨_, rfl, rfl⟩
    obtain ⟨o, e, rfl⟩ := st
    exact e
  | n, .str x, h => by
    show runB 3 2 false (B__law_same (FN__law_same n)) [.str x, .str x] = _
    have e : gEq false [.str x, .str x] = some (RB true) := by rw [gEq_str, decide_eq_true rfl]
    have st : W (runB 3 2 false (B__law_same (FN__law_same n)) [.str x, .str x]) fun q => q = (⟨.bl true, false⟩, .non) := by
      unfold B__law_same
      refine w_run rfl (w_seq (w_if (by simp only [runB, env0, outB, ow0, evOps, sld, storeSl, setSh, ownL, cP, cC, cNm, cBo, cTr, dTru, cAnd, cOr, cNot, cAndV, cOrV, cNotV, DL.gTup, gLst, gIx, gLen, gAbs, gInt, gTupOf, gLstOf, cRet, cRetO, cSet, cSetIx, cAsg, cShare, shE, cIsi, cIsi2, tyIs, RB, RI, gEq_int, gNe_int, gEq_str, gNe_str, gLt_int, gGt_int, gLe_int, gGe_int, gAdd_int, gSub_int, at_0, at_1, at_2, at_3, at_4, at_5, at_6, cNx, cYes, cDrop, gIs, gIsNot, gIsB, isNon, Bool.false_xor, Bool.true_xor, gNeg, DL.gTupD, gConsD, gNilD, cCall, cCallM, flatR, List.map_cons, List.map_nil, List.length_cons, List.length_nil, List.length_map, List.length_set, List.cons_append, List.nil_append, List.replicate_succ, List.replicate_zero, List.getElem?_cons_zero, List.getElem?_cons_succ, List.set_cons_zero, List.set_cons_succ, Option.bind_eq_bind, Option.bind_some, Option.map_some, Option.bind_none, Nat.reduceAdd, Nat.reduceSub, Nat.reduceLeDiff, Nat.reduceLT, Nat.reduceEqDiff, Nat.zero_add, Bool.or_false, Bool.or_true, Bool.false_or, Bool.true_or, Bool.and_true, Bool.true_and, Bool.and_false, Bool.false_and, Bool.not_true, Bool.not_false, if_true, if_false, ↓reduceIte, Bool.false_eq_true, ix_4_0, ix_4_1, ix_4_2, ix_4_3, List.set_cons_zero, forall_const, cIte]; rfl) (w_nop (w_seq (w_if (by simp only [runB, env0, outB, ow0, evOps, sld, storeSl, setSh, ownL, cP, cC, cNm, cBo, cTr, dTru, cAnd, cOr, cNot, cAndV, cOrV, cNotV, DL.gTup, gLst, gIx, gLen, gAbs, gInt, gTupOf, gLstOf, cRet, cRetO, cSet, cSetIx, cAsg, cShare, shE, cIsi, cIsi2, tyIs, RB, RI, gEq_int, gNe_int, gEq_str, gNe_str, gLt_int, gGt_int, gLe_int, gGe_int, gAdd_int, gSub_int, at_0, at_1, at_2, at_3, at_4, at_5, at_6, cNx, cYes, cDrop, gIs, gIsNot, gIsB, isNon, Bool.false_xor, Bool.true_xor, gNeg, DL.gTupD, gConsD, gNilD, cCall, cCallM, flatR, List.map_cons, List.map_nil, List.length_cons, List.length_nil, List.length_map, List.length_set, List.cons_append, List.nil_append, List.replicate_succ, List.replicate_zero, List.getElem?_cons_zero, List.getElem?_cons_succ, List.set_cons_zero, List.set_cons_succ, Option.bind_eq_bind, Option.bind_some, Option.map_some, Option.bind_none, Nat.reduceAdd, Nat.reduceSub, Nat.reduceLeDiff, Nat.reduceLT, Nat.reduceEqDiff, Nat.zero_add, Bool.or_false, Bool.or_true, Bool.false_or, Bool.true_or, Bool.and_true, Bool.true_and, Bool.and_false, Bool.false_and, Bool.not_true, Bool.not_false, if_true, if_false, ↓reduceIte, Bool.false_eq_true, ix_4_0, ix_4_1, ix_4_2, ix_4_3, List.set_cons_zero, forall_const, cIte]; rfl) (w_nop (w_seq (w_if (by simp only [runB, env0, outB, ow0, evOps, sld, storeSl, setSh, ownL, cP, cC, cNm, cBo, cTr, dTru, cAnd, cOr, cNot, cAndV, cOrV, cNotV, DL.gTup, gLst, gIx, gLen, gAbs, gInt, gTupOf, gLstOf, cRet, cRetO, cSet, cSetIx, cAsg, cShare, shE, cIsi, cIsi2, tyIs, RB, RI, gEq_int, gNe_int, gEq_str, gNe_str, gLt_int, gGt_int, gLe_int, gGe_int, gAdd_int, gSub_int, at_0, at_1, at_2, at_3, at_4, at_5, at_6, cNx, cYes, cDrop, gIs, gIsNot, gIsB, isNon, Bool.false_xor, Bool.true_xor, gNeg, DL.gTupD, gConsD, gNilD, cCall, cCallM, flatR, List.map_cons, List.map_nil, List.length_cons, List.length_nil, List.length_map, List.length_set, List.cons_append, List.nil_append, List.replicate_succ, List.replicate_zero, List.getElem?_cons_zero, List.getElem?_cons_succ, List.set_cons_zero, List.set_cons_succ, Option.bind_eq_bind, Option.bind_some, Option.map_some, Option.bind_none, Nat.reduceAdd, Nat.reduceSub, Nat.reduceLeDiff, Nat.reduceLT, Nat.reduceEqDiff, Nat.zero_add, Bool.or_false, Bool.or_true, Bool.false_or, Bool.true_or, Bool.and_true, Bool.true_and, Bool.and_false, Bool.false_and, Bool.not_true, Bool.not_false, if_true, if_false, ↓reduceIte, Bool.false_eq_true, ix_4_0, ix_4_1, ix_4_2, ix_4_3, List.set_cons_zero, forall_const, cIte]; rfl) (w_nop (w_seq (w_it (by simp only [runB, env0, outB, ow0, evOps, sld, storeSl, setSh, ownL, cP, cC, cNm, cBo, cTr, dTru, cAnd, cOr, cNot, cAndV, cOrV, cNotV, DL.gTup, gLst, gIx, gLen, gAbs, gInt, gTupOf, gLstOf, cRet, cRetO, cSet, cSetIx, cAsg, cShare, shE, cIsi, cIsi2, tyIs, RB, RI, gEq_int, gNe_int, gEq_str, gNe_str, gLt_int, gGt_int, gLe_int, gGe_int, gAdd_int, gSub_int, at_0, at_1, at_2, at_3, at_4, at_5, at_6, cNx, cYes, cDrop, gIs, gIsNot, gIsB, isNon, Bool.false_xor, Bool.true_xor, gNeg, DL.gTupD, gConsD, gNilD, cCall, cCallM, flatR, List.map_cons, List.map_nil, List.length_cons, List.length_nil, List.length_map, List.length_set, List.cons_append, List.nil_append, List.replicate_succ, List.replicate_zero, List.getElem?_cons_zero, List.getElem?_cons_succ, List.set_cons_zero, List.set_cons_succ, Option.bind_eq_bind, Option.bind_some, Option.map_some, Option.bind_none, Nat.reduceAdd, Nat.reduceSub, Nat.reduceLeDiff, Nat.reduceLT, Nat.reduceEqDiff, Nat.zero_add, Bool.or_false, Bool.or_true, Bool.false_or, Bool.true_or, Bool.and_true, Bool.true_and, Bool.and_false, Bool.false_and, Bool.not_true, Bool.not_false, if_true, if_false, ↓reduceIte, Bool.false_eq_true, ix_4_0, ix_4_1, ix_4_2, ix_4_3, List.set_cons_zero, forall_const, cIte]; rfl) ?_)))))))))))
      refine w_ret (by simp only [runB, env0, outB, ow0, evOps, sld, storeSl, setSh, ownL, cP, cC, cNm, cBo, cTr, dTru, cAnd, cOr, cNot, cAndV, cOrV, cNotV, DL.gTup, gLst, gAbs, gInt, gTupOf, gLstOf, cRet, cRetO, cSet, cSetIx, cAsg, cShare, shE, cIsi, cIsi2, tyIs, RB, RI, gNe_int, gNe_str, gLt_int, gGt_int, gLe_int, gGe_int, gAdd_int, gSub_int, at_0, at_1, at_2, at_3, at_4, at_5, at_6, cNx, cYes, cDrop, gIs, gIsNot, gIsB, isNon, Bool.false_xor, Bool.true_xor, gNeg, DL.gTupD, gConsD, gNilD, cCall, cCallM, flatR, List.map_cons, List.map_nil, List.length_cons, List.length_nil, List.length_map, List.length_set, List.cons_append, List.nil_append, List.replicate_succ, List.replicate_zero, List.getElem?_cons_zero, List.getElem?_cons_succ, List.set_cons_zero, List.set_cons_succ, Option.bind_eq_bind, Option.bind_some, Option.map_some, Option.bind_none, Nat.reduceAdd, Nat.reduceSub, Nat.reduceLeDiff, Nat.reduceLT, Nat.reduceEqDiff, Nat.zero_add, Bool.or_false, Bool.or_true, Bool.false_or, Bool.true_or, Bool.and_true, Bool.true_and, Bool.and_false, Bool.false_and, Bool.not_true, Bool.not_false, if_true, if_false, ↓reduceIte, Bool.false_eq_true, ix_4_0, ix_4_1, ix_4_2, ix_4_3, List.set_cons_zero, forall_const, cIte, e]; rfl) ?_
      exact ⟨_, rfl, rfl⟩
    obtain ⟨o, e, rfl⟩ := st
    exact e
  | 0, .tup ds, h => by simp [sd] at h
  | 0, .lst ds, h => by simp [sd] at h
  | n + 1, .tup ds, h => by
    simp only [sd, Bool.and_eq_true, decide_eq_true_eq] at h
    exact same_seq (d := .non) (.inr rfl) h.1 fun d hd => same_refl n d (List.all_eq_true.mp h.2 d hd)
  | n + 1, .lst ds, h => by
    simp only [sd, Bool.and_eq_true, decide_eq_true_eq] at h
    exact same_seq (d := .non) (.inl rfl) h.1 fun d hd => same_refl n d (List.all_eq_true.mp h.2 d hd)
  | n, .dct a b, h => by cases n <;> simp [sd] at h
  | n, .scr a, h => by cases n <;> simp [sd] at h
theorem nx {ns : List Int} {L : List D} {m : Int} (h : DrS ns (.lst L)) (hm : 0 < m) (hm2 : m < 1000000) : ∃ r L', F__law_next [.lst L, .int m] = some (⟨.int r, false⟩, .lst L') ∧ 0 ≤ r ∧ r < m ∧ DrS ns (.lst L') := by
  obtain ⟨o, e, r, S', rfl, h0, h1, k, b, s, hk, rfl⟩ := next_ok h hm hm2
  exact ⟨r, _, e, h0, h1, k, b, s, hk, rfl⟩
theorem pickL (xs : List D) {r : Int} (h0 : 0 ≤ r) (h1 : r < xs.length) : ∃ x, x ∈ xs ∧ ∀ fl, gIx fl [.lst xs, .int r] = some ⟨x, false⟩ := by
  obtain ⟨k, rfl⟩ := Int.eq_ofNat_of_zero_le h0
  have hk : k < xs.length := by omega
  refine ⟨xs[k], List.getElem_mem hk, fun fl => ?_⟩
  show (atI xs (k : Int)).map _ = _
  rw [at_nat, List.getElem?_eq_getElem hk]
  rfl
/-! ### arms -/
def T4 : List D := [.str "gold", .str "silver", .str "red", .str "blue"]
def armsL : List D := T4.flatMap fun f => ([(D.str "none", D.non)] ++ T4.flatMap fun b => [(D.str "pale", b), (D.str "cross", b)]).flatMap fun s => ([(D.non, D.non)] ++ T4.flatMap fun t => [(D.str "bear", t), (D.str "lion", t)]).map fun c => D.tup [f, s.1, s.2, c.1, c.2]
def Arms (a : D) : Prop := ∃ f s b c t, a = .tup [f, s, b, c, t] ∧ f ∈ T4 ∧ (s = .str "none" ∧ b = .non ∨ (s = .str "pale" ∨ s = .str "cross") ∧ b ∈ T4) ∧ (c = .non ∧ t = .non ∨ (c = .str "bear" ∨ c = .str "lion") ∧ t ∈ T4)
theorem Arms.mem {a : D} (h : Arms a) : a ∈ armsL := by
  obtain ⟨f, s, b, c, t, rfl, hf, hs, hc⟩ := h
  unfold armsL
  refine List.mem_flatMap.mpr ⟨f, hf, List.mem_flatMap.mpr ⟨(s, b), ?_, List.mem_map.mpr ⟨(c, t), ?_, rfl⟩⟩⟩
  · rcases hs with ⟨rfl, rfl⟩ | ⟨hs, hb⟩
    · exact List.mem_append.mpr (.inl List.mem_cons_self)
    · refine List.mem_append.mpr (.inr (List.mem_flatMap.mpr ⟨b, hb, ?_⟩))
      rcases hs with rfl | rfl <;> simp
  · rcases hc with ⟨rfl, rfl⟩ | ⟨hs, hb⟩
    · exact List.mem_append.mpr (.inl List.mem_cons_self)
    · refine List.mem_append.mpr (.inr (List.mem_flatMap.mpr ⟨t, hb, ?_⟩))
      rcases hs with rfl | rfl <;> simp
theorem law_arms {ns : List Int} {L : List D} (h : DrS ns (.lst L)) : ∃ a L', F__law_arms [.lst L] = some (⟨a, false⟩, .lst L') ∧ Arms a ∧ DrS ns (.lst L') := by
  obtain ⟨r1, L1, e1, a1, b1, h1⟩ := nx h (m := 4) (by decide) (by decide)
  obtain ⟨r2, L2, e2, a2, b2, h2⟩ := nx h1 (m := 3) (by decide) (by decide)
  obtain ⟨r3, L3, e3, a3, b3, h3⟩ := nx h2 (m := 4) (by decide) (by decide)
  obtain ⟨r4, L4, e4, a4, b4, h4⟩ := nx h3 (m := 4) (by decide) (by decide)
  obtain ⟨r5, L5, e5, a5, b5, h5⟩ := nx h4 (m := 4) (by decide) (by decide)
  obtain ⟨x1, m1, p1⟩ := pickL [.str "none", .str "none", .str "pale", .str "cross"] a1 b1
  obtain ⟨x2, m2, p2⟩ := pickL [.non, .str "bear", .str "lion"] a2 b2
  obtain ⟨x3, m3, p3⟩ := pickL [.str "gold", .str "silver", .str "red", .str "blue"] a3 b3
  obtain ⟨x4, m4, p4⟩ := pickL [.str "gold", .str "silver", .str "red", .str "blue"] a4 b4
  obtain ⟨x5, m5, p5⟩ := pickL [.str "gold", .str "silver", .str "red", .str "blue"] a5 b5
  have st : W (F__law_arms [.lst L]) fun q => ∃ a, q = (⟨a, false⟩, .lst L5) ∧ Arms a := by
    unfold F__law_arms B__law_arms
    refine w_run rfl ?_
    refine w_nx (by simp only [runB, env0, outB, ow0, evOps, sld, storeSl, setSh, ownL, cP, cC, cNm, cBo, cTr, dTru, cAnd, cOr, cNot, cAndV, cOrV, cNotV, DL.gTup, gLst, gAbs, gInt, gTupOf, gLstOf, cRet, cRetO, cSet, cSetIx, cAsg, cShare, shE, cIsi, cIsi2, tyIs, RB, RI, gNe_int, gNe_str, gLt_int, gGt_int, gLe_int, gGe_int, gAdd_int, gSub_int, at_0, at_1, at_2, at_3, at_4, at_5, at_6, cNx, cYes, cDrop, gIs, gIsNot, gIsB, isNon, Bool.false_xor, Bool.true_xor, gNeg, DL.gTupD, gConsD, gNilD, cCall, cCallM, flatR, List.map_cons, List.map_nil, List.length_cons, List.length_nil, List.length_map, List.length_set, List.cons_append, List.nil_append, List.replicate_succ, List.replicate_zero, List.getElem?_cons_zero, List.getElem?_cons_succ, List.set_cons_zero, List.set_cons_succ, Option.bind_eq_bind, Option.bind_some, Option.map_some, Option.bind_none, Nat.reduceAdd, Nat.reduceSub, Nat.reduceLeDiff, Nat.reduceLT, Nat.reduceEqDiff, Nat.zero_add, Bool.or_false, Bool.or_true, Bool.false_or, Bool.true_or, Bool.and_true, Bool.true_and, Bool.and_false, Bool.false_and, Bool.not_true, Bool.not_false, if_true, if_false, ↓reduceIte, Bool.false_eq_true, ix_4_0, ix_4_1, ix_4_2, ix_4_3, List.set_cons_zero, forall_const, cIte]; rfl) ?_
    refine w_nx (by simp only [runB, env0, outB, ow0, evOps, sld, storeSl, setSh, ownL, cP, cC, cNm, cBo, cTr, dTru, cAnd, cOr, cNot, cAndV, cOrV, cNotV, DL.gTup, gLst, gAbs, gInt, gTupOf, gLstOf, cRet, cRetO, cSet, cSetIx, cAsg, cShare, shE, cIsi, cIsi2, tyIs, RB, RI, gNe_int, gNe_str, gLt_int, gGt_int, gLe_int, gGe_int, gAdd_int, gSub_int, at_0, at_1, at_2, at_3, at_4, at_5, at_6, cNx, cYes, cDrop, gIs, gIsNot, gIsB, isNon, Bool.false_xor, Bool.true_xor, gNeg, DL.gTupD, gConsD, gNilD, cCall, cCallM, flatR, List.map_cons, List.map_nil, List.length_cons, List.length_nil, List.length_map, List.length_set, List.cons_append, List.nil_append, List.replicate_succ, List.replicate_zero, List.getElem?_cons_zero, List.getElem?_cons_succ, List.set_cons_zero, List.set_cons_succ, Option.bind_eq_bind, Option.bind_some, Option.map_some, Option.bind_none, Nat.reduceAdd, Nat.reduceSub, Nat.reduceLeDiff, Nat.reduceLT, Nat.reduceEqDiff, Nat.zero_add, Bool.or_false, Bool.or_true, Bool.false_or, Bool.true_or, Bool.and_true, Bool.true_and, Bool.and_false, Bool.false_and, Bool.not_true, Bool.not_false, if_true, if_false, ↓reduceIte, Bool.false_eq_true, ix_4_0, ix_4_1, ix_4_2, ix_4_3, List.set_cons_zero, forall_const, cIte, cPar, e1, e2, p1, p2]; rfl) ?_
    refine w_nx (by simp only [runB, env0, outB, ow0, evOps, sld, storeSl, setSh, ownL, cP, cC, cNm, cBo, cTr, dTru, cAnd, cOr, cNot, cAndV, cOrV, cNotV, DL.gTup, gLst, gAbs, gInt, gTupOf, gLstOf, cRet, cRetO, cSet, cSetIx, cAsg, cShare, shE, cIsi, cIsi2, tyIs, RB, RI, gNe_int, gNe_str, gLt_int, gGt_int, gLe_int, gGe_int, gAdd_int, gSub_int, at_0, at_1, at_2, at_3, at_4, at_5, at_6, cNx, cYes, cDrop, gIs, gIsNot, gIsB, isNon, Bool.false_xor, Bool.true_xor, gNeg, DL.gTupD, gConsD, gNilD, cCall, cCallM, flatR, List.map_cons, List.map_nil, List.length_cons, List.length_nil, List.length_map, List.length_set, List.cons_append, List.nil_append, List.replicate_succ, List.replicate_zero, List.getElem?_cons_zero, List.getElem?_cons_succ, List.set_cons_zero, List.set_cons_succ, Option.bind_eq_bind, Option.bind_some, Option.map_some, Option.bind_none, Nat.reduceAdd, Nat.reduceSub, Nat.reduceLeDiff, Nat.reduceLT, Nat.reduceEqDiff, Nat.zero_add, Bool.or_false, Bool.or_true, Bool.false_or, Bool.true_or, Bool.and_true, Bool.true_and, Bool.and_false, Bool.false_and, Bool.not_true, Bool.not_false, if_true, if_false, ↓reduceIte, Bool.false_eq_true, ix_4_0, ix_4_1, ix_4_2, ix_4_3, List.set_cons_zero, forall_const, cIte, cPar, e3, e4, p3, p4]; rfl) ?_
    simp only [List.mem_cons, List.not_mem_nil, or_false] at m1 m2
    have n1 : (x1 = .str "none" ∨ (x1 = .str "pale" ∨ x1 = .str "cross")) := by rcases m1 with h | h | h | h <;> simp [h]
    have g1 : ∀ fl, ∃ b, gNe fl [x1, .str "none"] = some (RB b) ∧ (b = false → x1 = .str "none") ∧ (b = true → x1 = .str "pale" ∨ x1 = .str "cross") := by
      intro fl
      rcases n1 with h | h | h <;> subst h
      · exact ⟨false, rfl, fun _ => rfl, fun z => nomatch z⟩
      · exact ⟨true, rfl, (fun z => nomatch z), fun _ => .inl rfl⟩
      · exact ⟨true, rfl, (fun z => nomatch z), fun _ => .inr rfl⟩
    have g2 : ∀ fl, ∃ b, DL.gIsNot fl [x2, .non] = some (RB b) ∧ (b = false → x2 = .non) ∧ (b = true → x2 = .str "bear" ∨ x2 = .str "lion") := by
      intro fl
      rcases m2 with h | h | h <;> subst h
      · exact ⟨false, rfl, fun _ => rfl, fun z => nomatch z⟩
      · exact ⟨true, rfl, (fun z => nomatch z), fun _ => .inl rfl⟩
      · exact ⟨true, rfl, (fun z => nomatch z), fun _ => .inr rfl⟩
    obtain ⟨b1, q1, w1, w1'⟩ := g1 false
    obtain ⟨b2, q2, w2, w2'⟩ := g2 false
    cases b1 <;> cases b2
    · refine w_ret (by simp only [runB, env0, outB, ow0, evOps, sld, storeSl, setSh, ownL, cP, cC, cNm, cBo, cTr, dTru, cAnd, cOr, cNot, cAndV, cOrV, cNotV, DL.gTup, gLst, gAbs, gInt, gTupOf, gLstOf, cRet, cRetO, cSet, cSetIx, cAsg, cShare, shE, cIsi, cIsi2, tyIs, RB, RI, gLt_int, gGt_int, gLe_int, gGe_int, gAdd_int, gSub_int, at_0, at_1, at_2, at_3, at_4, at_5, at_6, cNx, cYes, cDrop, isNon, Bool.false_xor, Bool.true_xor, gNeg, DL.gTupD, gConsD, gNilD, cCall, cCallM, flatR, List.map_cons, List.map_nil, List.length_cons, List.length_nil, List.length_map, List.length_set, List.cons_append, List.nil_append, List.replicate_succ, List.replicate_zero, List.getElem?_cons_zero, List.getElem?_cons_succ, List.set_cons_zero, List.set_cons_succ, Option.bind_eq_bind, Option.bind_some, Option.map_some, Option.bind_none, Nat.reduceAdd, Nat.reduceSub, Nat.reduceLeDiff, Nat.reduceLT, Nat.reduceEqDiff, Nat.zero_add, Bool.or_false, Bool.or_true, Bool.false_or, Bool.true_or, Bool.and_true, Bool.true_and, Bool.and_false, Bool.false_and, Bool.not_true, Bool.not_false, if_true, if_false, ↓reduceIte, Bool.false_eq_true, ix_4_0, ix_4_1, ix_4_2, ix_4_3, List.set_cons_zero, forall_const, cIte, e5, p5, q1, q2]; rfl) ⟨_, rfl, _, rfl, _, _, _, _, _, rfl, m5, .inl ⟨w1 rfl, rfl⟩, .inl ⟨w2 rfl, rfl⟩⟩
    · refine w_ret (by simp only [runB, env0, outB, ow0, evOps, sld, storeSl, setSh, ownL, cP, cC, cNm, cBo, cTr, dTru, cAnd, cOr, cNot, cAndV, cOrV, cNotV, DL.gTup, gLst, gAbs, gInt, gTupOf, gLstOf, cRet, cRetO, cSet, cSetIx, cAsg, cShare, shE, cIsi, cIsi2, tyIs, RB, RI, gLt_int, gGt_int, gLe_int, gGe_int, gAdd_int, gSub_int, at_0, at_1, at_2, at_3, at_4, at_5, at_6, cNx, cYes, cDrop, isNon, Bool.false_xor, Bool.true_xor, gNeg, DL.gTupD, gConsD, gNilD, cCall, cCallM, flatR, List.map_cons, List.map_nil, List.length_cons, List.length_nil, List.length_map, List.length_set, List.cons_append, List.nil_append, List.replicate_succ, List.replicate_zero, List.getElem?_cons_zero, List.getElem?_cons_succ, List.set_cons_zero, List.set_cons_succ, Option.bind_eq_bind, Option.bind_some, Option.map_some, Option.bind_none, Nat.reduceAdd, Nat.reduceSub, Nat.reduceLeDiff, Nat.reduceLT, Nat.reduceEqDiff, Nat.zero_add, Bool.or_false, Bool.or_true, Bool.false_or, Bool.true_or, Bool.and_true, Bool.true_and, Bool.and_false, Bool.false_and, Bool.not_true, Bool.not_false, if_true, if_false, ↓reduceIte, Bool.false_eq_true, ix_4_0, ix_4_1, ix_4_2, ix_4_3, List.set_cons_zero, forall_const, cIte, e5, p5, q1, q2]; rfl) ⟨_, rfl, _, rfl, _, _, _, _, _, rfl, m5, .inl ⟨w1 rfl, rfl⟩, .inr ⟨w2' rfl, m4⟩⟩
    · refine w_ret (by simp only [runB, env0, outB, ow0, evOps, sld, storeSl, setSh, ownL, cP, cC, cNm, cBo, cTr, dTru, cAnd, cOr, cNot, cAndV, cOrV, cNotV, DL.gTup, gLst, gAbs, gInt, gTupOf, gLstOf, cRet, cRetO, cSet, cSetIx, cAsg, cShare, shE, cIsi, cIsi2, tyIs, RB, RI, gLt_int, gGt_int, gLe_int, gGe_int, gAdd_int, gSub_int, at_0, at_1, at_2, at_3, at_4, at_5, at_6, cNx, cYes, cDrop, isNon, Bool.false_xor, Bool.true_xor, gNeg, DL.gTupD, gConsD, gNilD, cCall, cCallM, flatR, List.map_cons, List.map_nil, List.length_cons, List.length_nil, List.length_map, List.length_set, List.cons_append, List.nil_append, List.replicate_succ, List.replicate_zero, List.getElem?_cons_zero, List.getElem?_cons_succ, List.set_cons_zero, List.set_cons_succ, Option.bind_eq_bind, Option.bind_some, Option.map_some, Option.bind_none, Nat.reduceAdd, Nat.reduceSub, Nat.reduceLeDiff, Nat.reduceLT, Nat.reduceEqDiff, Nat.zero_add, Bool.or_false, Bool.or_true, Bool.false_or, Bool.true_or, Bool.and_true, Bool.true_and, Bool.and_false, Bool.false_and, Bool.not_true, Bool.not_false, if_true, if_false, ↓reduceIte, Bool.false_eq_true, ix_4_0, ix_4_1, ix_4_2, ix_4_3, List.set_cons_zero, forall_const, cIte, e5, p5, q1, q2]; rfl) ⟨_, rfl, _, rfl, _, _, _, _, _, rfl, m5, .inr ⟨w1' rfl, m3⟩, .inl ⟨w2 rfl, rfl⟩⟩
    · refine w_ret (by simp only [runB, env0, outB, ow0, evOps, sld, storeSl, setSh, ownL, cP, cC, cNm, cBo, cTr, dTru, cAnd, cOr, cNot, cAndV, cOrV, cNotV, DL.gTup, gLst, gAbs, gInt, gTupOf, gLstOf, cRet, cRetO, cSet, cSetIx, cAsg, cShare, shE, cIsi, cIsi2, tyIs, RB, RI, gLt_int, gGt_int, gLe_int, gGe_int, gAdd_int, gSub_int, at_0, at_1, at_2, at_3, at_4, at_5, at_6, cNx, cYes, cDrop, isNon, Bool.false_xor, Bool.true_xor, gNeg, DL.gTupD, gConsD, gNilD, cCall, cCallM, flatR, List.map_cons, List.map_nil, List.length_cons, List.length_nil, List.length_map, List.length_set, List.cons_append, List.nil_append, List.replicate_succ, List.replicate_zero, List.getElem?_cons_zero, List.getElem?_cons_succ, List.set_cons_zero, List.set_cons_succ, Option.bind_eq_bind, Option.bind_some, Option.map_some, Option.bind_none, Nat.reduceAdd, Nat.reduceSub, Nat.reduceLeDiff, Nat.reduceLT, Nat.reduceEqDiff, Nat.zero_add, Bool.or_false, Bool.or_true, Bool.false_or, Bool.true_or, Bool.and_true, Bool.true_and, Bool.and_false, Bool.false_and, Bool.not_true, Bool.not_false, if_true, if_false, ↓reduceIte, Bool.false_eq_true, ix_4_0, ix_4_1, ix_4_2, ix_4_3, List.set_cons_zero, forall_const, cIte, e5, p5, q1, q2]; rfl) ⟨_, rfl, _, rfl, _, _, _, _, _, rfl, m5, .inr ⟨w1' rfl, m3⟩, .inr ⟨w2' rfl, m4⟩⟩
  obtain ⟨o, e, a, rfl, ha⟩ := st
  exact ⟨a, L5, e, ha, h5⟩
/-- what one def says of a thing -/
def saysB (x : Option (R × D)) : Option Bool := match x with
  | some (⟨.bl b, false⟩, .non) => some b
  | _ => none
theorem saysB_ok {x : Option (R × D)} {b : Bool} (h : saysB x = some b) : x = some (⟨.bl b, false⟩, .non) := by
  unfold saysB at h
  split at h
  · cases h; rfl
  · cases h
theorem arms_check : (armsL.all fun a => saysB (F_are_arms [a]) == some true && ((saysB (F_by_rule [a])).isSome && saysB (F_by_rule [a]) == saysB (F__law_by_rule [a])) && okd 18 a) = true := by decide +kernel
def NM : List D := [.str "aldo", .str "bert", .str "carl", .str "dirk"]
def mkE (nm : D) (p : Int × D) : D := .tup [nm, .int p.1, p.2]
def Ent (p : Int × D) : Prop := 0 ≤ p.1 ∧ p.1 < 4 ∧ Arms p.2
def rollD (es : List (Int × D)) : List D := List.zipWith mkE NM es
theorem slNM {r : Int} (h0 : 0 ≤ r) (h1 : r < 5) (fl : Bool) : gSl01 fl [.lst [.str "aldo", .str "bert", .str "carl", .str "dirk"], .int r] = some ⟨.lst (NM.take r.toNat), true⟩ := by
  have : r = 0 ∨ r = 1 ∨ r = 2 ∨ r = 3 ∨ r = 4 := by omega
  rcases this with h | h | h | h | h <;> subst h <;> rfl
theorem law_roll {ns : List Int} {L : List D} (h : DrS ns (.lst L)) : ∃ es L', F__law_roll [.lst L, .int 4] = some (⟨.tup (rollD es), false⟩, .lst L') ∧ es.length ≤ 4 ∧ (∀ p, p ∈ es → Ent p) ∧ DrS ns (.lst L') := by
  obtain ⟨r, L1, e1, a1, b1, h1⟩ := nx h (m := 5) (by decide) (by decide)
  obtain ⟨acc, e', q1, es, L2, q2, h2, q3, q4, q5⟩ := lc_run (vs := [2]) (it := cIt (cP gSl01 [(.ex (cP DL.gLst [(.ex (cC (.str "aldo"))), (.ex (cC (.str "bert"))), (.ex (cC (.str "carl"))), (.ex (cC (.str "dirk")))])), (.ex (cCallM F__law_next 0 [(.ex (cP gAdd [(.nm 1), (.ex (cC (.int 1)))]))]))])) (gt := setSh 2) (t := cYes) (fe := cP DL.gTup [(.nm 2), (.ex (cCallM F__law_next 0 [(.ex (cC (.int 4)))])), (.ex (cCallM F__law_arms 0 []))])
    (ds0 := NM.take r.toNat) (env := [.ow (.lst L), .sh (.int 4), .no]) (e1 := [.ow (.lst L1), .sh (.int 4), .no]) (e2 := [.ow (.lst L1), .sh (.int 4), .no])
    (fun pre acc e => ∃ es L', e = [.ow (.lst L'), .sh (.int 4), .no] ∧ DrS ns (.lst L') ∧ acc = List.zipWith mkE pre es ∧ es.length = pre.length ∧ ∀ p, p ∈ es → Ent p)
    (by simp only [runB, env0, outB, ow0, evOps, sld, storeSl, setSh, ownL, cP, cC, cNm, cBo, cTr, dTru, cAnd, cOr, cNot, cAndV, cOrV, cNotV, DL.gTup, gLst, gAbs, gInt, gTupOf, gLstOf, cRet, cRetO, cSet, cSetIx, cAsg, cShare, shE, cIsi, cIsi2, tyIs, RB, RI, gNe_int, gNe_str, gLt_int, gGt_int, gLe_int, gGe_int, gAdd_int, gSub_int, at_0, at_1, at_2, at_3, at_4, at_5, at_6, cNx, cYes, cDrop, gIs, gIsNot, gIsB, isNon, Bool.false_xor, Bool.true_xor, gNeg, DL.gTupD, gConsD, gNilD, cCall, cCallM, flatR, List.map_cons, List.map_nil, List.length_cons, List.length_nil, List.length_map, List.length_set, List.cons_append, List.nil_append, List.replicate_succ, List.replicate_zero, List.getElem?_cons_zero, List.getElem?_cons_succ, List.set_cons_zero, List.set_cons_succ, Option.bind_eq_bind, Option.bind_some, Option.map_some, Option.bind_none, Nat.reduceAdd, Nat.reduceSub, Nat.reduceLeDiff, Nat.reduceLT, Nat.reduceEqDiff, Nat.zero_add, Bool.or_false, Bool.or_true, Bool.false_or, Bool.true_or, Bool.and_true, Bool.true_and, Bool.and_false, Bool.false_and, Bool.not_true, Bool.not_false, if_true, if_false, ↓reduceIte, Bool.false_eq_true, ix_4_0, ix_4_1, ix_4_2, ix_4_3, List.set_cons_zero, forall_const, cIte, cIt, Int.reduceAdd, e1, slNM a1 b1, itSeq]) rfl ⟨[], L1, rfl, h1, rfl, rfl, fun _ z => nomatch z⟩ (by rw [List.length_take]; exact Nat.le_trans (Nat.min_le_right _ _) (by decide)) (fun pre d post acc e hp ⟨es, L', he, hL, ha, hl, hE⟩ => by
      subst he
      obtain ⟨g, L3, e3, a3, b3, h3⟩ := nx hL (m := 4) (by decide) (by decide)
      obtain ⟨a, L4, e4, ha4, h4⟩ := law_arms h3
      refine ⟨_, true, _, rfl, rfl, ⟨mkE d (g, a), false⟩, [.ow (.lst L4), .sh (.int 4), .sh d], _, ?_, rfl, es ++ [(g, a)], L4, rfl, h4, ?_, ?_, ?_⟩
      · simp only [runB, env0, outB, ow0, evOps, sld, storeSl, setSh, ownL, cP, cC, cNm, cBo, cTr, dTru, cAnd, cOr, cNot, cAndV, cOrV, cNotV, DL.gTup, gLst, gAbs, gInt, gTupOf, gLstOf, cRet, cRetO, cSet, cSetIx, cAsg, cShare, shE, cIsi, cIsi2, tyIs, RB, RI, gNe_int, gNe_str, gLt_int, gGt_int, gLe_int, gGe_int, gAdd_int, gSub_int, at_0, at_1, at_2, at_3, at_4, at_5, at_6, cNx, cYes, cDrop, gIs, gIsNot, gIsB, isNon, Bool.false_xor, Bool.true_xor, gNeg, DL.gTupD, gConsD, gNilD, cCall, cCallM, flatR, List.map_cons, List.map_nil, List.length_cons, List.length_nil, List.length_map, List.length_set, List.cons_append, List.nil_append, List.replicate_succ, List.replicate_zero, List.getElem?_cons_zero, List.getElem?_cons_succ, List.set_cons_zero, List.set_cons_succ, Option.bind_eq_bind, Option.bind_some, Option.map_some, Option.bind_none, Nat.reduceAdd, Nat.reduceSub, Nat.reduceLeDiff, Nat.reduceLT, Nat.reduceEqDiff, Nat.zero_add, Bool.or_false, Bool.or_true, Bool.false_or, Bool.true_or, Bool.and_true, Bool.true_and, Bool.and_false, Bool.false_and, Bool.not_true, Bool.not_false, if_true, if_false, ↓reduceIte, Bool.false_eq_true, ix_4_0, ix_4_1, ix_4_2, ix_4_3, List.set_cons_zero, forall_const, cIte, e3, e4, mkE]
      · rw [List.zipWith_append hl.symm, ha]; rfl
      · simp [hl]
      · intro p hp
        rcases List.mem_append.mp hp with z | z
        · exact hE p z
        · rw [List.mem_singleton.mp z]; exact ⟨a3, b3, ha4⟩)
  subst q2
  have hlen : es.length ≤ 4 := by rw [q4, List.length_take]; exact Nat.min_le_right _ _
  have hr : acc = rollD es := by
    rw [q3, rollD]
    have : NM.take r.toNat = NM.take es.length := by rw [q4, List.length_take]; simp [NM]
    rw [this]
    clear q1 q3 this q4 q5
    match es, hlen with
    | [], _ => rfl
    | [_], _ => rfl
    | [_, _], _ => rfl
    | [_, _, _], _ => rfl
    | [_, _, _, _], _ => rfl
  refine ⟨es, L2, ?_, hlen, q5, h2⟩
  have st : W (F__law_roll [.lst L, .int 4]) fun q => q = (⟨.tup (rollD es), false⟩, .lst L2) := by
    unfold F__law_roll B__law_roll
    refine w_run rfl (w_ret (by
      show cP gTupOf _ [.ow (.lst L), .sh (.int 4), .no] = _
      simp only [cP, evOps, q1, Option.bind_eq_bind, Option.bind_some, gTupOf]
      rfl) ?_)
    exact ⟨_, rfl, by rw [hr]⟩
  obtain ⟨o, e, rfl⟩ := st
  exact e
def nb (x y : D) : Bool := !PyData.eqv (toP x) (toP y)
theorem gNe_nb {x y : D} (fl : Bool) (hx : okd 20 x = true) (hy : okd 20 y = true) : gNe fl [x, y] = some (RB (nb x y)) := by
  show (if okEb x y = true then _ else _) = _
  unfold okEb
  rw [hx, hy]
  rfl
def i1 (b : Bool) : Int := if b then 1 else 0
/-- in how many parts two arms differ -/
def cnt : D → D → Int
  | .tup [a, b, c, d, e], .tup [a', b', c', d', e'] => i1 (nb a a') + i1 (nb b b') + i1 (nb c c') + i1 (nb d d') + i1 (nb e e')
  | _, _ => 0
def phiA : D → Option D
  | .tup [x, y] => if nb x y then some (.int 1) else none
  | _ => none
theorem apart1 {a b c d e a' b' c' d' e' : D} (h : [a, b, c, d, e, a', b', c', d', e'].all (okd 20) = true) :
    F_parts_apart [.tup [a, b, c, d, e], .tup [a', b', c', d', e']] = some (RI (cnt (.tup [a, b, c, d, e]) (.tup [a', b', c', d', e'])), .non) := by
  simp only [List.all_cons, List.all_nil, Bool.and_true, Bool.and_eq_true] at h
  obtain ⟨oa, ob, oc, od, oe, oa', ob', oc', od', oe'⟩ := h
  have h1 := lc_map (vs := [2, 3]) (it := cZip (.nm 0) (.nm 1)) (gt := DL.gTupD 2 (gConsD (setSh 2) (gConsD (setSh 3) gNilD))) (t := cBo (cP gNe [(.nm 2), (.nm 3)])) (fe := cC (.int 1))
    (ds0 := [.tup [a, a'], .tup [b, b'], .tup [c, c'], .tup [d, d'], .tup [e, e']]) (env := [.sh (.tup [a, b, c, d, e]), .sh (.tup [a', b', c', d', e']), .no, .no]) (e1 := [.sh (.tup [a, b, c, d, e]), .sh (.tup [a', b', c', d', e']), .no, .no]) (e2 := [.sh (.tup [a, b, c, d, e]), .sh (.tup [a', b', c', d', e']), .no, .no])
    phiA rfl rfl (by simp) (fun z hz => by
      have key : ∀ x y : D, okd 20 x = true → okd 20 y = true → z = .tup [x, y] → ∃ e3 q e4, DL.gTupD 2 (gConsD (setSh 2) (gConsD (setSh 3) gNilD)) z [.sh (.tup [a, b, c, d, e]), .sh (.tup [a', b', c', d', e']), .no, .no] = some e3 ∧ cBo (cP gNe [(.nm 2), (.nm 3)]) e3 = some (q, e4) ∧ (match q with
          | true => ∃ r e5, cC (.int 1) e4 = some (r, e5) ∧ wipeE [2, 3] e5 = some [.sh (.tup [a, b, c, d, e]), .sh (.tup [a', b', c', d', e']), .no, .no] ∧ phiA z = some r.d
          | false => wipeE [2, 3] e4 = some [.sh (.tup [a, b, c, d, e]), .sh (.tup [a', b', c', d', e']), .no, .no] ∧ phiA z = none) := by
        intro x y hx hy ez
        subst ez
        refine ⟨_, nb x y, [.sh (.tup [a, b, c, d, e]), .sh (.tup [a', b', c', d', e']), .sh x, .sh y], rfl, by simp only [runB, env0, outB, ow0, evOps, sld, storeSl, setSh, ownL, cP, cC, cNm, cBo, cTr, dTru, cAnd, cOr, cNot, cAndV, cOrV, cNotV, DL.gTup, gLst, gAbs, gInt, gTupOf, gLstOf, cRet, cRetO, cSet, cSetIx, cAsg, cShare, shE, cIsi, cIsi2, tyIs, RB, RI, gLt_int, gGt_int, gLe_int, gGe_int, gAdd_int, gSub_int, at_0, at_1, at_2, at_3, at_4, at_5, at_6, cNx, cYes, cDrop, isNon, Bool.false_xor, Bool.true_xor, gNeg, DL.gTupD, gConsD, gNilD, cCall, cCallM, flatR, List.map_cons, List.map_nil, List.length_cons, List.length_nil, List.length_map, List.length_set, List.cons_append, List.nil_append, List.replicate_succ, List.replicate_zero, List.getElem?_cons_zero, List.getElem?_cons_succ, List.set_cons_zero, List.set_cons_succ, Option.bind_eq_bind, Option.bind_some, Option.map_some, Option.bind_none, Nat.reduceAdd, Nat.reduceSub, Nat.reduceLeDiff, Nat.reduceLT, Nat.reduceEqDiff, Nat.zero_add, Bool.or_false, Bool.or_true, Bool.false_or, Bool.true_or, Bool.and_true, Bool.true_and, Bool.and_false, Bool.false_and, Bool.not_true, Bool.not_false, if_true, if_false, ↓reduceIte, Bool.false_eq_true, ix_4_0, ix_4_1, ix_4_2, ix_4_3, List.set_cons_zero, forall_const, cIte, gNe_nb _ hx hy], ?_⟩
        cases w : nb x y with
        | true => exact ⟨_, _, rfl, rfl, by simp [phiA, w]⟩
        | false => exact ⟨rfl, by simp [phiA, w]⟩
      simp only [List.mem_cons, List.not_mem_nil, or_false] at hz
      rcases hz with z | z | z | z | z
      · exact key _ _ oa oa' z
      · exact key _ _ ob ob' z
      · exact key _ _ oc oc' z
      · exact key _ _ od od' z
      · exact key _ _ oe oe' z)
  have st : W (F_parts_apart [.tup [a, b, c, d, e], .tup [a', b', c', d', e']]) fun q => q = (RI (cnt (.tup [a, b, c, d, e]) (.tup [a', b', c', d', e'])), .non) := by
    unfold F_parts_apart B_parts_apart
    refine w_run rfl (w_ret (by
      show cP gLen _ [.sh (.tup [a, b, c, d, e]), .sh (.tup [a', b', c', d', e']), .no, .no] = _
      simp only [cP, evOps, h1, Option.bind_eq_bind, Option.bind_some, gLen]
      rfl) ?_)
    refine ⟨_, rfl, ?_⟩
    simp only [cnt, List.filterMap_cons, List.filterMap_nil, phiA]
    cases nb a a' <;> cases nb b b' <;> cases nb c c' <;> cases nb d d' <;> cases nb e e' <;> rfl
  obtain ⟨o, e, rfl⟩ := st
  exact e
theorem apart2 {a b c d e a' b' c' d' e' : D} (h : [a, b, c, d, e, a', b', c', d', e'].all (okd 20) = true) :
    F__law_apart [.tup [a, b, c, d, e], .tup [a', b', c', d', e']] = some (RI (cnt (.tup [a, b, c, d, e]) (.tup [a', b', c', d', e'])), .non) := by
  simp only [List.all_cons, List.all_nil, Bool.and_true, Bool.and_eq_true] at h
  obtain ⟨oa, ob, oc, od, oe, oa', ob', oc', od', oe'⟩ := h
  have h1 := lc_map (vs := [2]) (it := cRg1 (.ex (cC (.int 5)))) (gt := setSh 2) (t := cYes) (fe := cIte (cBo (cP gNe [(.ex (cP gIx [(.nm 0), (.nm 2)])), (.ex (cP gIx [(.nm 1), (.nm 2)]))])) (cC (.int 1)) (cC (.int 0)))
    (ds0 := [.int 0, .int 1, .int 2, .int 3, .int 4]) (env := [.sh (.tup [a, b, c, d, e]), .sh (.tup [a', b', c', d', e']), .no]) (e1 := [.sh (.tup [a, b, c, d, e]), .sh (.tup [a', b', c', d', e']), .no]) (e2 := [.sh (.tup [a, b, c, d, e]), .sh (.tup [a', b', c', d', e']), .no])
    (fun z => match z with
      | .int 0 => some (.int (i1 (nb a a')))
      | .int 1 => some (.int (i1 (nb b b')))
      | .int 2 => some (.int (i1 (nb c c')))
      | .int 3 => some (.int (i1 (nb d d')))
      | _ => some (.int (i1 (nb e e')))) rfl rfl (by simp) (fun z hz => by
      simp only [List.mem_cons, List.not_mem_nil, or_false] at hz
      have fin : ∀ q : Bool, ∃ r e5, (if q then cC (.int 1) else cC (.int 0)) [.sh (.tup [a, b, c, d, e]), .sh (.tup [a', b', c', d', e']), .sh z] = some (r, e5) ∧ wipeE [2] e5 = some [.sh (.tup [a, b, c, d, e]), .sh (.tup [a', b', c', d', e']), .no] ∧ D.int (i1 q) = r.d := fun q => by
        cases q
        · exact ⟨_, _, rfl, rfl, rfl⟩
        · exact ⟨_, _, rfl, rfl, rfl⟩
      refine ⟨_, true, _, rfl, rfl, ?_⟩
      rcases hz with z | z | z | z | z <;> subst z
      · obtain ⟨r, e5, f1, f2, f3⟩ := fin (nb a a')
        refine ⟨r, e5, ?_, f2, by rw [← f3]; rfl⟩
        simp only [runB, env0, outB, ow0, evOps, sld, storeSl, setSh, ownL, cP, cC, cNm, cBo, cTr, dTru, cAnd, cOr, cNot, cAndV, cOrV, cNotV, DL.gTup, gLst, gAbs, gInt, gTupOf, gLstOf, cRet, cRetO, cSet, cSetIx, cAsg, cShare, shE, cIsi, cIsi2, tyIs, RB, RI, gLt_int, gGt_int, gLe_int, gGe_int, gAdd_int, gSub_int, at_0, at_1, at_2, at_3, at_4, at_5, at_6, cNx, cYes, cDrop, isNon, Bool.false_xor, Bool.true_xor, gNeg, DL.gTupD, gConsD, gNilD, cCall, cCallM, flatR, List.map_cons, List.map_nil, List.length_cons, List.length_nil, List.length_map, List.length_set, List.cons_append, List.nil_append, List.replicate_succ, List.replicate_zero, List.getElem?_cons_zero, List.getElem?_cons_succ, List.set_cons_zero, List.set_cons_succ, Option.bind_eq_bind, Option.bind_some, Option.map_some, Option.bind_none, Nat.reduceAdd, Nat.reduceSub, Nat.reduceLeDiff, Nat.reduceLT, Nat.reduceEqDiff, Nat.zero_add, Bool.or_false, Bool.or_true, Bool.false_or, Bool.true_or, Bool.and_true, Bool.true_and, Bool.and_false, Bool.false_and, Bool.not_true, Bool.not_false, if_true, if_false, ↓reduceIte, Bool.false_eq_true, ix_4_0, ix_4_1, ix_4_2, ix_4_3, List.set_cons_zero, forall_const, cIte, at_0, gIx, gNe_nb _ oa oa']
        revert f1; cases nb a a' <;> exact id
      · obtain ⟨r, e5, f1, f2, f3⟩ := fin (nb b b')
        refine ⟨r, e5, ?_, f2, by rw [← f3]; rfl⟩
        simp only [runB, env0, outB, ow0, evOps, sld, storeSl, setSh, ownL, cP, cC, cNm, cBo, cTr, dTru, cAnd, cOr, cNot, cAndV, cOrV, cNotV, DL.gTup, gLst, gAbs, gInt, gTupOf, gLstOf, cRet, cRetO, cSet, cSetIx, cAsg, cShare, shE, cIsi, cIsi2, tyIs, RB, RI, gLt_int, gGt_int, gLe_int, gGe_int, gAdd_int, gSub_int, at_0, at_1, at_2, at_3, at_4, at_5, at_6, cNx, cYes, cDrop, isNon, Bool.false_xor, Bool.true_xor, gNeg, DL.gTupD, gConsD, gNilD, cCall, cCallM, flatR, List.map_cons, List.map_nil, List.length_cons, List.length_nil, List.length_map, List.length_set, List.cons_append, List.nil_append, List.replicate_succ, List.replicate_zero, List.getElem?_cons_zero, List.getElem?_cons_succ, List.set_cons_zero, List.set_cons_succ, Option.bind_eq_bind, Option.bind_some, Option.map_some, Option.bind_none, Nat.reduceAdd, Nat.reduceSub, Nat.reduceLeDiff, Nat.reduceLT, Nat.reduceEqDiff, Nat.zero_add, Bool.or_false, Bool.or_true, Bool.false_or, Bool.true_or, Bool.and_true, Bool.true_and, Bool.and_false, Bool.false_and, Bool.not_true, Bool.not_false, if_true, if_false, ↓reduceIte, Bool.false_eq_true, ix_4_0, ix_4_1, ix_4_2, ix_4_3, List.set_cons_zero, forall_const, cIte, at_1, gIx, gNe_nb _ ob ob']
        revert f1; cases nb b b' <;> exact id
      · obtain ⟨r, e5, f1, f2, f3⟩ := fin (nb c c')
        refine ⟨r, e5, ?_, f2, by rw [← f3]; rfl⟩
        simp only [runB, env0, outB, ow0, evOps, sld, storeSl, setSh, ownL, cP, cC, cNm, cBo, cTr, dTru, cAnd, cOr, cNot, cAndV, cOrV, cNotV, DL.gTup, gLst, gAbs, gInt, gTupOf, gLstOf, cRet, cRetO, cSet, cSetIx, cAsg, cShare, shE, cIsi, cIsi2, tyIs, RB, RI, gLt_int, gGt_int, gLe_int, gGe_int, gAdd_int, gSub_int, at_0, at_1, at_2, at_3, at_4, at_5, at_6, cNx, cYes, cDrop, isNon, Bool.false_xor, Bool.true_xor, gNeg, DL.gTupD, gConsD, gNilD, cCall, cCallM, flatR, List.map_cons, List.map_nil, List.length_cons, List.length_nil, List.length_map, List.length_set, List.cons_append, List.nil_append, List.replicate_succ, List.replicate_zero, List.getElem?_cons_zero, List.getElem?_cons_succ, List.set_cons_zero, List.set_cons_succ, Option.bind_eq_bind, Option.bind_some, Option.map_some, Option.bind_none, Nat.reduceAdd, Nat.reduceSub, Nat.reduceLeDiff, Nat.reduceLT, Nat.reduceEqDiff, Nat.zero_add, Bool.or_false, Bool.or_true, Bool.false_or, Bool.true_or, Bool.and_true, Bool.true_and, Bool.and_false, Bool.false_and, Bool.not_true, Bool.not_false, if_true, if_false, ↓reduceIte, Bool.false_eq_true, ix_4_0, ix_4_1, ix_4_2, ix_4_3, List.set_cons_zero, forall_const, cIte, at_2, gIx, gNe_nb _ oc oc']
        revert f1; cases nb c c' <;> exact id
      · obtain ⟨r, e5, f1, f2, f3⟩ := fin (nb d d')
        refine ⟨r, e5, ?_, f2, by rw [← f3]; rfl⟩
        simp only [runB, env0, outB, ow0, evOps, sld, storeSl, setSh, ownL, cP, cC, cNm, cBo, cTr, dTru, cAnd, cOr, cNot, cAndV, cOrV, cNotV, DL.gTup, gLst, gAbs, gInt, gTupOf, gLstOf, cRet, cRetO, cSet, cSetIx, cAsg, cShare, shE, cIsi, cIsi2, tyIs, RB, RI, gLt_int, gGt_int, gLe_int, gGe_int, gAdd_int, gSub_int, at_0, at_1, at_2, at_3, at_4, at_5, at_6, cNx, cYes, cDrop, isNon, Bool.false_xor, Bool.true_xor, gNeg, DL.gTupD, gConsD, gNilD, cCall, cCallM, flatR, List.map_cons, List.map_nil, List.length_cons, List.length_nil, List.length_map, List.length_set, List.cons_append, List.nil_append, List.replicate_succ, List.replicate_zero, List.getElem?_cons_zero, List.getElem?_cons_succ, List.set_cons_zero, List.set_cons_succ, Option.bind_eq_bind, Option.bind_some, Option.map_some, Option.bind_none, Nat.reduceAdd, Nat.reduceSub, Nat.reduceLeDiff, Nat.reduceLT, Nat.reduceEqDiff, Nat.zero_add, Bool.or_false, Bool.or_true, Bool.false_or, Bool.true_or, Bool.and_true, Bool.true_and, Bool.and_false, Bool.false_and, Bool.not_true, Bool.not_false, if_true, if_false, ↓reduceIte, Bool.false_eq_true, ix_4_0, ix_4_1, ix_4_2, ix_4_3, List.set_cons_zero, forall_const, cIte, at_3, gIx, gNe_nb _ od od']
        revert f1; cases nb d d' <;> exact id
      · obtain ⟨r, e5, f1, f2, f3⟩ := fin (nb e e')
        refine ⟨r, e5, ?_, f2, by rw [← f3]; rfl⟩
        simp only [runB, env0, outB, ow0, evOps, sld, storeSl, setSh, ownL, cP, cC, cNm, cBo, cTr, dTru, cAnd, cOr, cNot, cAndV, cOrV, cNotV, DL.gTup, gLst, gAbs, gInt, gTupOf, gLstOf, cRet, cRetO, cSet, cSetIx, cAsg, cShare, shE, cIsi, cIsi2, tyIs, RB, RI, gLt_int, gGt_int, gLe_int, gGe_int, gAdd_int, gSub_int, at_0, at_1, at_2, at_3, at_4, at_5, at_6, cNx, cYes, cDrop, isNon, Bool.false_xor, Bool.true_xor, gNeg, DL.gTupD, gConsD, gNilD, cCall, cCallM, flatR, List.map_cons, List.map_nil, List.length_cons, List.length_nil, List.length_map, List.length_set, List.cons_append, List.nil_append, List.replicate_succ, List.replicate_zero, List.getElem?_cons_zero, List.getElem?_cons_succ, List.set_cons_zero, List.set_cons_succ, Option.bind_eq_bind, Option.bind_some, Option.map_some, Option.bind_none, Nat.reduceAdd, Nat.reduceSub, Nat.reduceLeDiff, Nat.reduceLT, Nat.reduceEqDiff, Nat.zero_add, Bool.or_false, Bool.or_true, Bool.false_or, Bool.true_or, Bool.and_true, Bool.true_and, Bool.and_false, Bool.false_and, Bool.not_true, Bool.not_false, if_true, if_false, ↓reduceIte, Bool.false_eq_true, ix_4_0, ix_4_1, ix_4_2, ix_4_3, List.set_cons_zero, forall_const, cIte, at_4, gIx, gNe_nb _ oe oe']
        revert f1; cases nb e e' <;> exact id)
  have st : W (F__law_apart [.tup [a, b, c, d, e], .tup [a', b', c', d', e']]) fun q => q = (RI (cnt (.tup [a, b, c, d, e]) (.tup [a', b', c', d', e'])), .non) := by
    unfold F__law_apart B__law_apart
    refine w_run rfl (w_ret (by
      show cP gSum _ [.sh (.tup [a, b, c, d, e]), .sh (.tup [a', b', c', d', e']), .no] = _
      simp only [cP, evOps, h1, Option.bind_eq_bind, Option.bind_some, gSum]
      rfl) ?_)
    refine ⟨_, rfl, ?_⟩
    simp only [cnt]
    cases nb a a' <;> cases nb b b' <;> cases nb c c' <;> cases nb d d' <;> cases nb e e' <;> rfl
  obtain ⟨o, e, rfl⟩ := st
  exact e
theorem armsOf {a : D} (h : Arms a) : F_are_arms [a] = some (RB true, .non) ∧ (∃ b, F_by_rule [a] = some (RB b, .non) ∧ F__law_by_rule [a] = some (RB b, .non)) ∧ okd 18 a = true := by
  have hm := List.all_eq_true.mp arms_check a h.mem
  simp only [Bool.and_eq_true, beq_iff_eq] at hm
  obtain ⟨⟨h1, h2, h3⟩, h4⟩ := hm
  obtain ⟨b, hb⟩ := Option.isSome_iff_exists.mp h2
  exact ⟨saysB_ok h1, ⟨b, saysB_ok hb, saysB_ok (by rw [← h3]; exact hb)⟩, h4⟩
theorem apartOf {a b : D} (ha : Arms a) (hb : Arms b) : F_parts_apart [a, b] = some (RI (cnt a b), .non) ∧ F__law_apart [a, b] = some (RI (cnt a b), .non) := by
  have oa := (armsOf ha).2.2
  have ob := (armsOf hb).2.2
  obtain ⟨f, s, b1, c, t, rfl, _⟩ := ha
  obtain ⟨f', s', b1', c', t', rfl, _⟩ := hb
  simp only [okd, List.all_cons, List.all_nil, Bool.and_true, Bool.and_eq_true] at oa ob
  have up : ∀ x : D, okd 17 x = true → okd 20 x = true := fun x h => okd_up 17 20 x (by decide) h
  have hh : [f, s, b1, c, t, f', s', b1', c', t'].all (okd 20) = true := by
    simp only [List.all_cons, List.all_nil, Bool.and_true, Bool.and_eq_true]
    exact ⟨up _ oa.1, up _ oa.2.1, up _ oa.2.2.1, up _ oa.2.2.2.1, up _ oa.2.2.2.2, up _ ob.1, up _ ob.2.1, up _ ob.2.2.1, up _ ob.2.2.2.1, up _ ob.2.2.2.2⟩
  exact ⟨apart1 hh, apart2 hh⟩
theorem names_ok : (NM.all fun n => saysB (F_is_name [n]) == some true) = true := by decide +kernel
theorem number_ok {g : Int} (h0 : 0 ≤ g) (h1 : g < 4) : F_is_number [.int g, .int 0, .int 999] = some (RB true, .non) := by
  have i : F_is_integer [.int g] = some (RB true, .non) := rfl
  have st : W (F_is_number [.int g, .int 0, .int 999]) fun q => q = (RB true, .non) := by
    unfold F_is_number B_is_number
    refine w_run rfl (w_ret (by simp only [runB, env0, outB, ow0, evOps, sld, storeSl, setSh, ownL, cP, cC, cNm, cBo, cTr, dTru, cAnd, cOr, cNot, cAndV, cOrV, cNotV, DL.gTup, gLst, gIx, gLen, gAbs, gInt, gTupOf, gLstOf, cRet, cRetO, cSet, cSetIx, cAsg, cShare, shE, cIsi, cIsi2, tyIs, RB, RI, gEq_int, gNe_int, gEq_str, gNe_str, gLt_int, gGt_int, gLe_int, gGe_int, gAdd_int, gSub_int, at_0, at_1, at_2, at_3, at_4, at_5, at_6, cNx, cYes, cDrop, gIs, gIsNot, gIsB, isNon, Bool.false_xor, Bool.true_xor, gNeg, DL.gTupD, gConsD, gNilD, cCall, cCallM, flatR, List.map_cons, List.map_nil, List.length_cons, List.length_nil, List.length_map, List.length_set, List.cons_append, List.nil_append, List.replicate_succ, List.replicate_zero, List.getElem?_cons_zero, List.getElem?_cons_succ, List.set_cons_zero, List.set_cons_succ, Option.bind_eq_bind, Option.bind_some, Option.map_some, Option.bind_none, Nat.reduceAdd, Nat.reduceSub, Nat.reduceLeDiff, Nat.reduceLT, Nat.reduceEqDiff, Nat.zero_add, Bool.or_false, Bool.or_true, Bool.false_or, Bool.true_or, Bool.and_true, Bool.true_and, Bool.and_false, Bool.false_and, Bool.not_true, Bool.not_false, if_true, if_false, ↓reduceIte, Bool.false_eq_true, ix_4_0, ix_4_1, ix_4_2, ix_4_3, List.set_cons_zero, forall_const, cIte, i, decide_eq_true (show g ≥ 0 from h0), decide_eq_true (show g ≤ 999 by omega)]; rfl) ?_)
    exact ⟨_, rfl, rfl⟩
  obtain ⟨o, e, rfl⟩ := st
  exact e
theorem rollD_mem {es : List (Int × D)} (h : ∀ p, p ∈ es → Ent p) {d : D} (hd : d ∈ rollD es) : ∃ nm p, d = mkE nm p ∧ nm ∈ NM ∧ Ent p := by
  unfold rollD at hd
  obtain ⟨i, hi, e⟩ := List.getElem_of_mem hd
  rw [List.getElem_zipWith] at e
  exact ⟨_, _, e.symm, List.getElem_mem _, h _ (List.getElem_mem _)⟩
theorem lt1 : ∀ fl, gLt fl [.str "aldo", .str "bert"] = some (RB true) := fun fl => (gLt_str _ _ _).trans (by rw [show decide ((("aldo" : Str)).cps.toList < (("bert" : Str)).cps.toList) = true by decide +kernel])
theorem lt2 : ∀ fl, gLt fl [.str "bert", .str "carl"] = some (RB true) := fun fl => (gLt_str _ _ _).trans (by rw [show decide ((("bert" : Str)).cps.toList < (("carl" : Str)).cps.toList) = true by decide +kernel])
theorem lt3 : ∀ fl, gLt fl [.str "carl", .str "dirk"] = some (RB true) := fun fl => (gLt_str _ _ _).trans (by rw [show decide ((("carl" : Str)).cps.toList < (("dirk" : Str)).cps.toList) = true by decide +kernel])
theorem lt_names {nm nm' : D} (h : D.tup [nm, nm'] ∈ zipD NM (NM.drop 1)) (fl : Bool) : gLt fl [nm, nm'] = some (RB true) := by
  have : (nm = .str "aldo" ∧ nm' = .str "bert") ∨ (nm = .str "bert" ∧ nm' = .str "carl") ∨ (nm = .str "carl" ∧ nm' = .str "dirk") := by
    simpa [zipD, NM] using h
  rcases this with ⟨rfl, rfl⟩ | ⟨rfl, rfl⟩ | ⟨rfl, rfl⟩
  · exact lt1 fl
  · exact lt2 fl
  · exact lt3 fl
theorem rising_of {rs : List D} (hl : rs.length ≤ 4) (h : ∀ z, z ∈ zipD rs (rs.drop 1) → ∃ nm nm' x x', z = .tup [.tup (nm :: x), .tup (nm' :: x')] ∧ ∀ fl, gLt fl [nm, nm'] = some (RB true)) : F_is_rising [.tup rs] = some (RB true, .non) := by
  have sl : cut rs (some 1) none = rs.drop 1 := by
    match rs, hl with
    | [], _ => rfl
    | [_], _ => rfl
    | [_, _], _ => rfl
    | [_, _, _], _ => rfl
    | [_, _, _, _], _ => rfl
  have hz : (zipD rs (rs.drop 1)).length ≤ 4 := by
    unfold zipD
    rw [List.length_zipWith]
    exact Nat.le_trans (Nat.min_le_left _ _) hl
  have h1 := lc_map (vs := [1, 2]) (it := cZip (.nm 0) (.ex (cP gSl10 [(.nm 0), (.ex (cC (.int 1)))]))) (gt := DL.gTupD 2 (gConsD (setSh 1) (gConsD (setSh 2) gNilD))) (t := cYes) (fe := cP gLt [(.ex (cP gIx [(.nm 1), (.ex (cC (.int 0)))])), (.ex (cP gIx [(.nm 2), (.ex (cC (.int 0)))]))])
    (ds0 := zipD rs (rs.drop 1)) (env := [.sh (.tup rs), .no, .no]) (e1 := [.sh (.tup rs), .no, .no]) (e2 := [.sh (.tup rs), .no, .no]) (fun _ => some (.bl true))
    (by simp only [runB, env0, outB, ow0, evOps, sld, storeSl, setSh, ownL, cP, cC, cNm, cBo, cTr, dTru, cAnd, cOr, cNot, cAndV, cOrV, cNotV, DL.gTup, gLst, gAbs, gInt, gTupOf, gLstOf, cRet, cRetO, cSet, cSetIx, cAsg, cShare, shE, cIsi, cIsi2, tyIs, RB, RI, gNe_int, gNe_str, gLt_int, gGt_int, gLe_int, gGe_int, gAdd_int, gSub_int, at_0, at_1, at_2, at_3, at_4, at_5, at_6, cNx, cYes, cDrop, gIs, gIsNot, gIsB, isNon, Bool.false_xor, Bool.true_xor, gNeg, DL.gTupD, gConsD, gNilD, cCall, cCallM, flatR, List.map_cons, List.map_nil, List.length_cons, List.length_nil, List.length_map, List.length_set, List.cons_append, List.nil_append, List.replicate_succ, List.replicate_zero, List.getElem?_cons_zero, List.getElem?_cons_succ, List.set_cons_zero, List.set_cons_succ, Option.bind_eq_bind, Option.bind_some, Option.map_some, Option.bind_none, Nat.reduceAdd, Nat.reduceSub, Nat.reduceLeDiff, Nat.reduceLT, Nat.reduceEqDiff, Nat.zero_add, Bool.or_false, Bool.or_true, Bool.false_or, Bool.true_or, Bool.and_true, Bool.true_and, Bool.and_false, Bool.false_and, Bool.not_true, Bool.not_false, if_true, if_false, ↓reduceIte, Bool.false_eq_true, ix_4_0, ix_4_1, ix_4_2, ix_4_3, List.set_cons_zero, forall_const, cIte, cZip, gSl10, slD, sl, zipK]) rfl (by omega) (fun z hz => by
      obtain ⟨nm, nm', x, x', rfl, hlt⟩ := h z hz
      refine ⟨_, true, _, rfl, rfl, RB true, [.sh (.tup rs), .sh (.tup (nm :: x)), .sh (.tup (nm' :: x'))], ?_, rfl, rfl⟩
      simp only [runB, env0, outB, ow0, evOps, sld, storeSl, setSh, ownL, cP, cC, cNm, cBo, cTr, dTru, cAnd, cOr, cNot, cAndV, cOrV, cNotV, DL.gTup, gLst, gIx, gLen, gAbs, gInt, gTupOf, gLstOf, cRet, cRetO, cSet, cSetIx, cAsg, cShare, shE, cIsi, cIsi2, tyIs, RB, RI, gEq_int, gNe_int, gEq_str, gNe_str, gLt_int, gGt_int, gLe_int, gGe_int, gAdd_int, gSub_int, at_0, at_1, at_2, at_3, at_4, at_5, at_6, cNx, cYes, cDrop, gIs, gIsNot, gIsB, isNon, Bool.false_xor, Bool.true_xor, gNeg, DL.gTupD, gConsD, gNilD, cCall, cCallM, flatR, List.map_cons, List.map_nil, List.length_cons, List.length_nil, List.length_map, List.length_set, List.cons_append, List.nil_append, List.replicate_succ, List.replicate_zero, List.getElem?_cons_zero, List.getElem?_cons_succ, List.set_cons_zero, List.set_cons_succ, Option.bind_eq_bind, Option.bind_some, Option.map_some, Option.bind_none, Nat.reduceAdd, Nat.reduceSub, Nat.reduceLeDiff, Nat.reduceLT, Nat.reduceEqDiff, Nat.zero_add, Bool.or_false, Bool.or_true, Bool.false_or, Bool.true_or, Bool.and_true, Bool.true_and, Bool.and_false, Bool.false_and, Bool.not_true, Bool.not_false, if_true, if_false, ↓reduceIte, Bool.false_eq_true, ix_4_0, ix_4_1, ix_4_2, ix_4_3, List.set_cons_zero, forall_const, cIte, hlt])
  have st : W (F_is_rising [.tup rs]) fun q => q = (RB true, .non) := by
    unfold F_is_rising B_is_rising
    refine w_run rfl (w_ret (by
      show cP gAll _ [.sh (.tup rs), .no, .no] = _
      simp only [cP, evOps, h1, fm_const, Option.bind_eq_bind, Option.bind_some, gAll, dB_all, Option.map_some]
      rfl) ?_)
    exact ⟨_, rfl, by simp⟩
  obtain ⟨o, e, rfl⟩ := st
  exact e
theorem rising_ok (es : List (Int × D)) (hl : es.length ≤ 4) : F_is_rising [.tup (rollD es)] = some (RB true, .non) := by
  refine rising_of (by unfold rollD; rw [List.length_zipWith]; exact Nat.le_trans (Nat.min_le_left _ _) (by decide)) fun z hz => ?_
  unfold zipD at hz
  obtain ⟨i, hi, e⟩ := List.getElem_of_mem hz
  rw [List.length_zipWith] at hi
  rw [List.getElem_zipWith] at e
  unfold rollD at e hi
  rw [List.getElem_zipWith, List.getElem_drop, List.getElem_zipWith] at e
  refine ⟨_, _, _, _, e.symm, fun fl => lt_names ?_ fl⟩
  unfold zipD
  refine List.mem_iff_getElem.mpr ⟨i, ?_, ?_⟩
  · simp [NM] at hi ⊢
    omega
  · rw [List.getElem_zipWith, List.getElem_drop]
theorem rollD_len (es : List (Int × D)) : (rollD es).length ≤ 4 := by
  unfold rollD
  rw [List.length_zipWith]
  exact Nat.le_trans (Nat.min_le_left _ _) (by decide)
theorem roll_ok {es : List (Int × D)} (hl : es.length ≤ 4) (h : ∀ p, p ∈ es → Ent p) : F_is_roll [.tup (rollD es)] = some (RB true, .non) := by
  have hlen := rollD_len es
  have st : W (F_is_roll [.tup (rollD es)]) fun q => q = (RB true, .non) := by
    unfold F_is_roll B_is_roll
    refine w_run rfl (w_seq ?_)
    refine w_if (by simp only [runB, env0, outB, ow0, evOps, sld, storeSl, setSh, ownL, cP, cC, cNm, cBo, cTr, dTru, cAnd, cOr, cNot, cAndV, cOrV, cNotV, DL.gTup, gLst, gIx, gLen, gAbs, gInt, gTupOf, gLstOf, cRet, cRetO, cSet, cSetIx, cAsg, cShare, shE, cIsi, cIsi2, tyIs, RB, RI, gEq_int, gNe_int, gEq_str, gNe_str, gLt_int, gGt_int, gLe_int, gGe_int, gAdd_int, gSub_int, at_0, at_1, at_2, at_3, at_4, at_5, at_6, cNx, cYes, cDrop, gIs, gIsNot, gIsB, isNon, Bool.false_xor, Bool.true_xor, gNeg, DL.gTupD, gConsD, gNilD, cCall, cCallM, flatR, List.map_cons, List.map_nil, List.length_cons, List.length_nil, List.length_map, List.length_set, List.cons_append, List.nil_append, List.replicate_succ, List.replicate_zero, List.getElem?_cons_zero, List.getElem?_cons_succ, List.set_cons_zero, List.set_cons_succ, Option.bind_eq_bind, Option.bind_some, Option.map_some, Option.bind_none, Nat.reduceAdd, Nat.reduceSub, Nat.reduceLeDiff, Nat.reduceLT, Nat.reduceEqDiff, Nat.zero_add, Bool.or_false, Bool.or_true, Bool.false_or, Bool.true_or, Bool.and_true, Bool.true_and, Bool.and_false, Bool.false_and, Bool.not_true, Bool.not_false, if_true, if_false, ↓reduceIte, Bool.false_eq_true, ix_4_0, ix_4_1, ix_4_2, ix_4_3, List.set_cons_zero, forall_const, cIte, decide_eq_false (show ¬ (((rollD es).length : Int) > 10) by omega)]; rfl) ?_
    refine w_nop (w_seq ?_)
    refine w_for (ds := rollD es) (e := [.sh (.tup (rollD es)), .no]) (fun _ _ e => ∃ x, e = [.sh (.tup (rollD es)), x] ∧ (x = .no ∨ ∃ d, x = .sh d)) rfl ⟨_, rfl, .inl rfl⟩ (fun pre d post e hp ⟨x, he, hx⟩ => ?_) (fun e ⟨x, he, hx⟩ => ?_)
    · have hd : d ∈ rollD es := by rw [← hp]; simp
      obtain ⟨nm, p, rfl, hn, h0, h1, ha⟩ := rollD_mem h hd
      have n1 := saysB_ok (beq_iff_eq.mp (List.all_eq_true.mp names_ok nm hn))
      have n2 := (armsOf ha).1
      refine ⟨[.sh (.tup (rollD es)), .sh (mkE nm p)], by rcases hx with rfl | ⟨d, rfl⟩ <;> subst he <;> rfl, w_seq ?_⟩
      refine w_if (by simp only [runB, env0, outB, ow0, evOps, sld, storeSl, setSh, ownL, cP, cC, cNm, cBo, cTr, dTru, cAnd, cOr, cNot, cAndV, cOrV, cNotV, DL.gTup, gLst, gIx, gLen, gAbs, gInt, gTupOf, gLstOf, cRet, cRetO, cSet, cSetIx, cAsg, cShare, shE, cIsi, cIsi2, tyIs, RB, RI, gEq_int, gNe_int, gEq_str, gNe_str, gLt_int, gGt_int, gLe_int, gGe_int, gAdd_int, gSub_int, at_0, at_1, at_2, at_3, at_4, at_5, at_6, cNx, cYes, cDrop, gIs, gIsNot, gIsB, isNon, Bool.false_xor, Bool.true_xor, gNeg, DL.gTupD, gConsD, gNilD, cCall, cCallM, flatR, List.map_cons, List.map_nil, List.length_cons, List.length_nil, List.length_map, List.length_set, List.cons_append, List.nil_append, List.replicate_succ, List.replicate_zero, List.getElem?_cons_zero, List.getElem?_cons_succ, List.set_cons_zero, List.set_cons_succ, Option.bind_eq_bind, Option.bind_some, Option.map_some, Option.bind_none, Nat.reduceAdd, Nat.reduceSub, Nat.reduceLeDiff, Nat.reduceLT, Nat.reduceEqDiff, Nat.zero_add, Bool.or_false, Bool.or_true, Bool.false_or, Bool.true_or, Bool.and_true, Bool.true_and, Bool.and_false, Bool.false_and, Bool.not_true, Bool.not_false, if_true, if_false, ↓reduceIte, Bool.false_eq_true, ix_4_0, ix_4_1, ix_4_2, ix_4_3, List.set_cons_zero, forall_const, cIte, mkE, Int.reduceEq, n1]; rfl) ?_
      refine w_nop ?_
      refine w_if (by simp only [runB, env0, outB, ow0, evOps, sld, storeSl, setSh, ownL, cP, cC, cNm, cBo, cTr, dTru, cAnd, cOr, cNot, cAndV, cOrV, cNotV, DL.gTup, gLst, gIx, gLen, gAbs, gInt, gTupOf, gLstOf, cRet, cRetO, cSet, cSetIx, cAsg, cShare, shE, cIsi, cIsi2, tyIs, RB, RI, gEq_int, gNe_int, gEq_str, gNe_str, gLt_int, gGt_int, gLe_int, gGe_int, gAdd_int, gSub_int, at_0, at_1, at_2, at_3, at_4, at_5, at_6, cNx, cYes, cDrop, gIs, gIsNot, gIsB, isNon, Bool.false_xor, Bool.true_xor, gNeg, DL.gTupD, gConsD, gNilD, cCall, cCallM, flatR, List.map_cons, List.map_nil, List.length_cons, List.length_nil, List.length_map, List.length_set, List.cons_append, List.nil_append, List.replicate_succ, List.replicate_zero, List.getElem?_cons_zero, List.getElem?_cons_succ, List.set_cons_zero, List.set_cons_succ, Option.bind_eq_bind, Option.bind_some, Option.map_some, Option.bind_none, Nat.reduceAdd, Nat.reduceSub, Nat.reduceLeDiff, Nat.reduceLT, Nat.reduceEqDiff, Nat.zero_add, Bool.or_false, Bool.or_true, Bool.false_or, Bool.true_or, Bool.and_true, Bool.true_and, Bool.and_false, Bool.false_and, Bool.not_true, Bool.not_false, if_true, if_false, ↓reduceIte, Bool.false_eq_true, ix_4_0, ix_4_1, ix_4_2, ix_4_3, List.set_cons_zero, forall_const, cIte, mkE, n2, number_ok h0 h1]; rfl) ?_
      exact w_nop ⟨_, rfl, .inr ⟨_, rfl⟩⟩
    · subst he
      refine w_ret (by simp only [runB, env0, outB, ow0, evOps, sld, storeSl, setSh, ownL, cP, cC, cNm, cBo, cTr, dTru, cAnd, cOr, cNot, cAndV, cOrV, cNotV, DL.gTup, gLst, gIx, gLen, gAbs, gInt, gTupOf, gLstOf, cRet, cRetO, cSet, cSetIx, cAsg, cShare, shE, cIsi, cIsi2, tyIs, RB, RI, gEq_int, gNe_int, gEq_str, gNe_str, gLt_int, gGt_int, gLe_int, gGe_int, gAdd_int, gSub_int, at_0, at_1, at_2, at_3, at_4, at_5, at_6, cNx, cYes, cDrop, gIs, gIsNot, gIsB, isNon, Bool.false_xor, Bool.true_xor, gNeg, DL.gTupD, gConsD, gNilD, cCall, cCallM, flatR, List.map_cons, List.map_nil, List.length_cons, List.length_nil, List.length_map, List.length_set, List.cons_append, List.nil_append, List.replicate_succ, List.replicate_zero, List.getElem?_cons_zero, List.getElem?_cons_succ, List.set_cons_zero, List.set_cons_succ, Option.bind_eq_bind, Option.bind_some, Option.map_some, Option.bind_none, Nat.reduceAdd, Nat.reduceSub, Nat.reduceLeDiff, Nat.reduceLT, Nat.reduceEqDiff, Nat.zero_add, Bool.or_false, Bool.or_true, Bool.false_or, Bool.true_or, Bool.and_true, Bool.true_and, Bool.and_false, Bool.false_and, Bool.not_true, Bool.not_false, if_true, if_false, ↓reduceIte, Bool.false_eq_true, ix_4_0, ix_4_1, ix_4_2, ix_4_3, List.set_cons_zero, forall_const, cIte, rising_ok es hl]; rfl) ?_
      exact ⟨_, rfl, rfl⟩
  obtain ⟨o, e, rfl⟩ := st
  exact e
def G (d : D) : Prop := ∃ nm g a, d = .tup [nm, .int g, a] ∧ nm ∈ NM ∧ 0 ≤ g ∧ g < 4 ∧ Arms a
def nmD : D → D
  | .tup [n, _, _] => n
  | _ => .non
def numD : D → Int
  | .tup [_, .int g, _] => g
  | _ => 0
def arD : D → D
  | .tup [_, _, a] => a
  | _ => .non
def near (dist : Int) (x y : D) : Bool := decide (cnt (arD x) (arD y) < dist)
def rowL (dist : Int) (x : D) (ys : List D) : List D := ys.filterMap fun y => if near dist x y then some (.tup [x, y]) else none
def clashL (dist : Int) : List D → List D
  | [] => []
  | x :: xs => rowL dist x xs ++ clashL dist xs
theorem clashL_at {dist : Int} : ∀ {rs : List D} {k : Nat} {x : D}, rs[k]? = some x → clashL dist (rs.drop k) = rowL dist x (rs.drop (k + 1)) ++ clashL dist (rs.drop (k + 1))
  | [], k, x, h => by simp at h
  | y :: rs, 0, x, h => by
    simp at h
    subst h
    rfl
  | y :: rs, k + 1, x, h => clashL_at (rs := rs) (k := k) (by simpa using h)
theorem G.of {es : List (Int × D)} (h : ∀ p, p ∈ es → Ent p) : ∀ d, d ∈ rollD es → G d := fun d hd => by
  obtain ⟨nm, p, rfl, hn, h0, h1, ha⟩ := rollD_mem h hd
  exact ⟨nm, p.1, p.2, rfl, hn, h0, h1, ha⟩
theorem clashL_len (dist : Int) : ∀ rs : List D, (clashL dist rs).length ≤ rs.length * rs.length
  | [] => Nat.le_refl _
  | x :: rs => by
    have h1 : (rowL dist x rs).length ≤ rs.length := List.length_filterMap_le _ _
    have h2 := clashL_len dist rs
    simp only [clashL, List.length_append, List.length_cons]
    have : (rs.length + 1) * (rs.length + 1) = rs.length * rs.length + 2 * rs.length + 1 := by
      rw [Nat.mul_add, Nat.add_mul]; omega
    omega
theorem clashes_ok {rs : List D} {dist : Int} (hl : rs.length ≤ 4) (hG : ∀ d, d ∈ rs → G d) : F_clashes [.tup rs, .int dist] = some (⟨.lst (clashL dist rs), false⟩, .non) := by
  have st : W (F_clashes [.tup rs, .int dist]) fun q => q = (⟨.lst (clashL dist rs), false⟩, .non) := by
    unfold F_clashes B_clashes
    refine w_run rfl ?_
    refine w_nx (by simp only [runB, env0, outB, ow0, evOps, sld, storeSl, setSh, ownL, cP, cC, cNm, cBo, cTr, dTru, cAnd, cOr, cNot, cAndV, cOrV, cNotV, DL.gTup, gLst, gIx, gLen, gAbs, gInt, gTupOf, gLstOf, cRet, cRetO, cSet, cSetIx, cAsg, cShare, shE, cIsi, cIsi2, tyIs, RB, RI, gEq_int, gNe_int, gEq_str, gNe_str, gLt_int, gGt_int, gLe_int, gGe_int, gAdd_int, gSub_int, at_0, at_1, at_2, at_3, at_4, at_5, at_6, cNx, cYes, cDrop, gIs, gIsNot, gIsB, isNon, Bool.false_xor, Bool.true_xor, gNeg, DL.gTupD, gConsD, gNilD, cCall, cCallM, flatR, List.map_cons, List.map_nil, List.length_cons, List.length_nil, List.length_map, List.length_set, List.cons_append, List.nil_append, List.replicate_succ, List.replicate_zero, List.getElem?_cons_zero, List.getElem?_cons_succ, List.set_cons_zero, List.set_cons_succ, Option.bind_eq_bind, Option.bind_some, Option.map_some, Option.bind_none, Nat.reduceAdd, Nat.reduceSub, Nat.reduceLeDiff, Nat.reduceLT, Nat.reduceEqDiff, Nat.zero_add, Bool.or_false, Bool.or_true, Bool.false_or, Bool.true_or, Bool.and_true, Bool.true_and, Bool.and_false, Bool.false_and, Bool.not_true, Bool.not_false, if_true, if_false, ↓reduceIte, Bool.false_eq_true, ix_4_0, ix_4_1, ix_4_2, ix_4_3, List.set_cons_zero, forall_const, cIte]; rfl) ?_
    refine w_seq ?_
    refine w_for (ds := enumD 0 rs) (e := [.sh (.tup rs), .sh (.int dist), .sh (.lst []), .no, .no, .no]) (fun pre _ e => ∃ found x3 x4, e = [.sh (.tup rs), .sh (.int dist), .sh (.lst found), x3, x4, .no] ∧ Fv x3 ∧ Fv x4 ∧ found ++ clashL dist (rs.drop pre.length) = clashL dist rs) rfl ⟨[], .no, .no, rfl, .no, .no, rfl⟩ (fun pre d post e hp ⟨found, x3, x4, he, f3, f4, hf⟩ => ?_) (fun e ⟨found, x3, x4, he, _, _, hf⟩ => ?_)
    · subst he
      obtain ⟨x, hx, rfl⟩ := enum_at hp
      have hxm : x ∈ rs := List.mem_of_getElem? hx
      have hpl : pre.length < rs.length := (List.getElem?_eq_some_iff.mp hx).1
      obtain ⟨nm, g, a, rfl, hn, h0, h1, ha⟩ := hG x hxm
      have s1 := setSh_fv (i := 3) (d := .int (pre.length : Nat)) (env := [.sh (.tup rs), .sh (.int dist), .sh (.lst found), x3, x4, .no]) rfl f3
      have s2 := setSh_fv (i := 4) (d := .tup [nm, .int g, a]) (env := [.sh (.tup rs), .sh (.int dist), .sh (.lst found), .sh (.int (pre.length : Nat)), x4, .no]) rfl f4
      have sl : ∀ fl, gSl10 fl [.tup rs, .int ((pre.length : Int) + 1)] = some ⟨.tup (rs.drop (pre.length + 1)), false⟩ := fun fl => by
        show some _ = some _
        rw [show (pre.length : Int) + 1 = ((pre.length + 1 : Nat) : Int) from rfl, cut_drop]
      have h1 := lc_map (vs := [5]) (it := cIt (cP gSl10 [(.nm 0), (.ex (cP gAdd [(.nm 3), (.ex (cC (.int 1)))]))])) (gt := setSh 5) (t := cBo (cP gLt [(.ex (cCall F_parts_apart [(.ex (cP gIx [(.nm 4), (.ex (cC (.int 2)))])), (.ex (cP gIx [(.nm 5), (.ex (cC (.int 2)))]))])), (.nm 1)])) (fe := cP DL.gTup [(.nm 4), (.nm 5)])
        (ds0 := rs.drop (pre.length + 1)) (env := [.sh (.tup rs), .sh (.int dist), .sh (.lst found), .sh (.int (pre.length : Nat)), .sh (.tup [nm, .int g, a]), .no]) (e1 := [.sh (.tup rs), .sh (.int dist), .sh (.lst found), .sh (.int (pre.length : Nat)), .sh (.tup [nm, .int g, a]), .no]) (e2 := [.sh (.tup rs), .sh (.int dist), .sh (.lst found), .sh (.int (pre.length : Nat)), .sh (.tup [nm, .int g, a]), .no]) (fun y => if near dist (.tup [nm, .int g, a]) y then some (.tup [.tup [nm, .int g, a], y]) else none)
        (by simp only [runB, env0, outB, ow0, evOps, sld, storeSl, setSh, ownL, cP, cC, cNm, cBo, cTr, dTru, cAnd, cOr, cNot, cAndV, cOrV, cNotV, DL.gTup, gLst, gAbs, gInt, gTupOf, gLstOf, cRet, cRetO, cSet, cSetIx, cAsg, cShare, shE, cIsi, cIsi2, tyIs, RB, RI, gNe_int, gNe_str, gLt_int, gGt_int, gLe_int, gGe_int, gAdd_int, gSub_int, at_0, at_1, at_2, at_3, at_4, at_5, at_6, cNx, cYes, cDrop, gIs, gIsNot, gIsB, isNon, Bool.false_xor, Bool.true_xor, gNeg, DL.gTupD, gConsD, gNilD, cCall, cCallM, flatR, List.map_cons, List.map_nil, List.length_cons, List.length_nil, List.length_map, List.length_set, List.cons_append, List.nil_append, List.replicate_succ, List.replicate_zero, List.getElem?_cons_zero, List.getElem?_cons_succ, List.set_cons_zero, List.set_cons_succ, Option.bind_eq_bind, Option.bind_some, Option.map_some, Option.bind_none, Nat.reduceAdd, Nat.reduceSub, Nat.reduceLeDiff, Nat.reduceLT, Nat.reduceEqDiff, Nat.zero_add, Bool.or_false, Bool.or_true, Bool.false_or, Bool.true_or, Bool.and_true, Bool.true_and, Bool.and_false, Bool.false_and, Bool.not_true, Bool.not_false, if_true, if_false, ↓reduceIte, Bool.false_eq_true, ix_4_0, ix_4_1, ix_4_2, ix_4_3, List.set_cons_zero, forall_const, cIte, cIt, sl, itSeq]) rfl (by rw [List.length_drop]; omega) (fun z hz => by
          obtain ⟨nm', g', a', rfl, _, _, _, ha'⟩ := hG z (List.mem_of_mem_drop hz)
          refine ⟨_, near dist (.tup [nm, .int g, a]) (.tup [nm', .int g', a']), [.sh (.tup rs), .sh (.int dist), .sh (.lst found), .sh (.int (pre.length : Nat)), .sh (.tup [nm, .int g, a]), .sh (.tup [nm', .int g', a'])], rfl, ?_, ?_⟩
          · simp only [runB, env0, outB, ow0, evOps, sld, storeSl, setSh, ownL, cP, cC, cNm, cBo, cTr, dTru, cAnd, cOr, cNot, cAndV, cOrV, cNotV, DL.gTup, gLst, gIx, gLen, gAbs, gInt, gTupOf, gLstOf, cRet, cRetO, cSet, cSetIx, cAsg, cShare, shE, cIsi, cIsi2, tyIs, RB, RI, gEq_int, gNe_int, gEq_str, gNe_str, gLt_int, gGt_int, gLe_int, gGe_int, gAdd_int, gSub_int, at_0, at_1, at_2, at_3, at_4, at_5, at_6, cNx, cYes, cDrop, gIs, gIsNot, gIsB, isNon, Bool.false_xor, Bool.true_xor, gNeg, DL.gTupD, gConsD, gNilD, cCall, cCallM, flatR, List.map_cons, List.map_nil, List.length_cons, List.length_nil, List.length_map, List.length_set, List.cons_append, List.nil_append, List.replicate_succ, List.replicate_zero, List.getElem?_cons_zero, List.getElem?_cons_succ, List.set_cons_zero, List.set_cons_succ, Option.bind_eq_bind, Option.bind_some, Option.map_some, Option.bind_none, Nat.reduceAdd, Nat.reduceSub, Nat.reduceLeDiff, Nat.reduceLT, Nat.reduceEqDiff, Nat.zero_add, Bool.or_false, Bool.or_true, Bool.false_or, Bool.true_or, Bool.and_true, Bool.true_and, Bool.and_false, Bool.false_and, Bool.not_true, Bool.not_false, if_true, if_false, ↓reduceIte, Bool.false_eq_true, ix_4_0, ix_4_1, ix_4_2, ix_4_3, List.set_cons_zero, forall_const, cIte, (apartOf ha ha').1, near, arD]
            rfl
          · cases w : near dist (.tup [nm, .int g, a]) (.tup [nm', .int g', a']) with
            | true => exact ⟨_, _, rfl, rfl, by simp⟩
            | false => exact ⟨rfl, by simp⟩)
      refine ⟨[.sh (.tup rs), .sh (.int dist), .sh (.lst found), .sh (.int (pre.length : Nat)), .sh (.tup [nm, .int g, a]), .no], by simp only [runB, env0, outB, ow0, evOps, sld, storeSl, ownL, cP, cC, cNm, cBo, cTr, dTru, cAnd, cOr, cNot, cAndV, cOrV, cNotV, DL.gTup, gLst, gIx, gLen, gAbs, gInt, gTupOf, gLstOf, cRet, cRetO, cSet, cSetIx, cAsg, cShare, shE, cIsi, cIsi2, tyIs, RB, RI, gEq_int, gNe_int, gEq_str, gNe_str, gLt_int, gGt_int, gLe_int, gGe_int, gAdd_int, gSub_int, at_0, at_1, at_2, at_3, at_4, at_5, at_6, cNx, cYes, cDrop, gIs, gIsNot, gIsB, isNon, Bool.false_xor, Bool.true_xor, gNeg, DL.gTupD, gConsD, gNilD, cCall, cCallM, flatR, List.map_cons, List.map_nil, List.length_cons, List.length_nil, List.length_map, List.length_set, List.cons_append, List.nil_append, List.replicate_succ, List.replicate_zero, List.getElem?_cons_zero, List.getElem?_cons_succ, List.set_cons_zero, List.set_cons_succ, Option.bind_eq_bind, Option.bind_some, Option.map_some, Option.bind_none, Nat.reduceAdd, Nat.reduceSub, Nat.reduceLeDiff, Nat.reduceLT, Nat.reduceEqDiff, Nat.zero_add, Bool.or_false, Bool.or_true, Bool.false_or, Bool.true_or, Bool.and_true, Bool.true_and, Bool.and_false, Bool.false_and, Bool.not_true, Bool.not_false, if_true, if_false, ↓reduceIte, Bool.false_eq_true, ix_4_0, ix_4_1, ix_4_2, ix_4_3, List.set_cons_zero, forall_const, cIte, s1, s2], ?_⟩
      have hlen : found.length + (rowL dist (.tup [nm, .int g, a]) (rs.drop (pre.length + 1))).length ≤ 1000000 := by
        have h2 := clashL_len dist rs
        have h3 : (found ++ clashL dist (rs.drop pre.length)).length = (clashL dist rs).length := by rw [hf]
        rw [clashL_at hx] at h3
        simp only [List.length_append] at h3
        have h4 : rs.length * rs.length ≤ 4 * 4 := Nat.mul_le_mul hl hl
        omega
      refine w_st (e := [.sh (.tup rs), .sh (.int dist), .sh (.lst (found ++ rowL dist (.tup [nm, .int g, a]) (rs.drop (pre.length + 1)))), .sh (.int (pre.length : Nat)), .sh (.tup [nm, .int g, a]), .no]) ?_ ?_
      · show cSet false 2 _ [_, _, _, _, _, _] = _
        have h1' : cLC _ _ _ _ _ [.sh (.tup rs), .sh (.int dist), .sh (.lst found), .sh (.int (pre.length : Nat)), .sh (.tup [nm, .int g, a]), .no] = _ := h1
        simp only [runB, env0, outB, ow0, evOps, sld, storeSl, setSh, ownL, cP, cC, cNm, cBo, cTr, dTru, cAnd, cOr, cNot, cAndV, cOrV, cNotV, DL.gTup, gLst, gAbs, gInt, gTupOf, gLstOf, cRet, cRetO, cSet, cSetIx, cAsg, cShare, shE, cIsi, cIsi2, tyIs, RB, RI, gNe_int, gNe_str, gLt_int, gGt_int, gLe_int, gGe_int, gAdd_int, gSub_int, at_0, at_1, at_2, at_3, at_4, at_5, at_6, cNx, cYes, cDrop, gIs, gIsNot, gIsB, isNon, Bool.false_xor, Bool.true_xor, gNeg, DL.gTupD, gConsD, gNilD, cCall, cCallM, flatR, List.map_cons, List.map_nil, List.length_cons, List.length_nil, List.length_map, List.length_set, List.cons_append, List.nil_append, List.replicate_succ, List.replicate_zero, List.getElem?_cons_zero, List.getElem?_cons_succ, List.set_cons_zero, List.set_cons_succ, Option.bind_eq_bind, Option.bind_some, Option.map_some, Option.bind_none, Nat.reduceAdd, Nat.reduceSub, Nat.reduceLeDiff, Nat.reduceLT, Nat.reduceEqDiff, Nat.zero_add, Bool.or_false, Bool.or_true, Bool.false_or, Bool.true_or, Bool.and_true, Bool.true_and, Bool.and_false, Bool.false_and, Bool.not_true, Bool.not_false, if_true, if_false, ↓reduceIte, Bool.false_eq_true, ix_4_0, ix_4_1, ix_4_2, ix_4_3, List.set_cons_zero, forall_const, cIte, h1']
        show ((if found.length + (rowL dist (.tup [nm, .int g, a]) (rs.drop (pre.length + 1))).length ≤ 1000000 then _ else _ : Option R).bind _).bind _ = _
        rw [if_pos hlen]
        rfl
      · refine ⟨_, _, _, rfl, .sh _, .sh _, ?_⟩
        rw [List.append_assoc, List.length_append, List.length_singleton, ← clashL_at hx]
        exact hf
    · subst he
      have e2 : rs.drop (enumD 0 rs).length = [] := by rw [enumD_len]; exact List.drop_length
      rw [e2, show clashL dist [] = [] from rfl, List.append_nil] at hf
      subst hf
      exact ⟨_, rfl, _, rfl, rfl⟩
  obtain ⟨o, e, rfl⟩ := st
  exact e
def loseP : D → Option D
  | .tup [x, y] => if numD x = numD y then none else some (if numD x < numD y then .tup [nmD y, nmD x] else .tup [nmD x, nmD y])
  | _ => none
def openP : D → Option D
  | .tup [x, y] => if numD x = numD y then some (.tup [nmD x, nmD y]) else none
  | _ => none
theorem clashL_mem {dist : Int} : ∀ {rs : List D} {z : D}, z ∈ clashL dist rs → ∃ x y, z = .tup [x, y] ∧ x ∈ rs ∧ y ∈ rs
  | [], z, h => nomatch h
  | x :: rs, z, h => by
    rcases List.mem_append.mp h with h | h
    · obtain ⟨y, hy, e⟩ := List.mem_filterMap.mp h
      split at e
      · cases e
        exact ⟨x, y, rfl, List.mem_cons_self, List.mem_cons_of_mem _ hy⟩
      · cases e
    · obtain ⟨a, b, e, ha, hb⟩ := clashL_mem h
      exact ⟨a, b, e, List.mem_cons_of_mem _ ha, List.mem_cons_of_mem _ hb⟩
/-- a pair of names -/
def PN (z : D) : Prop := ∃ i j : Str, z = .tup [.str i, .str j]
theorem G.nm {x : D} (h : G x) : ∃ i : Str, nmD x = .str i := by
  obtain ⟨nm, g, a, rfl, hn, _⟩ := h
  simp only [NM, List.mem_cons, List.not_mem_nil, or_false] at hn
  rcases hn with rfl | rfl | rfl | rfl <;> exact ⟨_, rfl⟩
theorem loseP_pn {dist : Int} {rs : List D} (hG : ∀ d, d ∈ rs → G d) {z : D} (h : z ∈ (clashL dist rs).filterMap loseP) : PN z := by
  obtain ⟨c, hc, e⟩ := List.mem_filterMap.mp h
  obtain ⟨x, y, rfl, hx, hy⟩ := clashL_mem hc
  obtain ⟨i, hi⟩ := (hG x hx).nm
  obtain ⟨j, hj⟩ := (hG y hy).nm
  simp only [loseP, hi, hj] at e
  split at e
  · cases e
  · cases e
    split
    · exact ⟨_, _, rfl⟩
    · exact ⟨_, _, rfl⟩
theorem openP_pn {dist : Int} {rs : List D} (hG : ∀ d, d ∈ rs → G d) {z : D} (h : z ∈ (clashL dist rs).filterMap openP) : PN z := by
  obtain ⟨c, hc, e⟩ := List.mem_filterMap.mp h
  obtain ⟨x, y, rfl, hx, hy⟩ := clashL_mem hc
  obtain ⟨i, hi⟩ := (hG x hx).nm
  obtain ⟨j, hj⟩ := (hG y hy).nm
  simp only [openP, hi, hj] at e
  split at e
  · cases e
    exact ⟨_, _, rfl⟩
  · cases e
theorem pn_sorted {xs : List D} (h : ∀ z, z ∈ xs → PN z) (hl : xs.length ≤ 1000000) (fl : Bool) : gSorted fl [.lst xs] = some ⟨.lst (xs.mergeSort leD), true⟩ := by
  have h1 : xs.all (okd 18) = true := List.all_eq_true.mpr fun z hz => by obtain ⟨i, j, rfl⟩ := h z hz; rfl
  have h2 : allAlike xs = true := List.all_eq_true.mpr fun z hz => List.all_eq_true.mpr fun z' hz' => by
    obtain ⟨i, j, rfl⟩ := h z hz
    obtain ⟨i', j', rfl⟩ := h z' hz'
    rfl
  have h3 : sortable xs = true := by
    unfold sortable
    have : xs.all isTupC = true := List.all_eq_true.mpr fun z hz => by obtain ⟨i, j, rfl⟩ := h z hz; rfl
    rw [this, Bool.true_or]
  show (if (xs.all (okd 18) && allAlike xs && sortable xs && decide (xs.length ≤ 1000000)) = true then _ else _) = _
  rw [h1, h2, h3, decide_eq_true hl]
  rfl
theorem pn_inj {a b : D} (ha : PN a) (hb : PN b) (e : PySem.W.keyToks (toP a) = PySem.W.keyToks (toP b)) : a = b := by
  obtain ⟨i, j, rfl⟩ := ha
  obtain ⟨i', j', rfl⟩ := hb
  simp only [toP, toPs, PySem.W.keyToks, PySem.W.keyToksAll, List.cons_append, List.nil_append, List.cons.injEq, Sum.inr.injEq, and_true, true_and] at e
  have e1 : i = i' := by cases i; cases i'; exact congrArg Str.mk (Array.toList_inj.mp e.1)
  have e2 : j = j' := by cases j; cases j'; exact congrArg Str.mk (Array.toList_inj.mp e.2)
  rw [e1, e2]
theorem cl16 {dist : Int} {rs : List D} (hl : rs.length ≤ 4) : (clashL dist rs).length ≤ 16 := Nat.le_trans (clashL_len dist rs) (Nat.mul_le_mul hl hl)
theorem open_ok {rs : List D} {dist : Int} (hl : rs.length ≤ 4) (hG : ∀ d, d ∈ rs → G d) : F_open_clashes [.tup rs, .int dist] = some (⟨.lst ((clashL dist rs).filterMap openP), true⟩, .non) := by
  have h1 := lc_map (vs := [2, 3]) (it := cIt (cCall F_clashes [(.nm 0), (.nm 1)])) (gt := DL.gTupD 2 (gConsD (setSh 2) (gConsD (setSh 3) gNilD))) (t := cBo (cP gEq [(.ex (cP gIx [(.nm 2), (.ex (cC (.int 1)))])), (.ex (cP gIx [(.nm 3), (.ex (cC (.int 1)))]))])) (fe := cP DL.gTup [(.ex (cP gIx [(.nm 2), (.ex (cC (.int 0)))])), (.ex (cP gIx [(.nm 3), (.ex (cC (.int 0)))]))])
    (ds0 := clashL dist rs) (env := [.sh (.tup rs), .sh (.int dist), .no, .no]) (e1 := [.sh (.tup rs), .sh (.int dist), .no, .no]) (e2 := [.sh (.tup rs), .sh (.int dist), .no, .no]) openP
    (by simp only [runB, env0, outB, ow0, evOps, sld, storeSl, setSh, ownL, cP, cC, cNm, cBo, cTr, dTru, cAnd, cOr, cNot, cAndV, cOrV, cNotV, DL.gTup, gLst, gAbs, gInt, gTupOf, gLstOf, cRet, cRetO, cSet, cSetIx, cAsg, cShare, shE, cIsi, cIsi2, tyIs, RB, RI, gNe_int, gNe_str, gLt_int, gGt_int, gLe_int, gGe_int, gAdd_int, gSub_int, at_0, at_1, at_2, at_3, at_4, at_5, at_6, cNx, cYes, cDrop, gIs, gIsNot, gIsB, isNon, Bool.false_xor, Bool.true_xor, gNeg, DL.gTupD, gConsD, gNilD, cCall, cCallM, flatR, List.map_cons, List.map_nil, List.length_cons, List.length_nil, List.length_map, List.length_set, List.cons_append, List.nil_append, List.replicate_succ, List.replicate_zero, List.getElem?_cons_zero, List.getElem?_cons_succ, List.set_cons_zero, List.set_cons_succ, Option.bind_eq_bind, Option.bind_some, Option.map_some, Option.bind_none, Nat.reduceAdd, Nat.reduceSub, Nat.reduceLeDiff, Nat.reduceLT, Nat.reduceEqDiff, Nat.zero_add, Bool.or_false, Bool.or_true, Bool.false_or, Bool.true_or, Bool.and_true, Bool.true_and, Bool.and_false, Bool.false_and, Bool.not_true, Bool.not_false, if_true, if_false, ↓reduceIte, Bool.false_eq_true, ix_4_0, ix_4_1, ix_4_2, ix_4_3, List.set_cons_zero, forall_const, cIte, cIt, clashes_ok hl hG, itSeq]) rfl (Nat.le_trans (cl16 hl) (by decide)) (fun z hz => by
      obtain ⟨x, y, rfl, hx, hy⟩ := clashL_mem hz
      obtain ⟨nm, g, a, rfl, _⟩ := hG x hx
      obtain ⟨nm', g', a', rfl, _⟩ := hG y hy
      refine ⟨_, decide (g = g'), [.sh (.tup rs), .sh (.int dist), .sh (.tup [nm, .int g, a]), .sh (.tup [nm', .int g', a'])], rfl, ?_, ?_⟩
      · simp only [runB, env0, outB, ow0, evOps, sld, storeSl, setSh, ownL, cP, cC, cNm, cBo, cTr, dTru, cAnd, cOr, cNot, cAndV, cOrV, cNotV, DL.gTup, gLst, gIx, gLen, gAbs, gInt, gTupOf, gLstOf, cRet, cRetO, cSet, cSetIx, cAsg, cShare, shE, cIsi, cIsi2, tyIs, RB, RI, gEq_int, gNe_int, gEq_str, gNe_str, gLt_int, gGt_int, gLe_int, gGe_int, gAdd_int, gSub_int, at_0, at_1, at_2, at_3, at_4, at_5, at_6, cNx, cYes, cDrop, gIs, gIsNot, gIsB, isNon, Bool.false_xor, Bool.true_xor, gNeg, DL.gTupD, gConsD, gNilD, cCall, cCallM, flatR, List.map_cons, List.map_nil, List.length_cons, List.length_nil, List.length_map, List.length_set, List.cons_append, List.nil_append, List.replicate_succ, List.replicate_zero, List.getElem?_cons_zero, List.getElem?_cons_succ, List.set_cons_zero, List.set_cons_succ, Option.bind_eq_bind, Option.bind_some, Option.map_some, Option.bind_none, Nat.reduceAdd, Nat.reduceSub, Nat.reduceLeDiff, Nat.reduceLT, Nat.reduceEqDiff, Nat.zero_add, Bool.or_false, Bool.or_true, Bool.false_or, Bool.true_or, Bool.and_true, Bool.true_and, Bool.and_false, Bool.false_and, Bool.not_true, Bool.not_false, if_true, if_false, ↓reduceIte, Bool.false_eq_true, ix_4_0, ix_4_1, ix_4_2, ix_4_3, List.set_cons_zero, forall_const, cIte]
      · by_cases w : g = g'
        · rw [decide_eq_true w]
          exact ⟨_, _, rfl, rfl, by simp [openP, numD, w, nmD]⟩
        · rw [decide_eq_false w]
          exact ⟨rfl, by simp [openP, numD, w]⟩)
  have st : W (F_open_clashes [.tup rs, .int dist]) fun q => q = (⟨.lst ((clashL dist rs).filterMap openP), true⟩, .non) := by
    unfold F_open_clashes B_open_clashes
    exact w_run rfl (w_ret h1 ⟨_, rfl, rfl⟩)
  obtain ⟨o, e, rfl⟩ := st
  exact e
theorem losers_ok {rs : List D} {dist : Int} (hl : rs.length ≤ 4) (hG : ∀ d, d ∈ rs → G d) : F_losers [.tup rs, .int dist] = some (⟨.lst (((clashL dist rs).filterMap loseP).mergeSort leD), true⟩, .non) := by
  have st : W (F_losers [.tup rs, .int dist]) fun q => q = (⟨.lst (((clashL dist rs).filterMap loseP).mergeSort leD), true⟩, .non) := by
    unfold F_losers B_losers
    refine w_run rfl ?_
    refine w_nx (by simp only [runB, env0, outB, ow0, evOps, sld, storeSl, setSh, ownL, cP, cC, cNm, cBo, cTr, dTru, cAnd, cOr, cNot, cAndV, cOrV, cNotV, DL.gTup, gLst, gIx, gLen, gAbs, gInt, gTupOf, gLstOf, cRet, cRetO, cSet, cSetIx, cAsg, cShare, shE, cIsi, cIsi2, tyIs, RB, RI, gEq_int, gNe_int, gEq_str, gNe_str, gLt_int, gGt_int, gLe_int, gGe_int, gAdd_int, gSub_int, at_0, at_1, at_2, at_3, at_4, at_5, at_6, cNx, cYes, cDrop, gIs, gIsNot, gIsB, isNon, Bool.false_xor, Bool.true_xor, gNeg, DL.gTupD, gConsD, gNilD, cCall, cCallM, flatR, List.map_cons, List.map_nil, List.length_cons, List.length_nil, List.length_map, List.length_set, List.cons_append, List.nil_append, List.replicate_succ, List.replicate_zero, List.getElem?_cons_zero, List.getElem?_cons_succ, List.set_cons_zero, List.set_cons_succ, Option.bind_eq_bind, Option.bind_some, Option.map_some, Option.bind_none, Nat.reduceAdd, Nat.reduceSub, Nat.reduceLeDiff, Nat.reduceLT, Nat.reduceEqDiff, Nat.zero_add, Bool.or_false, Bool.or_true, Bool.false_or, Bool.true_or, Bool.and_true, Bool.true_and, Bool.and_false, Bool.false_and, Bool.not_true, Bool.not_false, if_true, if_false, ↓reduceIte, Bool.false_eq_true, ix_4_0, ix_4_1, ix_4_2, ix_4_3, List.set_cons_zero, forall_const, cIte]; rfl) ?_
    refine w_seq ?_
    refine w_for (ds := clashL dist rs) (e := [.sh (.tup rs), .sh (.int dist), .ow (.lst []), .no, .no]) (fun pre _ e => ∃ x3 x4, e = [.sh (.tup rs), .sh (.int dist), .ow (.lst (pre.filterMap loseP)), x3, x4] ∧ Fv x3 ∧ Fv x4) (by simp only [runB, env0, outB, ow0, evOps, sld, storeSl, setSh, ownL, cP, cC, cNm, cBo, cTr, dTru, cAnd, cOr, cNot, cAndV, cOrV, cNotV, DL.gTup, gLst, gAbs, gInt, gTupOf, gLstOf, cRet, cRetO, cSet, cSetIx, cAsg, cShare, shE, cIsi, cIsi2, tyIs, RB, RI, gNe_int, gNe_str, gLt_int, gGt_int, gLe_int, gGe_int, gAdd_int, gSub_int, at_0, at_1, at_2, at_3, at_4, at_5, at_6, cNx, cYes, cDrop, gIs, gIsNot, gIsB, isNon, Bool.false_xor, Bool.true_xor, gNeg, DL.gTupD, gConsD, gNilD, cCall, cCallM, flatR, List.map_cons, List.map_nil, List.length_cons, List.length_nil, List.length_map, List.length_set, List.cons_append, List.nil_append, List.replicate_succ, List.replicate_zero, List.getElem?_cons_zero, List.getElem?_cons_succ, List.set_cons_zero, List.set_cons_succ, Option.bind_eq_bind, Option.bind_some, Option.map_some, Option.bind_none, Nat.reduceAdd, Nat.reduceSub, Nat.reduceLeDiff, Nat.reduceLT, Nat.reduceEqDiff, Nat.zero_add, Bool.or_false, Bool.or_true, Bool.false_or, Bool.true_or, Bool.and_true, Bool.true_and, Bool.and_false, Bool.false_and, Bool.not_true, Bool.not_false, if_true, if_false, ↓reduceIte, Bool.false_eq_true, ix_4_0, ix_4_1, ix_4_2, ix_4_3, List.set_cons_zero, forall_const, cIte, cIt, clashes_ok hl hG, itSeq]) ⟨.no, .no, rfl, .no, .no⟩ (fun pre d post e hp ⟨x3, x4, he, f3, f4⟩ => ?_) (fun e ⟨x3, x4, he, _, _⟩ => ?_)
    · subst he
      obtain ⟨x, y, rfl, hx, hy⟩ := clashL_mem (show d ∈ clashL dist rs by rw [← hp]; simp)
      obtain ⟨nm, g, a, rfl, _⟩ := hG x hx
      obtain ⟨nm', g', a', rfl, _⟩ := hG y hy
      have s1 := setSh_fv (i := 3) (d := .tup [nm, .int g, a]) (env := [.sh (.tup rs), .sh (.int dist), .ow (.lst (pre.filterMap loseP)), x3, x4]) rfl f3
      have s2 := setSh_fv (i := 4) (d := .tup [nm', .int g', a']) (env := [.sh (.tup rs), .sh (.int dist), .ow (.lst (pre.filterMap loseP)), .sh (.tup [nm, .int g, a]), x4]) rfl f4
      have hpl : (pre.filterMap loseP).length < 1000000 := by
        have h1 := cl16 (dist := dist) hl
        have h2 : (pre ++ D.tup [D.tup [nm, D.int g, a], D.tup [nm', D.int g', a']] :: post).length = (clashL dist rs).length := by rw [hp]
        have h3 := List.length_filterMap_le loseP pre
        simp only [List.length_append] at h2
        omega
      refine ⟨[.sh (.tup rs), .sh (.int dist), .ow (.lst (pre.filterMap loseP)), .sh (.tup [nm, .int g, a]), .sh (.tup [nm', .int g', a'])], by simp only [runB, env0, outB, ow0, evOps, sld, storeSl, ownL, cP, cC, cNm, cBo, cTr, dTru, cAnd, cOr, cNot, cAndV, cOrV, cNotV, DL.gTup, gLst, gIx, gLen, gAbs, gInt, gTupOf, gLstOf, cRet, cRetO, cSet, cSetIx, cAsg, cShare, shE, cIsi, cIsi2, tyIs, RB, RI, gEq_int, gNe_int, gEq_str, gNe_str, gLt_int, gGt_int, gLe_int, gGe_int, gAdd_int, gSub_int, at_0, at_1, at_2, at_3, at_4, at_5, at_6, cNx, cYes, cDrop, gIs, gIsNot, gIsB, isNon, Bool.false_xor, Bool.true_xor, gNeg, DL.gTupD, gConsD, gNilD, cCall, cCallM, flatR, List.map_cons, List.map_nil, List.length_cons, List.length_nil, List.length_map, List.length_set, List.cons_append, List.nil_append, List.replicate_succ, List.replicate_zero, List.getElem?_cons_zero, List.getElem?_cons_succ, List.set_cons_zero, List.set_cons_succ, Option.bind_eq_bind, Option.bind_some, Option.map_some, Option.bind_none, Nat.reduceAdd, Nat.reduceSub, Nat.reduceLeDiff, Nat.reduceLT, Nat.reduceEqDiff, Nat.zero_add, Bool.or_false, Bool.or_true, Bool.false_or, Bool.true_or, Bool.and_true, Bool.true_and, Bool.and_false, Bool.false_and, Bool.not_true, Bool.not_false, if_true, if_false, ↓reduceIte, Bool.false_eq_true, ix_4_0, ix_4_1, ix_4_2, ix_4_3, List.set_cons_zero, forall_const, cIte, s1, s2], ?_⟩
      refine w_ite (by simp only [runB, env0, outB, ow0, evOps, sld, storeSl, setSh, ownL, cP, cC, cNm, cBo, cTr, dTru, cAnd, cOr, cNot, cAndV, cOrV, cNotV, DL.gTup, gLst, gIx, gLen, gAbs, gInt, gTupOf, gLstOf, cRet, cRetO, cSet, cSetIx, cAsg, cShare, shE, cIsi, cIsi2, tyIs, RB, RI, gEq_int, gNe_int, gEq_str, gNe_str, gLt_int, gGt_int, gLe_int, gGe_int, gAdd_int, gSub_int, at_0, at_1, at_2, at_3, at_4, at_5, at_6, cNx, cYes, cDrop, gIs, gIsNot, gIsB, isNon, Bool.false_xor, Bool.true_xor, gNeg, DL.gTupD, gConsD, gNilD, cCall, cCallM, flatR, List.map_cons, List.map_nil, List.length_cons, List.length_nil, List.length_map, List.length_set, List.cons_append, List.nil_append, List.replicate_succ, List.replicate_zero, List.getElem?_cons_zero, List.getElem?_cons_succ, List.set_cons_zero, List.set_cons_succ, Option.bind_eq_bind, Option.bind_some, Option.map_some, Option.bind_none, Nat.reduceAdd, Nat.reduceSub, Nat.reduceLeDiff, Nat.reduceLT, Nat.reduceEqDiff, Nat.zero_add, Bool.or_false, Bool.or_true, Bool.false_or, Bool.true_or, Bool.and_true, Bool.true_and, Bool.and_false, Bool.false_and, Bool.not_true, Bool.not_false, if_true, if_false, ↓reduceIte, Bool.false_eq_true, ix_4_0, ix_4_1, ix_4_2, ix_4_3, List.set_cons_zero, forall_const, cIte]; rfl) (fun hn => ?_) (fun hn => ?_)
      · have hne : ¬ g = g' := of_decide_eq_true hn
        refine w_st (e := [.sh (.tup rs), .sh (.int dist), .ow (.lst (pre.filterMap loseP ++ [if g < g' then .tup [nm', nm] else .tup [nm, nm']])), .sh (.tup [nm, .int g, a]), .sh (.tup [nm', .int g', a'])]) ?_ ?_
        · by_cases hlt : g < g'
          · simp only [runB, env0, outB, ow0, evOps, sld, storeSl, setSh, ownL, cP, cC, cNm, cBo, cTr, dTru, cAnd, cOr, cNot, cAndV, cOrV, cNotV, DL.gTup, gLst, gIx, gLen, gAbs, gInt, gTupOf, gLstOf, cRet, cRetO, cSet, cSetIx, cAsg, cShare, shE, cIsi, cIsi2, tyIs, RB, RI, gEq_int, gNe_int, gEq_str, gNe_str, gLt_int, gGt_int, gLe_int, gGe_int, gAdd_int, gSub_int, at_0, at_1, at_2, at_3, at_4, at_5, at_6, cNx, cYes, cDrop, gIs, gIsNot, gIsB, isNon, Bool.false_xor, Bool.true_xor, gNeg, DL.gTupD, gConsD, gNilD, cCall, cCallM, flatR, List.map_cons, List.map_nil, List.length_cons, List.length_nil, List.length_map, List.length_set, List.cons_append, List.nil_append, List.replicate_succ, List.replicate_zero, List.getElem?_cons_zero, List.getElem?_cons_succ, List.set_cons_zero, List.set_cons_succ, Option.bind_eq_bind, Option.bind_some, Option.map_some, Option.bind_none, Nat.reduceAdd, Nat.reduceSub, Nat.reduceLeDiff, Nat.reduceLT, Nat.reduceEqDiff, Nat.zero_add, Bool.or_false, Bool.or_true, Bool.false_or, Bool.true_or, Bool.and_true, Bool.true_and, Bool.and_false, Bool.false_and, Bool.not_true, Bool.not_false, if_true, if_false, ↓reduceIte, Bool.false_eq_true, ix_4_0, ix_4_1, ix_4_2, ix_4_3, List.set_cons_zero, forall_const, cIte, cApp, hpl, decide_eq_true hlt, if_pos hlt]
          · simp only [runB, env0, outB, ow0, evOps, sld, storeSl, setSh, ownL, cP, cC, cNm, cBo, cTr, dTru, cAnd, cOr, cNot, cAndV, cOrV, cNotV, DL.gTup, gLst, gIx, gLen, gAbs, gInt, gTupOf, gLstOf, cRet, cRetO, cSet, cSetIx, cAsg, cShare, shE, cIsi, cIsi2, tyIs, RB, RI, gEq_int, gNe_int, gEq_str, gNe_str, gLt_int, gGt_int, gLe_int, gGe_int, gAdd_int, gSub_int, at_0, at_1, at_2, at_3, at_4, at_5, at_6, cNx, cYes, cDrop, gIs, gIsNot, gIsB, isNon, Bool.false_xor, Bool.true_xor, gNeg, DL.gTupD, gConsD, gNilD, cCall, cCallM, flatR, List.map_cons, List.map_nil, List.length_cons, List.length_nil, List.length_map, List.length_set, List.cons_append, List.nil_append, List.replicate_succ, List.replicate_zero, List.getElem?_cons_zero, List.getElem?_cons_succ, List.set_cons_zero, List.set_cons_succ, Option.bind_eq_bind, Option.bind_some, Option.map_some, Option.bind_none, Nat.reduceAdd, Nat.reduceSub, Nat.reduceLeDiff, Nat.reduceLT, Nat.reduceEqDiff, Nat.zero_add, Bool.or_false, Bool.or_true, Bool.false_or, Bool.true_or, Bool.and_true, Bool.true_and, Bool.and_false, Bool.false_and, Bool.not_true, Bool.not_false, if_true, if_false, ↓reduceIte, Bool.false_eq_true, ix_4_0, ix_4_1, ix_4_2, ix_4_3, List.set_cons_zero, forall_const, cIte, cApp, hpl, decide_eq_false hlt, if_neg hlt]
        · refine ⟨.sh (.tup [nm, .int g, a]), .sh (.tup [nm', .int g', a']), ?_, .sh _, .sh _⟩
          rw [List.filterMap_append]
          by_cases hlt : g < g' <;> simp [loseP, numD, nmD, hne, hlt]
      · have hne : g = g' := by simpa using hn
        refine w_nop ⟨.sh (.tup [nm, .int g, a]), .sh (.tup [nm', .int g', a']), ?_, .sh _, .sh _⟩
        rw [List.filterMap_append]
        simp [loseP, numD, hne]
    · subst he
      have hs := pn_sorted (fun z hz => loseP_pn hG hz) (Nat.le_trans (List.length_filterMap_le _ _) (Nat.le_trans (cl16 (dist := dist) hl) (by decide)))
      refine w_ret (by simp only [runB, env0, outB, ow0, evOps, sld, storeSl, setSh, ownL, cP, cC, cNm, cBo, cTr, dTru, cAnd, cOr, cNot, cAndV, cOrV, cNotV, DL.gTup, gLst, gAbs, gInt, gTupOf, gLstOf, cRet, cRetO, cSet, cSetIx, cAsg, cShare, shE, cIsi, cIsi2, tyIs, RB, RI, gNe_int, gNe_str, gLt_int, gGt_int, gLe_int, gGe_int, gAdd_int, gSub_int, at_0, at_1, at_2, at_3, at_4, at_5, at_6, cNx, cYes, cDrop, gIs, gIsNot, gIsB, isNon, Bool.false_xor, Bool.true_xor, gNeg, DL.gTupD, gConsD, gNilD, cCall, cCallM, flatR, List.map_cons, List.map_nil, List.length_cons, List.length_nil, List.length_map, List.length_set, List.cons_append, List.nil_append, List.replicate_succ, List.replicate_zero, List.getElem?_cons_zero, List.getElem?_cons_succ, List.set_cons_zero, List.set_cons_succ, Option.bind_eq_bind, Option.bind_some, Option.map_some, Option.bind_none, Nat.reduceAdd, Nat.reduceSub, Nat.reduceLeDiff, Nat.reduceLT, Nat.reduceEqDiff, Nat.zero_add, Bool.or_false, Bool.or_true, Bool.false_or, Bool.true_or, Bool.and_true, Bool.true_and, Bool.and_false, Bool.false_and, Bool.not_true, Bool.not_false, if_true, if_false, ↓reduceIte, Bool.false_eq_true, ix_4_0, ix_4_1, ix_4_2, ix_4_3, List.set_cons_zero, forall_const, cIte, hs]; rfl) ⟨_, rfl, rfl⟩
  obtain ⟨o, e, rfl⟩ := st
  exact e
def LPf (f : D → Option D) (dist : Int) (x y : D) : List D := if near dist x y then (f (.tup [x, y])).toList else []
def innerL (f : D → Option D) (dist : Int) (rs : List D) (k m : Nat) : List D := (List.range m).flatMap fun j => LPf f dist (rs.getD j .non) (rs.getD k .non)
def outerL (f : D → Option D) (dist : Int) (rs : List D) (m : Nat) : List D := (List.range m).flatMap fun k => innerL f dist rs k k
theorem fm_len {α β : Type} {c : Nat} {f : α → List β} (h : ∀ x, (f x).length ≤ c) : ∀ l : List α, (l.flatMap f).length ≤ c * l.length
  | [] => by simp
  | x :: l => by
    have h1 := h x
    have h2 := fm_len h l
    rw [List.flatMap_cons, List.length_append, List.length_cons, Nat.mul_succ]
    omega
theorem LPf_len (f : D → Option D) (dist : Int) (x y : D) : (LPf f dist x y).length ≤ 1 := by
  unfold LPf
  split
  · cases f (.tup [x, y]) <;> simp
  · simp
theorem innerL_len (f : D → Option D) (dist : Int) (rs : List D) (k m : Nat) : (innerL f dist rs k m).length ≤ m := by
  have := fm_len (fun j => LPf_len f dist (rs.getD j .non) (rs.getD k .non)) (List.range m)
  rw [List.length_range, Nat.one_mul] at this
  exact this
theorem outerL_len (f : D → Option D) (dist : Int) (rs : List D) : ∀ m : Nat, (outerL f dist rs m).length ≤ m * m
  | 0 => by simp [outerL]
  | m + 1 => by
    have h1 := outerL_len f dist rs m
    have h2 := innerL_len f dist rs m m
    have e : outerL f dist rs (m + 1) = outerL f dist rs m ++ innerL f dist rs m m := by simp [outerL, List.range_succ]
    rw [e, List.length_append]
    have : (m + 1) * (m + 1) = m * m + 2 * m + 1 := by rw [Nat.mul_add, Nat.add_mul]; omega
    omega
theorem row_f (f : D → Option D) (dist : Int) (x : D) : ∀ ys : List D, (rowL dist x ys).filterMap f = ys.flatMap fun y => LPf f dist x y
  | [] => rfl
  | y :: ys => by
    have ih := row_f f dist x ys
    unfold rowL at ih ⊢
    rw [List.flatMap_cons, ← ih, List.filterMap_cons]
    unfold LPf
    cases near dist x y with
    | false => rfl
    | true =>
      simp only [if_true, List.filterMap_cons]
      cases f (.tup [x, y]) <;> rfl
theorem outer_perm (f : D → Option D) (dist : Int) : ∀ rs : List D, rs.length ≤ 4 → (outerL f dist rs rs.length).Perm ((clashL dist rs).filterMap f)
  | [], _ => .refl _
  | [x], _ => by simp [outerL, innerL, clashL, rowL, List.range_succ]
  | [x, y], _ => by
    simp only [clashL, List.filterMap_append, row_f, outerL, innerL, List.length_cons, List.length_nil, List.range_succ, List.range_zero, List.nil_append, List.flatMap_append, List.flatMap_cons, List.flatMap_nil, List.append_nil, List.filterMap_nil, List.getD_cons_zero, List.getD_cons_succ]
    exact .refl _
  | [x, y, z], _ => by
    simp only [clashL, List.filterMap_append, row_f, outerL, innerL, List.length_cons, List.length_nil, List.range_succ, List.range_zero, List.nil_append, List.flatMap_append, List.flatMap_cons, List.flatMap_nil, List.append_nil, List.filterMap_nil, List.getD_cons_zero, List.getD_cons_succ, List.append_assoc]
    exact .refl _
  | [x, y, z, u], _ => by
    simp only [clashL, List.filterMap_append, row_f, outerL, innerL, List.length_cons, List.length_nil, List.range_succ, List.range_zero, List.nil_append, List.flatMap_append, List.flatMap_cons, List.flatMap_nil, List.append_nil, List.filterMap_nil, List.getD_cons_zero, List.getD_cons_succ, List.append_assoc]
    exact List.Perm.append_left _ (List.Perm.append_left _ (List.perm_append_comm_assoc _ _ _))
  | _ :: _ :: _ :: _ :: _ :: _, h => absurd h (by simp)
def PAIRS : List D := [.tup [.str "aldo", .str "bert"], .tup [.str "aldo", .str "carl"], .tup [.str "aldo", .str "dirk"], .tup [.str "bert", .str "carl"], .tup [.str "bert", .str "dirk"], .tup [.str "carl", .str "dirk"]]
theorem pairs_sorted : PAIRS.Pairwise fun a b => leD a b = true := by decide +kernel
theorem open_sub1 (dist : Int) (nm nm' : D) (p p' : Int × D) : (LPf openP dist (mkE nm p) (mkE nm' p')).Sublist [.tup [nm, nm']] := by
  unfold LPf
  split
  · simp only [openP, mkE, numD, nmD]
    by_cases h : p.1 = p'.1 <;> simp [h]
  · exact List.nil_sublist _
theorem open_sub (dist : Int) : ∀ es : List (Int × D), es.length ≤ 4 → ((clashL dist (rollD es)).filterMap openP).Sublist PAIRS
  | [], _ => List.nil_sublist _
  | [p], _ => List.nil_sublist _
  | [p, q], _ => by
    simp only [rollD, NM, List.zipWith_cons_cons, List.zipWith_nil_right, clashL, List.filterMap_append, row_f, List.flatMap_cons, List.flatMap_nil, List.append_nil, List.filterMap_nil]
    exact (open_sub1 dist _ _ p q).trans (List.sublist_append_left [_] [_, _, _, _, _])
  | [p, q, r], _ => by
    simp only [rollD, NM, List.zipWith_cons_cons, List.zipWith_nil_right, clashL, List.filterMap_append, row_f, List.flatMap_cons, List.flatMap_nil, List.append_nil, List.filterMap_nil, List.append_assoc]
    exact (open_sub1 dist _ _ p q).append ((open_sub1 dist _ _ p r).append ((open_sub1 dist _ _ q r).trans (List.Sublist.cons _ (List.sublist_append_left [_] [_, _]))))
  | [p, q, r, s], _ => by
    simp only [rollD, NM, List.zipWith_cons_cons, List.zipWith_nil_right, clashL, List.filterMap_append, row_f, List.flatMap_cons, List.flatMap_nil, List.append_nil, List.filterMap_nil, List.append_assoc]
    exact (open_sub1 dist _ _ p q).append ((open_sub1 dist _ _ p r).append ((open_sub1 dist _ _ p s).append ((open_sub1 dist _ _ q r).append ((open_sub1 dist _ _ q s).append (open_sub1 dist _ _ r s)))))
  | _ :: _ :: _ :: _ :: _ :: _, h => absurd h (by simp)
/-! ### the law's walk of all pairs -/
abbrev en (scr dr x2 : Sl) (rs : List D) (dist : Int) (one oth : Sl) (lost even : List D) (x13 x14 x15 : Sl) : DL.Env :=
  [scr, dr, x2, .no, .no, .no, .no, .sh (.tup rs), .sh (.int dist), one, oth, .sh (.lst lost), .sh (.lst even), x13, x14, x15]
noncomputable def Bin : DL.Env → Option Out := (cIte (cBo (cP gLt [(.ex (cCall F__law_apart [(.ex (cP gIx [(.ex (cP gIx [(.nm 7), (.nm 13)])), (.ex (cC (.int 2)))])), (.ex (cP gIx [(.ex (cP gIx [(.nm 7), (.nm 2)])), (.ex (cC (.int 2)))]))])), (.nm 8)]))
    (cSeq (cAsg (cIte (cBo (cP gLe [(.ex (cP gIx [(.ex (cP gIx [(.nm 7), (.nm 13)])), (.ex (cC (.int 1)))])), (.ex (cP gIx [(.ex (cP gIx [(.nm 7), (.nm 2)])), (.ex (cC (.int 1)))]))])) (cP DL.gTup [(.ex (cP gIx [(.nm 7), (.nm 13)])), (.ex (cP gIx [(.nm 7), (.nm 2)]))]) (cP DL.gTup [(.ex (cP gIx [(.nm 7), (.nm 2)])), (.ex (cP gIx [(.nm 7), (.nm 13)]))])) (DL.gTupD 2 (gConsD (setSh 14) (gConsD (setSh 15) gNilD))))
    (cSeq (cSet false 11 (cP gAdd [(.nm 11), (.ex (cIte (cBo (cP gLt [(.ex (cP gIx [(.nm 14), (.ex (cC (.int 1)))])), (.ex (cP gIx [(.nm 15), (.ex (cC (.int 1)))]))])) (cP DL.gLst [(.ex (cP DL.gTup [(.ex (cP gIx [(.nm 15), (.ex (cC (.int 0)))])), (.ex (cP gIx [(.nm 14), (.ex (cC (.int 0)))]))]))]) (cP DL.gLst [])))]))
    (cSet false 12 (cP gAdd [(.nm 12), (.ex (cIte (cBo (cP gEq [(.ex (cP gIx [(.nm 14), (.ex (cC (.int 1)))])), (.ex (cP gIx [(.nm 15), (.ex (cC (.int 1)))]))])) (cP DL.gLst [(.ex (cP DL.gTup [(.ex (cP gIx [(.ex (cP gIx [(.nm 7), (.nm 13)])), (.ex (cC (.int 0)))])), (.ex (cP gIx [(.ex (cP gIx [(.nm 7), (.nm 2)])), (.ex (cC (.int 0)))]))]))]) (cP DL.gLst [])))]))))
    cNx)
theorem gAdd_lst (fl : Bool) (xs ys : List D) (h : xs.length + ys.length ≤ 1000000) : gAdd fl [.lst xs, .lst ys] = some ⟨.lst (xs ++ ys), true⟩ := by
  show (if _ then _ else _) = _
  rw [if_pos h]
theorem bin_ok {scr dr one oth x14 x15 : Sl} {rs lost even : List D} {dist : Int} {j k : Nat} {nm nm' a a' : D} {g g' : Int} (hj : rs[j]? = some (.tup [nm, .int g, a])) (hk : rs[k]? = some (.tup [nm', .int g', a'])) (ha : Arms a) (ha' : Arms a') (hl : lost.length ≤ 1000) (he : even.length ≤ 1000) (f14 : Fv x14) (f15 : Fv x15) :
    W (Bin (en scr dr (.sh (.int k)) rs dist one oth lost even (.sh (.int j)) x14 x15)) fun o => ∃ y14 y15, o = .nx (en scr dr (.sh (.int k)) rs dist one oth (lost ++ LPf loseP dist (.tup [nm, .int g, a]) (.tup [nm', .int g', a'])) (even ++ LPf openP dist (.tup [nm, .int g, a]) (.tup [nm', .int g', a'])) (.sh (.int j)) y14 y15) ∧ Fv y14 ∧ Fv y15 := by
  have aj : atI rs (j : Int) = some (.tup [nm, .int g, a]) := by rw [at_nat]; exact hj
  have ak : atI rs (k : Int) = some (.tup [nm', .int g', a']) := by rw [at_nat]; exact hk
  have cc := (apartOf ha ha').2
  unfold Bin
  refine w_ite (by simp only [runB, env0, outB, ow0, evOps, sld, storeSl, setSh, ownL, cP, cC, cNm, cBo, cTr, dTru, cAnd, cOr, cNot, cAndV, cOrV, cNotV, DL.gTup, gLst, gIx, gLen, gAbs, gInt, gTupOf, gLstOf, cRet, cRetO, cSet, cSetIx, cAsg, cShare, shE, cIsi, cIsi2, tyIs, RB, RI, gEq_int, gNe_int, gEq_str, gNe_str, gLt_int, gGt_int, gLe_int, gGe_int, gAdd_int, gSub_int, at_0, at_1, at_2, at_3, at_4, at_5, at_6, cNx, cYes, cDrop, gIs, gIsNot, gIsB, isNon, Bool.false_xor, Bool.true_xor, gNeg, DL.gTupD, gConsD, gNilD, cCall, cCallM, flatR, List.map_cons, List.map_nil, List.length_cons, List.length_nil, List.length_map, List.length_set, List.cons_append, List.nil_append, List.replicate_succ, List.replicate_zero, List.getElem?_cons_zero, List.getElem?_cons_succ, List.set_cons_zero, List.set_cons_succ, Option.bind_eq_bind, Option.bind_some, Option.map_some, Option.bind_none, Nat.reduceAdd, Nat.reduceSub, Nat.reduceLeDiff, Nat.reduceLT, Nat.reduceEqDiff, Nat.zero_add, Bool.or_false, Bool.or_true, Bool.false_or, Bool.true_or, Bool.and_true, Bool.true_and, Bool.and_false, Bool.false_and, Bool.not_true, Bool.not_false, if_true, if_false, ↓reduceIte, Bool.false_eq_true, ix_4_0, ix_4_1, ix_4_2, ix_4_3, List.set_cons_zero, forall_const, cIte, aj, ak, cc]; rfl) (fun hn => ?_) (fun hn => ?_)
  · have nn : near dist (.tup [nm, .int g, a]) (.tup [nm', .int g', a']) = true := hn
    have s14 : ∀ d, setSh 14 d (en scr dr (.sh (.int k)) rs dist one oth lost even (.sh (.int j)) x14 x15) = some (en scr dr (.sh (.int k)) rs dist one oth lost even (.sh (.int j)) (.sh d) x15) := fun d => (setSh_fv rfl f14).trans rfl
    have s15 : ∀ d d', setSh 15 d (en scr dr (.sh (.int k)) rs dist one oth lost even (.sh (.int j)) (.sh d') x15) = some (en scr dr (.sh (.int k)) rs dist one oth lost even (.sh (.int j)) (.sh d') (.sh d)) := fun d d' => (setSh_fv rfl f15).trans rfl
    have add0 : ∀ fl (xs : List D), xs.length ≤ 1000 → gAdd fl [.lst xs, .lst []] = some ⟨.lst (xs ++ []), true⟩ := fun fl xs h => gAdd_lst _ _ _ (by simp; omega)
    have add1 : ∀ fl (xs : List D) (y : D), xs.length ≤ 1000 → gAdd fl [.lst xs, .lst [y]] = some ⟨.lst (xs ++ [y]), true⟩ := fun fl xs y h => gAdd_lst _ _ _ (by simp; omega)
    have l0 := fun fl => add0 fl lost hl
    have l1 := fun fl y => add1 fl lost y hl
    have v0 := fun fl => add0 fl even he
    have v1 := fun fl y => add1 fl even y he
    rcases Int.lt_trichotomy g g' with hlt | heq | hgt
    · have eL : LPf loseP dist (.tup [nm, .int g, a]) (.tup [nm', .int g', a']) = [.tup [nm', nm]] := by
        simp [LPf, nn, loseP, numD, nmD, hlt, show ¬ g = g' by omega]
      have eO : LPf openP dist (.tup [nm, .int g, a]) (.tup [nm', .int g', a']) = [] := by
        simp [LPf, nn, openP, numD, nmD, show ¬ g = g' by omega]
      refine w_nx (by simp only [runB, env0, outB, ow0, evOps, sld, storeSl, ownL, cP, cC, cNm, cBo, cTr, dTru, cAnd, cOr, cNot, cAndV, cOrV, cNotV, DL.gTup, gLst, gIx, gLen, gAbs, gInt, gTupOf, gLstOf, cRet, cRetO, cSet, cSetIx, cAsg, cShare, shE, cIsi, cIsi2, tyIs, RB, RI, gEq_int, gNe_int, gEq_str, gNe_str, gLt_int, gGt_int, gLe_int, gGe_int, gAdd_int, gSub_int, at_0, at_1, at_2, at_3, at_4, at_5, at_6, cNx, cYes, cDrop, gIs, gIsNot, gIsB, isNon, Bool.false_xor, Bool.true_xor, gNeg, DL.gTupD, gConsD, gNilD, cCall, cCallM, flatR, List.map_cons, List.map_nil, List.length_cons, List.length_nil, List.length_map, List.length_set, List.cons_append, List.nil_append, List.replicate_succ, List.replicate_zero, List.getElem?_cons_zero, List.getElem?_cons_succ, List.set_cons_zero, List.set_cons_succ, Option.bind_eq_bind, Option.bind_some, Option.map_some, Option.bind_none, Nat.reduceAdd, Nat.reduceSub, Nat.reduceLeDiff, Nat.reduceLT, Nat.reduceEqDiff, Nat.zero_add, Bool.or_false, Bool.or_true, Bool.false_or, Bool.true_or, Bool.and_true, Bool.true_and, Bool.and_false, Bool.false_and, Bool.not_true, Bool.not_false, if_true, if_false, ↓reduceIte, Bool.false_eq_true, ix_4_0, ix_4_1, ix_4_2, ix_4_3, List.set_cons_zero, forall_const, cIte, aj, ak, decide_eq_true (show g ≤ g' by omega), s14, s15]; rfl) ?_
      refine w_nx (by simp only [runB, env0, outB, ow0, evOps, sld, storeSl, setSh, ownL, cP, cC, cNm, cBo, cTr, dTru, cAnd, cOr, cNot, cAndV, cOrV, cNotV, DL.gTup, gLst, gIx, gLen, gAbs, gInt, gTupOf, gLstOf, cRet, cRetO, cSet, cSetIx, cAsg, cShare, shE, cIsi, cIsi2, tyIs, RB, RI, gEq_int, gNe_int, gEq_str, gNe_str, gLt_int, gGt_int, gLe_int, gGe_int, gAdd_int, gSub_int, at_0, at_1, at_2, at_3, at_4, at_5, at_6, cNx, cYes, cDrop, gIs, gIsNot, gIsB, isNon, Bool.false_xor, Bool.true_xor, gNeg, DL.gTupD, gConsD, gNilD, cCall, cCallM, flatR, List.map_cons, List.map_nil, List.length_cons, List.length_nil, List.length_map, List.length_set, List.cons_append, List.nil_append, List.replicate_succ, List.replicate_zero, List.getElem?_cons_zero, List.getElem?_cons_succ, List.set_cons_zero, List.set_cons_succ, Option.bind_eq_bind, Option.bind_some, Option.map_some, Option.bind_none, Nat.reduceAdd, Nat.reduceSub, Nat.reduceLeDiff, Nat.reduceLT, Nat.reduceEqDiff, Nat.zero_add, Bool.or_false, Bool.or_true, Bool.false_or, Bool.true_or, Bool.and_true, Bool.true_and, Bool.and_false, Bool.false_and, Bool.not_true, Bool.not_false, if_true, if_false, ↓reduceIte, Bool.false_eq_true, ix_4_0, ix_4_1, ix_4_2, ix_4_3, List.set_cons_zero, forall_const, cIte, decide_eq_true hlt, l1]; rfl) ?_
      refine w_st (by simp only [runB, env0, outB, ow0, evOps, sld, storeSl, setSh, ownL, cP, cC, cNm, cBo, cTr, dTru, cAnd, cOr, cNot, cAndV, cOrV, cNotV, DL.gTup, gLst, gIx, gLen, gAbs, gInt, gTupOf, gLstOf, cRet, cRetO, cSet, cSetIx, cAsg, cShare, shE, cIsi, cIsi2, tyIs, RB, RI, gEq_int, gNe_int, gEq_str, gNe_str, gLt_int, gGt_int, gLe_int, gGe_int, gAdd_int, gSub_int, at_0, at_1, at_2, at_3, at_4, at_5, at_6, cNx, cYes, cDrop, gIs, gIsNot, gIsB, isNon, Bool.false_xor, Bool.true_xor, gNeg, DL.gTupD, gConsD, gNilD, cCall, cCallM, flatR, List.map_cons, List.map_nil, List.length_cons, List.length_nil, List.length_map, List.length_set, List.cons_append, List.nil_append, List.replicate_succ, List.replicate_zero, List.getElem?_cons_zero, List.getElem?_cons_succ, List.set_cons_zero, List.set_cons_succ, Option.bind_eq_bind, Option.bind_some, Option.map_some, Option.bind_none, Nat.reduceAdd, Nat.reduceSub, Nat.reduceLeDiff, Nat.reduceLT, Nat.reduceEqDiff, Nat.zero_add, Bool.or_false, Bool.or_true, Bool.false_or, Bool.true_or, Bool.and_true, Bool.true_and, Bool.and_false, Bool.false_and, Bool.not_true, Bool.not_false, if_true, if_false, ↓reduceIte, Bool.false_eq_true, ix_4_0, ix_4_1, ix_4_2, ix_4_3, List.set_cons_zero, forall_const, cIte, decide_eq_false (show ¬ g = g' by omega), v0]; rfl) ⟨.sh (.tup [nm, .int g, a]), .sh (.tup [nm', .int g', a']), ?_, .sh _, .sh _⟩
      rw [eL, eO]
    · subst heq
      have eL : LPf loseP dist (.tup [nm, .int g, a]) (.tup [nm', .int g, a']) = [] := by
        simp [LPf, nn, loseP, numD]
      have eO : LPf openP dist (.tup [nm, .int g, a]) (.tup [nm', .int g, a']) = [.tup [nm, nm']] := by
        simp [LPf, nn, openP, numD, nmD]
      refine w_nx (by simp only [runB, env0, outB, ow0, evOps, sld, storeSl, ownL, cP, cC, cNm, cBo, cTr, dTru, cAnd, cOr, cNot, cAndV, cOrV, cNotV, DL.gTup, gLst, gIx, gLen, gAbs, gInt, gTupOf, gLstOf, cRet, cRetO, cSet, cSetIx, cAsg, cShare, shE, cIsi, cIsi2, tyIs, RB, RI, gEq_int, gNe_int, gEq_str, gNe_str, gLt_int, gGt_int, gLe_int, gGe_int, gAdd_int, gSub_int, at_0, at_1, at_2, at_3, at_4, at_5, at_6, cNx, cYes, cDrop, gIs, gIsNot, gIsB, isNon, Bool.false_xor, Bool.true_xor, gNeg, DL.gTupD, gConsD, gNilD, cCall, cCallM, flatR, List.map_cons, List.map_nil, List.length_cons, List.length_nil, List.length_map, List.length_set, List.cons_append, List.nil_append, List.replicate_succ, List.replicate_zero, List.getElem?_cons_zero, List.getElem?_cons_succ, List.set_cons_zero, List.set_cons_succ, Option.bind_eq_bind, Option.bind_some, Option.map_some, Option.bind_none, Nat.reduceAdd, Nat.reduceSub, Nat.reduceLeDiff, Nat.reduceLT, Nat.reduceEqDiff, Nat.zero_add, Bool.or_false, Bool.or_true, Bool.false_or, Bool.true_or, Bool.and_true, Bool.true_and, Bool.and_false, Bool.false_and, Bool.not_true, Bool.not_false, if_true, if_false, ↓reduceIte, Bool.false_eq_true, ix_4_0, ix_4_1, ix_4_2, ix_4_3, List.set_cons_zero, forall_const, cIte, aj, ak, decide_eq_true (show g ≤ g by omega), s14, s15]; rfl) ?_
      refine w_nx (by simp only [runB, env0, outB, ow0, evOps, sld, storeSl, setSh, ownL, cP, cC, cNm, cBo, cTr, dTru, cAnd, cOr, cNot, cAndV, cOrV, cNotV, DL.gTup, gLst, gIx, gLen, gAbs, gInt, gTupOf, gLstOf, cRet, cRetO, cSet, cSetIx, cAsg, cShare, shE, cIsi, cIsi2, tyIs, RB, RI, gEq_int, gNe_int, gEq_str, gNe_str, gLt_int, gGt_int, gLe_int, gGe_int, gAdd_int, gSub_int, at_0, at_1, at_2, at_3, at_4, at_5, at_6, cNx, cYes, cDrop, gIs, gIsNot, gIsB, isNon, Bool.false_xor, Bool.true_xor, gNeg, DL.gTupD, gConsD, gNilD, cCall, cCallM, flatR, List.map_cons, List.map_nil, List.length_cons, List.length_nil, List.length_map, List.length_set, List.cons_append, List.nil_append, List.replicate_succ, List.replicate_zero, List.getElem?_cons_zero, List.getElem?_cons_succ, List.set_cons_zero, List.set_cons_succ, Option.bind_eq_bind, Option.bind_some, Option.map_some, Option.bind_none, Nat.reduceAdd, Nat.reduceSub, Nat.reduceLeDiff, Nat.reduceLT, Nat.reduceEqDiff, Nat.zero_add, Bool.or_false, Bool.or_true, Bool.false_or, Bool.true_or, Bool.and_true, Bool.true_and, Bool.and_false, Bool.false_and, Bool.not_true, Bool.not_false, if_true, if_false, ↓reduceIte, Bool.false_eq_true, ix_4_0, ix_4_1, ix_4_2, ix_4_3, List.set_cons_zero, forall_const, cIte, decide_eq_false (show ¬ g < g by omega), l0]; rfl) ?_
      refine w_st (by simp only [runB, env0, outB, ow0, evOps, sld, storeSl, setSh, ownL, cP, cC, cNm, cBo, cTr, dTru, cAnd, cOr, cNot, cAndV, cOrV, cNotV, DL.gTup, gLst, gIx, gLen, gAbs, gInt, gTupOf, gLstOf, cRet, cRetO, cSet, cSetIx, cAsg, cShare, shE, cIsi, cIsi2, tyIs, RB, RI, gEq_int, gNe_int, gEq_str, gNe_str, gLt_int, gGt_int, gLe_int, gGe_int, gAdd_int, gSub_int, at_0, at_1, at_2, at_3, at_4, at_5, at_6, cNx, cYes, cDrop, gIs, gIsNot, gIsB, isNon, Bool.false_xor, Bool.true_xor, gNeg, DL.gTupD, gConsD, gNilD, cCall, cCallM, flatR, List.map_cons, List.map_nil, List.length_cons, List.length_nil, List.length_map, List.length_set, List.cons_append, List.nil_append, List.replicate_succ, List.replicate_zero, List.getElem?_cons_zero, List.getElem?_cons_succ, List.set_cons_zero, List.set_cons_succ, Option.bind_eq_bind, Option.bind_some, Option.map_some, Option.bind_none, Nat.reduceAdd, Nat.reduceSub, Nat.reduceLeDiff, Nat.reduceLT, Nat.reduceEqDiff, Nat.zero_add, Bool.or_false, Bool.or_true, Bool.false_or, Bool.true_or, Bool.and_true, Bool.true_and, Bool.and_false, Bool.false_and, Bool.not_true, Bool.not_false, if_true, if_false, ↓reduceIte, Bool.false_eq_true, ix_4_0, ix_4_1, ix_4_2, ix_4_3, List.set_cons_zero, forall_const, cIte, decide_true, aj, ak, v1]; rfl) ⟨.sh (.tup [nm, .int g, a]), .sh (.tup [nm', .int g, a']), ?_, .sh _, .sh _⟩
      rw [eL, eO]
    · have eL : LPf loseP dist (.tup [nm, .int g, a]) (.tup [nm', .int g', a']) = [.tup [nm, nm']] := by
        simp [LPf, nn, loseP, numD, nmD, show ¬ g < g' by omega, show ¬ g = g' by omega]
      have eO : LPf openP dist (.tup [nm, .int g, a]) (.tup [nm', .int g', a']) = [] := by
        simp [LPf, nn, openP, numD, nmD, show ¬ g = g' by omega]
      refine w_nx (by simp only [runB, env0, outB, ow0, evOps, sld, storeSl, ownL, cP, cC, cNm, cBo, cTr, dTru, cAnd, cOr, cNot, cAndV, cOrV, cNotV, DL.gTup, gLst, gIx, gLen, gAbs, gInt, gTupOf, gLstOf, cRet, cRetO, cSet, cSetIx, cAsg, cShare, shE, cIsi, cIsi2, tyIs, RB, RI, gEq_int, gNe_int, gEq_str, gNe_str, gLt_int, gGt_int, gLe_int, gGe_int, gAdd_int, gSub_int, at_0, at_1, at_2, at_3, at_4, at_5, at_6, cNx, cYes, cDrop, gIs, gIsNot, gIsB, isNon, Bool.false_xor, Bool.true_xor, gNeg, DL.gTupD, gConsD, gNilD, cCall, cCallM, flatR, List.map_cons, List.map_nil, List.length_cons, List.length_nil, List.length_map, List.length_set, List.cons_append, List.nil_append, List.replicate_succ, List.replicate_zero, List.getElem?_cons_zero, List.getElem?_cons_succ, List.set_cons_zero, List.set_cons_succ, Option.bind_eq_bind, Option.bind_some, Option.map_some, Option.bind_none, Nat.reduceAdd, Nat.reduceSub, Nat.reduceLeDiff, Nat.reduceLT, Nat.reduceEqDiff, Nat.zero_add, Bool.or_false, Bool.or_true, Bool.false_or, Bool.true_or, Bool.and_true, Bool.true_and, Bool.and_false, Bool.false_and, Bool.not_true, Bool.not_false, if_true, if_false, ↓reduceIte, Bool.false_eq_true, ix_4_0, ix_4_1, ix_4_2, ix_4_3, List.set_cons_zero, forall_const, cIte, aj, ak, decide_eq_false (show ¬ g ≤ g' by omega), s14, s15]; rfl) ?_
      refine w_nx (by simp only [runB, env0, outB, ow0, evOps, sld, storeSl, setSh, ownL, cP, cC, cNm, cBo, cTr, dTru, cAnd, cOr, cNot, cAndV, cOrV, cNotV, DL.gTup, gLst, gIx, gLen, gAbs, gInt, gTupOf, gLstOf, cRet, cRetO, cSet, cSetIx, cAsg, cShare, shE, cIsi, cIsi2, tyIs, RB, RI, gEq_int, gNe_int, gEq_str, gNe_str, gLt_int, gGt_int, gLe_int, gGe_int, gAdd_int, gSub_int, at_0, at_1, at_2, at_3, at_4, at_5, at_6, cNx, cYes, cDrop, gIs, gIsNot, gIsB, isNon, Bool.false_xor, Bool.true_xor, gNeg, DL.gTupD, gConsD, gNilD, cCall, cCallM, flatR, List.map_cons, List.map_nil, List.length_cons, List.length_nil, List.length_map, List.length_set, List.cons_append, List.nil_append, List.replicate_succ, List.replicate_zero, List.getElem?_cons_zero, List.getElem?_cons_succ, List.set_cons_zero, List.set_cons_succ, Option.bind_eq_bind, Option.bind_some, Option.map_some, Option.bind_none, Nat.reduceAdd, Nat.reduceSub, Nat.reduceLeDiff, Nat.reduceLT, Nat.reduceEqDiff, Nat.zero_add, Bool.or_false, Bool.or_true, Bool.false_or, Bool.true_or, Bool.and_true, Bool.true_and, Bool.and_false, Bool.false_and, Bool.not_true, Bool.not_false, if_true, if_false, ↓reduceIte, Bool.false_eq_true, ix_4_0, ix_4_1, ix_4_2, ix_4_3, List.set_cons_zero, forall_const, cIte, decide_eq_true hgt, l1]; rfl) ?_
      refine w_st (by simp only [runB, env0, outB, ow0, evOps, sld, storeSl, setSh, ownL, cP, cC, cNm, cBo, cTr, dTru, cAnd, cOr, cNot, cAndV, cOrV, cNotV, DL.gTup, gLst, gIx, gLen, gAbs, gInt, gTupOf, gLstOf, cRet, cRetO, cSet, cSetIx, cAsg, cShare, shE, cIsi, cIsi2, tyIs, RB, RI, gEq_int, gNe_int, gEq_str, gNe_str, gLt_int, gGt_int, gLe_int, gGe_int, gAdd_int, gSub_int, at_0, at_1, at_2, at_3, at_4, at_5, at_6, cNx, cYes, cDrop, gIs, gIsNot, gIsB, isNon, Bool.false_xor, Bool.true_xor, gNeg, DL.gTupD, gConsD, gNilD, cCall, cCallM, flatR, List.map_cons, List.map_nil, List.length_cons, List.length_nil, List.length_map, List.length_set, List.cons_append, List.nil_append, List.replicate_succ, List.replicate_zero, List.getElem?_cons_zero, List.getElem?_cons_succ, List.set_cons_zero, List.set_cons_succ, Option.bind_eq_bind, Option.bind_some, Option.map_some, Option.bind_none, Nat.reduceAdd, Nat.reduceSub, Nat.reduceLeDiff, Nat.reduceLT, Nat.reduceEqDiff, Nat.zero_add, Bool.or_false, Bool.or_true, Bool.false_or, Bool.true_or, Bool.and_true, Bool.true_and, Bool.and_false, Bool.false_and, Bool.not_true, Bool.not_false, if_true, if_false, ↓reduceIte, Bool.false_eq_true, ix_4_0, ix_4_1, ix_4_2, ix_4_3, List.set_cons_zero, forall_const, cIte, decide_eq_false (show ¬ g' = g by omega), v0]; rfl) ⟨.sh (.tup [nm', .int g', a']), .sh (.tup [nm, .int g, a]), ?_, .sh _, .sh _⟩
      rw [eL, eO]
  · have nn : near dist (.tup [nm, .int g, a]) (.tup [nm', .int g', a']) = false := hn
    refine w_nop ⟨x14, x15, ?_, f14, f15⟩
    simp [LPf, nn]
theorem innerL_succ (f : D → Option D) (dist : Int) (rs : List D) (k m : Nat) : innerL f dist rs k (m + 1) = innerL f dist rs k m ++ LPf f dist (rs.getD m .non) (rs.getD k .non) := by
  simp [innerL, List.range_succ]
theorem outerL_succ (f : D → Option D) (dist : Int) (rs : List D) (m : Nat) : outerL f dist rs (m + 1) = outerL f dist rs m ++ innerL f dist rs m m := by simp [outerL, List.range_succ]
theorem loops_ok {scr dr one oth : Sl} {rs : List D} {dist : Int} (hl : rs.length ≤ 4) (hG : ∀ d, d ∈ rs → G d) :
    W (cFor (cRg1 (.ex (cP gLen [(.nm 7)]))) (setSh 2) (cFor (cRg1 (.nm 2)) (setSh 13) Bin) (en scr dr .no rs dist one oth [] [] .no .no .no)) fun o => ∃ x2 x13 x14 x15, o = .nx (en scr dr x2 rs dist one oth (outerL loseP dist rs rs.length) (outerL openP dist rs rs.length) x13 x14 x15) ∧ Fv x2 := by
  have bd : ∀ (f : D → Option D) (k j : Nat), k < 4 → j ≤ k → (outerL f dist rs k ++ innerL f dist rs k j).length ≤ 1000 := fun f k j hk hj => by
    have h1 := outerL_len f dist rs k
    have h2 := innerL_len f dist rs k j
    have h3 : k * k ≤ 4 * 4 := Nat.mul_le_mul (by omega) (by omega)
    rw [List.length_append]
    omega
  refine w_for (ds := rng 0 rs.length) (e := en scr dr .no rs dist one oth [] [] .no .no .no) (fun pre _ e => ∃ x2 x13 x14 x15, e = en scr dr x2 rs dist one oth (outerL loseP dist rs pre.length) (outerL openP dist rs pre.length) x13 x14 x15 ∧ Fv x2 ∧ Fv x13 ∧ Fv x14 ∧ Fv x15)
    (by simp only [runB, env0, outB, ow0, evOps, sld, storeSl, setSh, ownL, cP, cC, cNm, cBo, cTr, dTru, cAnd, cOr, cNot, cAndV, cOrV, cNotV, DL.gTup, gLst, gIx, gLen, gAbs, gInt, gTupOf, gLstOf, cRet, cRetO, cSet, cSetIx, cAsg, cShare, shE, cIsi, cIsi2, tyIs, RB, RI, gEq_int, gNe_int, gEq_str, gNe_str, gLt_int, gGt_int, gLe_int, gGe_int, gAdd_int, gSub_int, at_0, at_1, at_2, at_3, at_4, at_5, at_6, cNx, cYes, cDrop, gIs, gIsNot, gIsB, isNon, Bool.false_xor, Bool.true_xor, gNeg, DL.gTupD, gConsD, gNilD, cCall, cCallM, flatR, List.map_cons, List.map_nil, List.length_cons, List.length_nil, List.length_map, List.length_set, List.cons_append, List.nil_append, List.replicate_succ, List.replicate_zero, List.getElem?_cons_zero, List.getElem?_cons_succ, List.set_cons_zero, List.set_cons_succ, Option.bind_eq_bind, Option.bind_some, Option.map_some, Option.bind_none, Nat.reduceAdd, Nat.reduceSub, Nat.reduceLeDiff, Nat.reduceLT, Nat.reduceEqDiff, Nat.zero_add, Bool.or_false, Bool.or_true, Bool.false_or, Bool.true_or, Bool.and_true, Bool.true_and, Bool.and_false, Bool.false_and, Bool.not_true, Bool.not_false, if_true, if_false, ↓reduceIte, Bool.false_eq_true, ix_4_0, ix_4_1, ix_4_2, ix_4_3, List.set_cons_zero, forall_const, cIte, cRg1, okR_nat (Nat.le_trans hl (by decide)), Int.toNat_natCast]) ⟨.no, .no, .no, .no, rfl, .no, .no, .no, .no⟩ (fun pre d post e hp ⟨x2, x13, x14, x15, he, f2, f13, f14, f15⟩ => ?_) (fun e ⟨x2, x13, x14, x15, he, f2, f13, f14, f15⟩ => ?_)
  · subst he
    obtain ⟨hk, rfl⟩ := rng_at hp
    rw [Int.zero_add]
    obtain ⟨y, hy⟩ : ∃ y, rs[pre.length]? = some y := ⟨_, List.getElem?_eq_getElem hk⟩
    obtain ⟨nm', g', a', rfl, _, _, _, ha'⟩ := hG y (List.mem_of_getElem? hy)
    refine ⟨en scr dr (.sh (.int pre.length)) rs dist one oth (outerL loseP dist rs pre.length) (outerL openP dist rs pre.length) x13 x14 x15, (setSh_fv rfl f2).trans rfl, ?_⟩
    refine w_for (ds := rng 0 pre.length) (e := en scr dr (.sh (.int pre.length)) rs dist one oth (outerL loseP dist rs pre.length) (outerL openP dist rs pre.length) x13 x14 x15) (fun p2 _ e => ∃ x13 x14 x15, e = en scr dr (.sh (.int pre.length)) rs dist one oth (outerL loseP dist rs pre.length ++ innerL loseP dist rs pre.length p2.length) (outerL openP dist rs pre.length ++ innerL openP dist rs pre.length p2.length) x13 x14 x15 ∧ Fv x13 ∧ Fv x14 ∧ Fv x15)
      (by simp only [runB, env0, outB, ow0, evOps, sld, storeSl, setSh, ownL, cP, cC, cNm, cBo, cTr, dTru, cAnd, cOr, cNot, cAndV, cOrV, cNotV, DL.gTup, gLst, gIx, gLen, gAbs, gInt, gTupOf, gLstOf, cRet, cRetO, cSet, cSetIx, cAsg, cShare, shE, cIsi, cIsi2, tyIs, RB, RI, gEq_int, gNe_int, gEq_str, gNe_str, gLt_int, gGt_int, gLe_int, gGe_int, gAdd_int, gSub_int, at_0, at_1, at_2, at_3, at_4, at_5, at_6, cNx, cYes, cDrop, gIs, gIsNot, gIsB, isNon, Bool.false_xor, Bool.true_xor, gNeg, DL.gTupD, gConsD, gNilD, cCall, cCallM, flatR, List.map_cons, List.map_nil, List.length_cons, List.length_nil, List.length_map, List.length_set, List.cons_append, List.nil_append, List.replicate_succ, List.replicate_zero, List.getElem?_cons_zero, List.getElem?_cons_succ, List.set_cons_zero, List.set_cons_succ, Option.bind_eq_bind, Option.bind_some, Option.map_some, Option.bind_none, Nat.reduceAdd, Nat.reduceSub, Nat.reduceLeDiff, Nat.reduceLT, Nat.reduceEqDiff, Nat.zero_add, Bool.or_false, Bool.or_true, Bool.false_or, Bool.true_or, Bool.and_true, Bool.true_and, Bool.and_false, Bool.false_and, Bool.not_true, Bool.not_false, if_true, if_false, ↓reduceIte, Bool.false_eq_true, ix_4_0, ix_4_1, ix_4_2, ix_4_3, List.set_cons_zero, forall_const, cIte, cRg1, okR_nat (show pre.length ≤ 1000000 by omega), Int.toNat_natCast]) ⟨x13, x14, x15, by simp [innerL], f13, f14, f15⟩ (fun p2 d2 post2 e2 hp2 ⟨z13, z14, z15, he2, g13, g14, g15⟩ => ?_) (fun e2 ⟨z13, z14, z15, he2, g13, g14, g15⟩ => ?_)
    · subst he2
      obtain ⟨hj, rfl⟩ := rng_at hp2
      rw [Int.zero_add]
      have hj2 : p2.length < rs.length := by omega
      obtain ⟨x, hx⟩ : ∃ x, rs[p2.length]? = some x := ⟨_, List.getElem?_eq_getElem hj2⟩
      obtain ⟨nm, g, a, rfl, _, _, _, ha⟩ := hG x (List.mem_of_getElem? hx)
      refine ⟨en scr dr (.sh (.int pre.length)) rs dist one oth _ _ (.sh (.int p2.length)) z14 z15, (setSh_fv rfl g13).trans rfl, ?_⟩
      refine (bin_ok hx hy ha ha' (bd loseP _ _ (by omega) (by omega)) (bd openP _ _ (by omega) (by omega)) g14 g15).imp fun o ⟨y14, y15, eo, h14, h15⟩ => ?_
      subst eo
      refine ⟨.sh (.int p2.length), y14, y15, ?_, .sh _, h14, h15⟩
      rw [List.length_append, List.length_singleton, innerL_succ, innerL_succ, List.getD_eq_getElem?_getD, List.getD_eq_getElem?_getD, hx, hy, List.append_assoc, List.append_assoc]
      rfl
    · subst he2
      refine ⟨.sh (.int pre.length), z13, z14, z15, ?_, .sh _, g13, g14, g15⟩
      rw [rng_len, List.length_append, List.length_singleton, outerL_succ, outerL_succ]
  · subst he
    refine ⟨x2, x13, x14, x15, ?_, f2⟩
    rw [rng_len]
/-! ### what is wrong -/
def PL : D := .tup [.str "gold", .str "none", .non, .non, .non]
def W14 : List D := [.non, .tup [.str "gold", .str "none", .non, .non], .lst [.str "gold", .str "none", .non, .non, .non], .tup [.str "pink", .str "none", .non, .non, .non], .tup [.int 7, .str "none", .non, .non, .non],
  .tup [.str "gold", .str "star", .non, .non, .non], .tup [.str "gold", .str "pale", .non, .non, .non], .tup [.str "gold", .str "none", .str "red", .non, .non], .tup [.str "gold", .str "pale", .str "pink", .non, .non], .tup [.str "gold", .str "none", .non, .non, .str "red"],
  .tup [.str "gold", .str "none", .non, .str "lion", .non], .tup [.str "gold", .str "none", .non, .str "Lion", .str "red"], .tup [.str "gold", .str "none", .non, .str "lion", .str "pink"], .tup [.str "gold", .int 7, .non, .non, .non]]
def RW1 : D := .tup [.str "aldo", .int 3, PL]
def O11 : List D := [.non, .lst [RW1], .tup [.tup [.str "aldo", .int 3]], .tup [.tup [.str "Aldo", .int 3, PL]], .tup [.tup [.str "aldo", .int (-1), PL]], .tup [.tup [.str "aldo", .int 1000, PL]], .tup [.tup [.str "aldo", .int 3, .tup [.str "gold", .str "none", .non, .non]]],
  .tup [RW1, RW1], .tup [.tup [.str "bert", .int 3, PL], RW1], .tup [RW1, .tup [.str "aldo", .int 4, PL]], .tup ((["oa", "ob", "oc", "od", "oe", "of", "og", "oh", "oi", "oj", "ok"] : List Str).map fun x => .tup [.str x, .int 3, PL])]
theorem w14_no : (W14.all fun x => saysB (F_are_arms [x]) == some false) = true := by decide +kernel
theorem o11_no : (O11.all fun x => saysB (F_is_roll [x]) == some false) = true := by decide +kernel
theorem gNeg_1 (fl : Bool) : gNeg fl [.int 1] = some (RI (-1)) := rfl
theorem gAdd_t1 (fl : Bool) (x a b : D) : gAdd fl [.tup [x], .tup [a, b]] = some ⟨.tup [x, a, b], false⟩ := rfl
theorem gAdd_t2 (fl : Bool) (x a b : D) : gAdd fl [.tup [x], .tup [a, b]] = some ⟨.tup [x, a, b], false⟩ := rfl
theorem slPL (fl : Bool) : gSl01 fl [PL, .int 4] = some ⟨.tup [.str "gold", .str "none", .non, .non], false⟩ := rfl
theorem slRW2 (fl : Bool) : gSl01 fl [RW1, .int 2] = some ⟨.tup [.str "aldo", .int 3], false⟩ := rfl
theorem slRW1 (fl : Bool) : gSl10 fl [RW1, .int 1] = some ⟨.tup [.int 3, PL], false⟩ := rfl
theorem cut2 (a b c : D) : cut [a, b, c] none (some 2) = [a, b] := rfl
theorem cut1 (a b c : D) : cut [a, b, c] (some 1) none = [b, c] := rfl
theorem cut4 (a b c d e : D) : cut [a, b, c, d, e] none (some 4) = [a, b, c, d] := rfl
theorem gNe_blf (fl : Bool) : gNe fl [.bl false, .bl false] = some (RB false) := rfl
theorem gNe_blt (fl : Bool) : gNe fl [.bl true, .bl true] = some (RB false) := rfl
theorem sd_up : ∀ (n m : Nat) (d : D), n ≤ m → sd n d = true → sd m d = true := by
  intro n
  induction n with
  | zero => intro m d _ h; cases d <;> cases m <;> simp [sd] at h ⊢ <;> exact h
  | succ n ih =>
    intro m d hm h
    cases m with
    | zero => omega
    | succ m =>
      have go : ∀ ds : List D, ds.all (sd n) = true → ds.all (sd m) = true := fun ds h => List.all_eq_true.mpr fun x hx => ih m x (by omega) (List.all_eq_true.mp h x hx)
      cases d with
      | tup ds => simp only [sd, Bool.and_eq_true] at h ⊢; exact ⟨h.1, go ds h.2⟩
      | lst ds => simp only [sd, Bool.and_eq_true] at h ⊢; exact ⟨h.1, go ds h.2⟩
      | non => rfl
      | bl b => rfl
      | int i => rfl
      | str x => simpa [sd] using h
      | dct a b => simp [sd] at h
      | scr a => simp [sd] at h
theorem same_ok {d : D} (h : sd 20 d = true) : F__law_same [d, d] = some (⟨.bl true, false⟩, .non) := same_refl 29 d (sd_up 20 29 d (by decide) h)
theorem pn_sd {xs : List D} (hl : xs.length ≤ 1000000) (h : ∀ z, z ∈ xs → ∃ i j : Str, z = .tup [.str i, .str j] ∧ i.length ≤ 1000000 ∧ j.length ≤ 1000000) : sd 20 (.lst xs) = true := by
  simp only [sd, Bool.and_eq_true, decide_eq_true_eq]
  refine ⟨hl, List.all_eq_true.mpr fun z hz => ?_⟩
  obtain ⟨i, j, rfl, h1, h2⟩ := h z hz
  simp [sd, h1, h2]
/-- a pair of two of the names -/
def PN2 (z : D) : Prop := ∃ i j : Str, z = .tup [.str i, .str j] ∧ i.length ≤ 1000000 ∧ j.length ≤ 1000000
theorem G.nm2 {x : D} (h : G x) : ∃ i : Str, nmD x = .str i ∧ i.length ≤ 1000000 := by
  obtain ⟨nm, g, a, rfl, hn, _⟩ := h
  simp only [NM, List.mem_cons, List.not_mem_nil, or_false] at hn
  rcases hn with rfl | rfl | rfl | rfl <;> exact ⟨_, rfl, by decide⟩
theorem loseP_pn2 {dist : Int} {rs : List D} (hG : ∀ d, d ∈ rs → G d) {z : D} (h : z ∈ (clashL dist rs).filterMap loseP) : PN2 z := by
  obtain ⟨c, hc, e⟩ := List.mem_filterMap.mp h
  obtain ⟨x, y, rfl, hx, hy⟩ := clashL_mem hc
  obtain ⟨i, hi, li⟩ := (hG x hx).nm2
  obtain ⟨j, hj, lj⟩ := (hG y hy).nm2
  simp only [loseP, hi, hj] at e
  split at e
  · cases e
  · cases e
    split
    · exact ⟨_, _, rfl, lj, li⟩
    · exact ⟨_, _, rfl, li, lj⟩
theorem openP_pn2 {dist : Int} {rs : List D} (hG : ∀ d, d ∈ rs → G d) {z : D} (h : z ∈ (clashL dist rs).filterMap openP) : PN2 z := by
  obtain ⟨c, hc, e⟩ := List.mem_filterMap.mp h
  obtain ⟨x, y, rfl, hx, hy⟩ := clashL_mem hc
  obtain ⟨i, hi, li⟩ := (hG x hx).nm2
  obtain ⟨j, hj, lj⟩ := (hG y hy).nm2
  simp only [openP, hi, hj] at e
  split at e
  · cases e
    exact ⟨_, _, rfl, li, lj⟩
  · cases e
def ODL : List D := (["oa", "ob", "oc", "od", "oe", "of", "og", "oh", "oi", "oj", "ok"] : List Str).map fun x => .tup [.str x, .int 3, PL]
theorem oix : ∀ k : Nat, k < 11 → ∃ c : Str, gIx false [.str "abcdefghijk", .int k] = some ⟨.str c, false⟩ ∧ gAdd false [.str "o", .str c] = some ⟨.str ("o" ++ c), false⟩ ∧ ODL[k]? = some (.tup [.str ("o" ++ c), .int 3, PL])
  | 0, _ => ⟨"a", rfl, rfl, rfl⟩
  | 1, _ => ⟨"b", rfl, rfl, rfl⟩
  | 2, _ => ⟨"c", rfl, rfl, rfl⟩
  | 3, _ => ⟨"d", rfl, rfl, rfl⟩
  | 4, _ => ⟨"e", rfl, rfl, rfl⟩
  | 5, _ => ⟨"f", rfl, rfl, rfl⟩
  | 6, _ => ⟨"g", rfl, rfl, rfl⟩
  | 7, _ => ⟨"h", rfl, rfl, rfl⟩
  | 8, _ => ⟨"i", rfl, rfl, rfl⟩
  | 9, _ => ⟨"j", rfl, rfl, rfl⟩
  | 10, _ => ⟨"k", rfl, rfl, rfl⟩
  | k + 11, h => absurd h (by omega)
theorem odd_lc {a0 a1 x2 a4 a5 a6 a7 a8 a9 a10 a11 a12 a13 a14 a15 : Sl} (hx : Fv x2) :
    cLC [2] (cRg1 (.ex (cC (.int 11)))) (setSh 2) cYes (cP DL.gTup [(.ex (cP gAdd [(.ex (cC (.str "o"))), (.ex (cP gIx [(.ex (cC (.str "abcdefghijk"))), (.nm 2)]))])), (.ex (cC (.int 3))), (.nm 3)]) [a0, a1, x2, .sh PL, a4, a5, a6, a7, a8, a9, a10, a11, a12, a13, a14, a15]
      = some (⟨.lst ODL, true⟩, [a0, a1, x2, .sh PL, a4, a5, a6, a7, a8, a9, a10, a11, a12, a13, a14, a15]) := by
  have h1 := lc_map (vs := [2]) (it := cRg1 (.ex (cC (.int 11)))) (gt := setSh 2) (t := cYes) (fe := cP DL.gTup [(.ex (cP gAdd [(.ex (cC (.str "o"))), (.ex (cP gIx [(.ex (cC (.str "abcdefghijk"))), (.nm 2)]))])), (.ex (cC (.int 3))), (.nm 3)])
    (ds0 := rng 0 11) (env := [a0, a1, x2, .sh PL, a4, a5, a6, a7, a8, a9, a10, a11, a12, a13, a14, a15]) (e1 := [a0, a1, x2, .sh PL, a4, a5, a6, a7, a8, a9, a10, a11, a12, a13, a14, a15]) (e2 := [a0, a1, .no, .sh PL, a4, a5, a6, a7, a8, a9, a10, a11, a12, a13, a14, a15]) (fun z => match z with
      | .int k => ODL[k.toNat]?
      | _ => none) rfl (by rcases hx with rfl | ⟨d, rfl⟩ <;> rfl) (by rw [rng_len]; decide) (fun d hd => by
      obtain ⟨k, hk, rfl⟩ := rng_mem hd
      obtain ⟨c, c1, c2, c3⟩ := oix k hk
      refine ⟨_, true, _, rfl, rfl, ⟨.tup [.str ("o" ++ c), .int 3, PL], false⟩, [a0, a1, .sh (.int k), .sh PL, a4, a5, a6, a7, a8, a9, a10, a11, a12, a13, a14, a15], ?_, rfl, ?_⟩
      · simp only [runB, env0, outB, ow0, evOps, sld, storeSl, setSh, ownL, cP, cC, cNm, cBo, cTr, dTru, cAnd, cOr, cNot, cAndV, cOrV, cNotV, DL.gTup, gLst, gAbs, gInt, gTupOf, gLstOf, cRet, cRetO, cSet, cSetIx, cAsg, cShare, shE, cIsi, cIsi2, tyIs, RB, RI, gNe_int, gNe_str, gLt_int, gGt_int, gLe_int, gGe_int, gAdd_int, gSub_int, at_0, at_1, at_2, at_3, at_4, at_5, at_6, cNx, cYes, cDrop, gIs, gIsNot, gIsB, isNon, Bool.false_xor, Bool.true_xor, gNeg, DL.gTupD, gConsD, gNilD, cCall, cCallM, flatR, List.map_cons, List.map_nil, List.length_cons, List.length_nil, List.length_map, List.length_set, List.cons_append, List.nil_append, List.replicate_succ, List.replicate_zero, List.getElem?_cons_zero, List.getElem?_cons_succ, List.set_cons_zero, List.set_cons_succ, Option.bind_eq_bind, Option.bind_some, Option.map_some, Option.bind_none, Nat.reduceAdd, Nat.reduceSub, Nat.reduceLeDiff, Nat.reduceLT, Nat.reduceEqDiff, Nat.zero_add, Bool.or_false, Bool.or_true, Bool.false_or, Bool.true_or, Bool.and_true, Bool.true_and, Bool.and_false, Bool.false_and, Bool.not_true, Bool.not_false, if_true, if_false, ↓reduceIte, Bool.false_eq_true, ix_4_0, ix_4_1, ix_4_2, ix_4_3, List.set_cons_zero, forall_const, cIte, c1, c2]
      · show ODL[((k : Nat) : Int).toNat]? = _
        rw [Int.toNat_natCast]
        exact c3)
  rw [h1]
  congr 2
  rcases hx with rfl | ⟨d, rfl⟩ <;> rfl
theorem law_good (ns : List Int) (hl : ns.length ≤ 63) : ∃ fr d, F_law [.scr ns] = some (⟨.bl true, fr⟩, d) := by
  have dr : F__law_draw [.scr ns] = some (⟨.lst [.lst (ns.map .int), .int 0, .int 0, .int 17], true⟩, .non) := rfl
  obtain ⟨es, L1, e1, hes, hE, h1⟩ := law_roll (dr_0 ns)
  obtain ⟨r2, L2, e2, a2, b2, h2⟩ := nx h1 (m := 5) (by decide) (by decide)
  obtain ⟨one, L3, e3, ho, h3⟩ := law_arms h2
  obtain ⟨oth, L4, e4, ht, h4⟩ := law_arms h3
  obtain ⟨r5, L5, e5, a5, b5, h5⟩ := nx h4 (m := 14) (by decide) (by decide)
  obtain ⟨r6, L6, e6, a6, b6, h6⟩ := nx h5 (m := 11) (by decide) (by decide)
  obtain ⟨w, mw, pw⟩ := pickL W14 a5 b5
  obtain ⟨o, mo, po⟩ := pickL O11 a6 b6
  have nw := saysB_ok (beq_iff_eq.mp (List.all_eq_true.mp w14_no w mw))
  have no := saysB_ok (beq_iff_eq.mp (List.all_eq_true.mp o11_no o mo))
  have hG := G.of hE
  have hrl := rollD_len es
  have q1 := roll_ok hes hE
  have q2 := (armsOf ho).1
  obtain ⟨b, q3, q4⟩ := (armsOf ho).2.1
  have q5 := (apartOf ho ht).1
  have q6 := (apartOf ho ht).2
  have q7 : F__law_same [.int (cnt one oth), .int (cnt one oth)] = some (⟨.bl true, false⟩, .non) := same_ok rfl
  have p1 := outer_perm loseP (1 + r2) (rollD es) hrl
  have p2 := outer_perm openP (1 + r2) (rollD es) hrl
  have m1 : ∀ z, z ∈ outerL loseP (1 + r2) (rollD es) (rollD es).length → PN z := fun z hz => loseP_pn hG (p1.mem_iff.mp hz)
  have m2 : ∀ z, z ∈ outerL openP (1 + r2) (rollD es) (rollD es).length → PN z := fun z hz => openP_pn hG (p2.mem_iff.mp hz)
  have l16 : ((rollD es).length * (rollD es).length) ≤ 16 := Nat.mul_le_mul hrl hrl
  have so1 := pn_sorted m1 (by have := outerL_len loseP (1 + r2) (rollD es) (rollD es).length; omega)
  have so2 := pn_sorted m2 (by have := outerL_len openP (1 + r2) (rollD es) (rollD es).length; omega)
  rw [sort_unique p1 fun a b ha hb e => pn_inj (m1 a ha) (m1 b hb) e] at so1
  rw [sort_sorted p2 (pairs_sorted.sublist (open_sub _ es hes)) fun a b ha hb e => pn_inj (m2 a ha) (m2 b hb) e] at so2
  have c16 := cl16 (dist := 1 + r2) hrl
  have q8 : F__law_same [.lst (((clashL (1 + r2) (rollD es)).filterMap loseP).mergeSort leD), .lst (((clashL (1 + r2) (rollD es)).filterMap loseP).mergeSort leD)] = some (⟨.bl true, false⟩, .non) :=
    same_ok (pn_sd (by rw [List.length_mergeSort]; exact Nat.le_trans (List.length_filterMap_le _ _) (by omega)) fun z hz => loseP_pn2 hG ((List.mergeSort_perm _ _).mem_iff.mp hz))
  have q9 : F__law_same [.lst ((clashL (1 + r2) (rollD es)).filterMap openP), .lst ((clashL (1 + r2) (rollD es)).filterMap openP)] = some (⟨.bl true, false⟩, .non) :=
    same_ok (pn_sd (Nat.le_trans (List.length_filterMap_le _ _) (by omega)) fun z hz => openP_pn2 hG hz)
  have st : W (F_law [.scr ns]) fun q => ∃ fr d, q = (⟨.bl true, fr⟩, d) := by
    unfold F_law B_law
    refine w_run rfl ?_
    refine w_nx (by simp only [runB, env0, outB, ow0, evOps, sld, storeSl, setSh, ownL, cP, cC, cNm, cBo, cTr, dTru, cAnd, cOr, cNot, cAndV, cOrV, cNotV, DL.gTup, gLst, gIx, gLen, gAbs, gInt, gTupOf, gLstOf, cRet, cRetO, cSet, cSetIx, cAsg, cShare, shE, cIsi, cIsi2, tyIs, RB, RI, gEq_int, gNe_int, gEq_str, gNe_str, gLt_int, gGt_int, gLe_int, gGe_int, gAdd_int, gSub_int, at_0, at_1, at_2, at_3, at_4, at_5, at_6, cNx, cYes, cDrop, gIs, gIsNot, gIsB, isNon, Bool.false_xor, Bool.true_xor, gNeg, DL.gTupD, gConsD, gNilD, cCall, cCallM, flatR, List.map_cons, List.map_nil, List.length_cons, List.length_nil, List.length_map, List.length_set, List.cons_append, List.nil_append, List.replicate_succ, List.replicate_zero, List.getElem?_cons_zero, List.getElem?_cons_succ, List.set_cons_zero, List.set_cons_succ, Option.bind_eq_bind, Option.bind_some, Option.map_some, Option.bind_none, Nat.reduceAdd, Nat.reduceSub, Nat.reduceLeDiff, Nat.reduceLT, Nat.reduceEqDiff, Nat.zero_add, Bool.or_false, Bool.or_true, Bool.false_or, Bool.true_or, Bool.and_true, Bool.true_and, Bool.and_false, Bool.false_and, Bool.not_true, Bool.not_false, if_true, if_false, ↓reduceIte, Bool.false_eq_true, ix_4_0, ix_4_1, ix_4_2, ix_4_3, List.set_cons_zero, forall_const, cIte, dr]; rfl) ?_
    refine w_nx (by simp only [runB, env0, outB, ow0, evOps, sld, storeSl, setSh, ownL, cP, cC, cNm, cBo, cTr, dTru, cAnd, cOr, cNot, cAndV, cOrV, cNotV, DL.gTup, gLst, gIx, gLen, gAbs, gInt, gTupOf, gLstOf, cRet, cRetO, cSet, cSetIx, cAsg, cShare, shE, cIsi, cIsi2, tyIs, RB, RI, gEq_int, gNe_int, gEq_str, gNe_str, gLt_int, gGt_int, gLe_int, gGe_int, gAdd_int, gSub_int, at_0, at_1, at_2, at_3, at_4, at_5, at_6, cNx, cYes, cDrop, gIs, gIsNot, gIsB, isNon, Bool.false_xor, Bool.true_xor, gNeg, DL.gTupD, gConsD, gNilD, cCall, cCallM, flatR, List.map_cons, List.map_nil, List.length_cons, List.length_nil, List.length_map, List.length_set, List.cons_append, List.nil_append, List.replicate_succ, List.replicate_zero, List.getElem?_cons_zero, List.getElem?_cons_succ, List.set_cons_zero, List.set_cons_succ, Option.bind_eq_bind, Option.bind_some, Option.map_some, Option.bind_none, Nat.reduceAdd, Nat.reduceSub, Nat.reduceLeDiff, Nat.reduceLT, Nat.reduceEqDiff, Nat.zero_add, Bool.or_false, Bool.or_true, Bool.false_or, Bool.true_or, Bool.and_true, Bool.true_and, Bool.and_false, Bool.false_and, Bool.not_true, Bool.not_false, if_true, if_false, ↓reduceIte, Bool.false_eq_true, ix_4_0, ix_4_1, ix_4_2, ix_4_3, List.set_cons_zero, forall_const, cIte, e1, e2, e3, e4]; rfl) ?_
    refine w_seq ?_
    refine w_if (by
      cases b
      · simp only [runB, env0, outB, ow0, evOps, sld, storeSl, setSh, ownL, cP, cC, cNm, cBo, cTr, dTru, cAnd, cOr, cNot, cAndV, cOrV, cNotV, DL.gTup, gLst, gIx, gLen, gAbs, gInt, gTupOf, gLstOf, cRet, cRetO, cSet, cSetIx, cAsg, cShare, shE, cIsi, cIsi2, tyIs, RB, RI, gEq_int, gNe_int, gEq_str, gNe_str, gLt_int, gGt_int, gLe_int, gGe_int, gAdd_int, gSub_int, at_0, at_1, at_2, at_3, at_4, at_5, at_6, cNx, cYes, cDrop, gIs, gIsNot, gIsB, isNon, Bool.false_xor, Bool.true_xor, gNeg, DL.gTupD, gConsD, gNilD, cCall, cCallM, flatR, List.map_cons, List.map_nil, List.length_cons, List.length_nil, List.length_map, List.length_set, List.cons_append, List.nil_append, List.replicate_succ, List.replicate_zero, List.getElem?_cons_zero, List.getElem?_cons_succ, List.set_cons_zero, List.set_cons_succ, Option.bind_eq_bind, Option.bind_some, Option.map_some, Option.bind_none, Nat.reduceAdd, Nat.reduceSub, Nat.reduceLeDiff, Nat.reduceLT, Nat.reduceEqDiff, Nat.zero_add, Bool.or_false, Bool.or_true, Bool.false_or, Bool.true_or, Bool.and_true, Bool.true_and, Bool.and_false, Bool.false_and, Bool.not_true, Bool.not_false, if_true, if_false, ↓reduceIte, Bool.false_eq_true, ix_4_0, ix_4_1, ix_4_2, ix_4_3, List.set_cons_zero, forall_const, cIte, q1, q2, q3, q4, q5, q6, q7, decide_true, gNe_blf, Bool.false_eq_true, decide_false] <;> rfl
      · simp only [runB, env0, outB, ow0, evOps, sld, storeSl, setSh, ownL, cP, cC, cNm, cBo, cTr, dTru, cAnd, cOr, cNot, cAndV, cOrV, cNotV, DL.gTup, gLst, gIx, gLen, gAbs, gInt, gTupOf, gLstOf, cRet, cRetO, cSet, cSetIx, cAsg, cShare, shE, cIsi, cIsi2, tyIs, RB, RI, gEq_int, gNe_int, gEq_str, gNe_str, gLt_int, gGt_int, gLe_int, gGe_int, gAdd_int, gSub_int, at_0, at_1, at_2, at_3, at_4, at_5, at_6, cNx, cYes, cDrop, gIs, gIsNot, gIsB, isNon, Bool.false_xor, Bool.true_xor, gNeg, DL.gTupD, gConsD, gNilD, cCall, cCallM, flatR, List.map_cons, List.map_nil, List.length_cons, List.length_nil, List.length_map, List.length_set, List.cons_append, List.nil_append, List.replicate_succ, List.replicate_zero, List.getElem?_cons_zero, List.getElem?_cons_succ, List.set_cons_zero, List.set_cons_succ, Option.bind_eq_bind, Option.bind_some, Option.map_some, Option.bind_none, Nat.reduceAdd, Nat.reduceSub, Nat.reduceLeDiff, Nat.reduceLT, Nat.reduceEqDiff, Nat.zero_add, Bool.or_false, Bool.or_true, Bool.false_or, Bool.true_or, Bool.and_true, Bool.true_and, Bool.and_false, Bool.false_and, Bool.not_true, Bool.not_false, if_true, if_false, ↓reduceIte, Bool.false_eq_true, ix_4_0, ix_4_1, ix_4_2, ix_4_3, List.set_cons_zero, forall_const, cIte, q1, q2, q3, q4, q5, q6, q7, decide_true, gNe_blt] <;> rfl) ?_
    refine w_nop ?_
    refine w_nx (by simp only [runB, env0, outB, ow0, evOps, sld, storeSl, setSh, ownL, cP, cC, cNm, cBo, cTr, dTru, cAnd, cOr, cNot, cAndV, cOrV, cNotV, DL.gTup, gLst, gIx, gLen, gAbs, gInt, gTupOf, gLstOf, cRet, cRetO, cSet, cSetIx, cAsg, cShare, shE, cIsi, cIsi2, tyIs, RB, RI, gEq_int, gNe_int, gEq_str, gNe_str, gLt_int, gGt_int, gLe_int, gGe_int, gAdd_int, gSub_int, at_0, at_1, at_2, at_3, at_4, at_5, at_6, cNx, cYes, cDrop, gIs, gIsNot, gIsB, isNon, Bool.false_xor, Bool.true_xor, gNeg, DL.gTupD, gConsD, gNilD, cCall, cCallM, flatR, List.map_cons, List.map_nil, List.length_cons, List.length_nil, List.length_map, List.length_set, List.cons_append, List.nil_append, List.replicate_succ, List.replicate_zero, List.getElem?_cons_zero, List.getElem?_cons_succ, List.set_cons_zero, List.set_cons_succ, Option.bind_eq_bind, Option.bind_some, Option.map_some, Option.bind_none, Nat.reduceAdd, Nat.reduceSub, Nat.reduceLeDiff, Nat.reduceLT, Nat.reduceEqDiff, Nat.zero_add, Bool.or_false, Bool.or_true, Bool.false_or, Bool.true_or, Bool.and_true, Bool.true_and, Bool.and_false, Bool.false_and, Bool.not_true, Bool.not_false, if_true, if_false, ↓reduceIte, Bool.false_eq_true, ix_4_0, ix_4_1, ix_4_2, ix_4_3, List.set_cons_zero, forall_const, cIte, cPar]; rfl) ?_
    refine w_seq ((loops_ok (scr := .sh (.scr ns)) (dr := .ow (.lst L4)) (one := .sh one) (oth := .sh oth) (dist := 1 + r2) hrl hG).imp fun o ⟨x2, x13, x14, x15, eo, f2⟩ => ?_)
    subst eo
    refine w_seq ?_
    refine w_if (by simp only [runB, env0, outB, ow0, evOps, sld, storeSl, setSh, ownL, cP, cC, cNm, cBo, cTr, dTru, cAnd, cOr, cNot, cAndV, cOrV, cNotV, DL.gTup, gLst, gAbs, gInt, gTupOf, gLstOf, cRet, cRetO, cSet, cSetIx, cAsg, cShare, shE, cIsi, cIsi2, tyIs, RB, RI, gNe_int, gNe_str, gLt_int, gGt_int, gLe_int, gGe_int, gAdd_int, gSub_int, at_0, at_1, at_2, at_3, at_4, at_5, at_6, cNx, cYes, cDrop, gIs, gIsNot, gIsB, isNon, Bool.false_xor, Bool.true_xor, gNeg, DL.gTupD, gConsD, gNilD, cCall, cCallM, flatR, List.map_cons, List.map_nil, List.length_cons, List.length_nil, List.length_map, List.length_set, List.cons_append, List.nil_append, List.replicate_succ, List.replicate_zero, List.getElem?_cons_zero, List.getElem?_cons_succ, List.set_cons_zero, List.set_cons_succ, Option.bind_eq_bind, Option.bind_some, Option.map_some, Option.bind_none, Nat.reduceAdd, Nat.reduceSub, Nat.reduceLeDiff, Nat.reduceLT, Nat.reduceEqDiff, Nat.zero_add, Bool.or_false, Bool.or_true, Bool.false_or, Bool.true_or, Bool.and_true, Bool.true_and, Bool.and_false, Bool.false_and, Bool.not_true, Bool.not_false, if_true, if_false, ↓reduceIte, Bool.false_eq_true, ix_4_0, ix_4_1, ix_4_2, ix_4_3, List.set_cons_zero, forall_const, cIte, losers_ok hrl hG, open_ok hrl hG, so1, so2, q8, q9]; rfl) ?_
    refine w_nop ?_
    refine w_nx (e := [.sh (.scr ns), .ow (.lst L4), x2, .sh PL, .no, .no, .no, .sh (.tup (rollD es)), .sh (.int (1 + r2)), .sh one, .sh oth, .sh (.lst (outerL loseP (1 + r2) (rollD es) (rollD es).length)), .sh (.lst (outerL openP (1 + r2) (rollD es) (rollD es).length)), x13, x14, x15]) rfl ?_
    refine w_nx (e := [.sh (.scr ns), .ow (.lst L4), x2, .sh PL, .sh (.lst W14), .no, .no, .sh (.tup (rollD es)), .sh (.int (1 + r2)), .sh one, .sh oth, .sh (.lst (outerL loseP (1 + r2) (rollD es) (rollD es).length)), .sh (.lst (outerL openP (1 + r2) (rollD es) (rollD es).length)), x13, x14, x15]) rfl ?_
    refine w_nx (e := [.sh (.scr ns), .ow (.lst L4), x2, .sh PL, .sh (.lst W14), .sh RW1, .no, .sh (.tup (rollD es)), .sh (.int (1 + r2)), .sh one, .sh oth, .sh (.lst (outerL loseP (1 + r2) (rollD es) (rollD es).length)), .sh (.lst (outerL openP (1 + r2) (rollD es) (rollD es).length)), x13, x14, x15]) rfl ?_
    refine w_nx (e := [.sh (.scr ns), .ow (.lst L4), x2, .sh PL, .sh (.lst W14), .sh RW1, .sh (.lst O11), .sh (.tup (rollD es)), .sh (.int (1 + r2)), .sh one, .sh oth, .sh (.lst (outerL loseP (1 + r2) (rollD es) (rollD es).length)), .sh (.lst (outerL openP (1 + r2) (rollD es) (rollD es).length)), x13, x14, x15]) (by simp only [runB, env0, outB, ow0, evOps, sld, storeSl, setSh, ownL, cP, cC, cNm, cBo, cTr, dTru, cAnd, cOr, cNot, cAndV, cOrV, cNotV, DL.gTup, gLst, gAbs, gInt, gTupOf, gLstOf, cRet, cRetO, cSet, cSetIx, cAsg, cShare, shE, cIsi, cIsi2, tyIs, RB, RI, gNe_int, gNe_str, gLt_int, gGt_int, gLe_int, gGe_int, gAdd_int, gSub_int, at_0, at_1, at_2, at_3, at_4, at_5, at_6, cNx, cYes, cDrop, gIs, gIsNot, gIsB, isNon, Bool.false_xor, Bool.true_xor, gNeg, DL.gTupD, gConsD, gNilD, cCall, cCallM, flatR, List.map_cons, List.map_nil, List.length_cons, List.length_nil, List.length_map, List.length_set, List.cons_append, List.nil_append, List.replicate_succ, List.replicate_zero, List.getElem?_cons_zero, List.getElem?_cons_succ, List.set_cons_zero, List.set_cons_succ, Option.bind_eq_bind, Option.bind_some, Option.map_some, Option.bind_none, Nat.reduceAdd, Nat.reduceSub, Nat.reduceLeDiff, Nat.reduceLT, Nat.reduceEqDiff, Nat.zero_add, Bool.or_false, Bool.or_true, Bool.false_or, Bool.true_or, Bool.and_true, Bool.true_and, Bool.and_false, Bool.false_and, Bool.not_true, Bool.not_false, if_true, if_false, ↓reduceIte, Bool.false_eq_true, ix_4_0, ix_4_1, ix_4_2, ix_4_3, List.set_cons_zero, forall_const, cIte, odd_lc f2, slPL, slRW2, slRW1, gNeg_1, gAdd_t2]; rfl) ?_
    refine w_ret (by simp only [runB, env0, outB, ow0, evOps, sld, storeSl, setSh, ownL, cP, cC, cNm, cBo, cTr, dTru, cAnd, cOr, cNot, cAndV, cOrV, cNotV, DL.gTup, gLst, gAbs, gInt, gTupOf, gLstOf, cRet, cRetO, cSet, cSetIx, cAsg, cShare, shE, cIsi, cIsi2, tyIs, RB, RI, gNe_int, gNe_str, gLt_int, gGt_int, gLe_int, gGe_int, gAdd_int, gSub_int, at_0, at_1, at_2, at_3, at_4, at_5, at_6, cNx, cYes, cDrop, gIs, gIsNot, gIsB, isNon, Bool.false_xor, Bool.true_xor, gNeg, DL.gTupD, gConsD, gNilD, cCall, cCallM, flatR, List.map_cons, List.map_nil, List.length_cons, List.length_nil, List.length_map, List.length_set, List.cons_append, List.nil_append, List.replicate_succ, List.replicate_zero, List.getElem?_cons_zero, List.getElem?_cons_succ, List.set_cons_zero, List.set_cons_succ, Option.bind_eq_bind, Option.bind_some, Option.map_some, Option.bind_none, Nat.reduceAdd, Nat.reduceSub, Nat.reduceLeDiff, Nat.reduceLT, Nat.reduceEqDiff, Nat.zero_add, Bool.or_false, Bool.or_true, Bool.false_or, Bool.true_or, Bool.and_true, Bool.true_and, Bool.and_false, Bool.false_and, Bool.not_true, Bool.not_false, if_true, if_false, ↓reduceIte, Bool.false_eq_true, ix_4_0, ix_4_1, ix_4_2, ix_4_3, List.set_cons_zero, forall_const, cIte, e5, pw, nw, e6, po, no, decide_true]; rfl) ?_
    exact ⟨_, rfl, false, .non, rfl⟩
  obtain ⟨o, e, fr, d, rfl⟩ := st
  exact ⟨fr, d, e⟩

end KX
namespace KX
open PySem PySem.Spec PyProof.Rows L2 DL
def topS (i : Nat) : Stmt := PySem.Challenge.pw_castlehold_k46_whole_clashes_of_arms.main.body.getD i (.Pass ⟨0, 0, 0, 0⟩)
abbrev s_is_integer : Stmt := topS 2
theorem sc_is_integer : FnScope ["thing"] ["thing"] (defScope s_is_integer) := ⟨rfl, rfl, rfl, by decide +kernel, rfl, by decide +kernel, by decide +kernel⟩
abbrev s_is_number : Stmt := topS 3
theorem sc_is_number : FnScope ["thing", "least", "most"] ["thing", "least", "most"] (defScope s_is_number) := ⟨rfl, rfl, rfl, by decide +kernel, rfl, by decide +kernel, by decide +kernel⟩
abbrev s_is_name : Stmt := topS 4
theorem sc_is_name : FnScope ["thing", "sign"] ["thing"] (defScope s_is_name) := ⟨rfl, rfl, rfl, by decide +kernel, rfl, by decide +kernel, by decide +kernel⟩
abbrev s_is_rising : Stmt := topS 6
theorem sc_is_rising : FnScope ["rows", "one", "other"] ["rows"] (defScope s_is_rising) := ⟨rfl, rfl, rfl, by decide +kernel, rfl, by decide +kernel, by decide +kernel⟩
abbrev s_is_tincture : Stmt := topS 11
theorem sc_is_tincture : FnScope ["thing"] ["thing"] (defScope s_is_tincture) := ⟨rfl, rfl, rfl, by decide +kernel, rfl, by decide +kernel, by decide +kernel⟩
abbrev s_are_arms : Stmt := topS 12
theorem sc_are_arms : FnScope ["thing", "_", "stripe", "band", "charge", "tint"] ["thing"] (defScope s_are_arms) := ⟨rfl, rfl, rfl, by decide +kernel, rfl, by decide +kernel, by decide +kernel⟩
abbrev s_are_unlike : Stmt := topS 13
theorem sc_are_unlike : FnScope ["one", "other"] ["one", "other"] (defScope s_are_unlike) := ⟨rfl, rfl, rfl, by decide +kernel, rfl, by decide +kernel, by decide +kernel⟩
abbrev s_by_rule : Stmt := topS 14
theorem sc_by_rule : FnScope ["arms", "field", "stripe", "band", "charge", "tint"] ["arms"] (defScope s_by_rule) := ⟨rfl, rfl, rfl, by decide +kernel, rfl, by decide +kernel, by decide +kernel⟩
abbrev s_parts_apart : Stmt := topS 15
theorem sc_parts_apart : FnScope ["one", "other", "part", "told"] ["one", "other"] (defScope s_parts_apart) := ⟨rfl, rfl, rfl, by decide +kernel, rfl, by decide +kernel, by decide +kernel⟩
abbrev s_is_roll : Stmt := topS 16
theorem sc_is_roll : FnScope ["thing", "row"] ["thing"] (defScope s_is_roll) := ⟨rfl, rfl, rfl, by decide +kernel, rfl, by decide +kernel, by decide +kernel⟩
abbrev s_clashes : Stmt := topS 17
theorem sc_clashes : FnScope ["roll", "distance", "found", "place", "one", "other"] ["roll", "distance"] (defScope s_clashes) := ⟨rfl, rfl, rfl, by decide +kernel, rfl, by decide +kernel, by decide +kernel⟩
abbrev s_losers : Stmt := topS 18
theorem sc_losers : FnScope ["roll", "distance", "found", "one", "other"] ["roll", "distance"] (defScope s_losers) := ⟨rfl, rfl, rfl, by decide +kernel, rfl, by decide +kernel, by decide +kernel⟩
abbrev s_open_clashes : Stmt := topS 19
theorem sc_open_clashes : FnScope ["roll", "distance", "one", "other"] ["roll", "distance"] (defScope s_open_clashes) := ⟨rfl, rfl, rfl, by decide +kernel, rfl, by decide +kernel, by decide +kernel⟩
abbrev s__law_draw : Stmt := topS 21
theorem sc__law_draw : FnScope ["script"] ["script"] (defScope s__law_draw) := ⟨rfl, rfl, rfl, by decide +kernel, rfl, by decide +kernel, by decide +kernel⟩
abbrev s__law_next : Stmt := topS 22
theorem sc__law_next : FnScope ["draw", "many", "found", "cell"] ["draw", "many"] (defScope s__law_next) := ⟨rfl, rfl, rfl, by decide +kernel, rfl, by decide +kernel, by decide +kernel⟩
abbrev s__law_same : Stmt := topS 23
theorem sc__law_same : FnScope ["actual", "wanted", "k"] ["actual", "wanted"] (defScope s__law_same) := ⟨rfl, rfl, rfl, by decide +kernel, rfl, by decide +kernel, by decide +kernel⟩
abbrev s__law_arms : Stmt := topS 24
theorem sc__law_arms : FnScope ["draw", "tinctures", "stripe", "charge", "band", "tint"] ["draw"] (defScope s__law_arms) := ⟨rfl, rfl, rfl, by decide +kernel, rfl, by decide +kernel, by decide +kernel⟩
abbrev s__law_roll : Stmt := topS 25
theorem sc__law_roll : FnScope ["draw", "most", "owner"] ["draw", "most"] (defScope s__law_roll) := ⟨rfl, rfl, rfl, by decide +kernel, rfl, by decide +kernel, by decide +kernel⟩
abbrev s__law_by_rule : Stmt := topS 26
theorem sc__law_by_rule : FnScope ["arms", "metals", "below", "field", "stripe", "band", "charge", "tint"] ["arms"] (defScope s__law_by_rule) := ⟨rfl, rfl, rfl, by decide +kernel, rfl, by decide +kernel, by decide +kernel⟩
abbrev s__law_apart : Stmt := topS 27
theorem sc__law_apart : FnScope ["one", "other", "k"] ["one", "other"] (defScope s__law_apart) := ⟨rfl, rfl, rfl, by decide +kernel, rfl, by decide +kernel, by decide +kernel⟩
abbrev s_law : Stmt := topS 28
theorem sc_law : FnScope ["script", "draw", "k", "plain", "wrong", "row", "odd", "roll", "distance", "one", "other", "lost", "even", "j", "first", "later"] ["script"] (defScope s_law) := ⟨rfl, rfl, rfl, by decide +kernel, rfl, by decide +kernel, by decide +kernel⟩
structure Tx (K : PySem.W.Frag) (mg : Str → Option Value) where
  a_is_integer : Addr
  fd_is_integer : FuncData
  f_is_integer : Fun K "is_integer" "is_integer" s_is_integer a_is_integer fd_is_integer
  g_is_integer : mg "is_integer" = some (.ref a_is_integer)
  b_is_integer : Binds K fd_is_integer ["thing"] []
  a_is_number : Addr
  fd_is_number : FuncData
  f_is_number : Fun K "is_number" "is_number" s_is_number a_is_number fd_is_number
  g_is_number : mg "is_number" = some (.ref a_is_number)
  b_is_number : Binds K fd_is_number ["thing", "least", "most"] []
  a_is_name : Addr
  fd_is_name : FuncData
  f_is_name : Fun K "is_name" "is_name" s_is_name a_is_name fd_is_name
  g_is_name : mg "is_name" = some (.ref a_is_name)
  b_is_name : Binds K fd_is_name ["thing"] []
  a_is_rising : Addr
  fd_is_rising : FuncData
  f_is_rising : Fun K "is_rising" "is_rising" s_is_rising a_is_rising fd_is_rising
  g_is_rising : mg "is_rising" = some (.ref a_is_rising)
  b_is_rising : Binds K fd_is_rising ["rows"] []
  a_is_tincture : Addr
  fd_is_tincture : FuncData
  f_is_tincture : Fun K "is_tincture" "is_tincture" s_is_tincture a_is_tincture fd_is_tincture
  g_is_tincture : mg "is_tincture" = some (.ref a_is_tincture)
  b_is_tincture : Binds K fd_is_tincture ["thing"] []
  a_are_arms : Addr
  fd_are_arms : FuncData
  f_are_arms : Fun K "are_arms" "are_arms" s_are_arms a_are_arms fd_are_arms
  g_are_arms : mg "are_arms" = some (.ref a_are_arms)
  b_are_arms : Binds K fd_are_arms ["thing"] []
  a_are_unlike : Addr
  fd_are_unlike : FuncData
  f_are_unlike : Fun K "are_unlike" "are_unlike" s_are_unlike a_are_unlike fd_are_unlike
  g_are_unlike : mg "are_unlike" = some (.ref a_are_unlike)
  b_are_unlike : Binds K fd_are_unlike ["one", "other"] []
  a_by_rule : Addr
  fd_by_rule : FuncData
  f_by_rule : Fun K "by_rule" "by_rule" s_by_rule a_by_rule fd_by_rule
  g_by_rule : mg "by_rule" = some (.ref a_by_rule)
  b_by_rule : Binds K fd_by_rule ["arms"] []
  a_parts_apart : Addr
  fd_parts_apart : FuncData
  f_parts_apart : Fun K "parts_apart" "parts_apart" s_parts_apart a_parts_apart fd_parts_apart
  g_parts_apart : mg "parts_apart" = some (.ref a_parts_apart)
  b_parts_apart : Binds K fd_parts_apart ["one", "other"] []
  a_is_roll : Addr
  fd_is_roll : FuncData
  f_is_roll : Fun K "is_roll" "is_roll" s_is_roll a_is_roll fd_is_roll
  g_is_roll : mg "is_roll" = some (.ref a_is_roll)
  b_is_roll : Binds K fd_is_roll ["thing"] []
  a_clashes : Addr
  fd_clashes : FuncData
  f_clashes : Fun K "clashes" "clashes" s_clashes a_clashes fd_clashes
  g_clashes : mg "clashes" = some (.ref a_clashes)
  b_clashes : Binds K fd_clashes ["roll", "distance"] []
  a_losers : Addr
  fd_losers : FuncData
  f_losers : Fun K "losers" "losers" s_losers a_losers fd_losers
  g_losers : mg "losers" = some (.ref a_losers)
  b_losers : Binds K fd_losers ["roll", "distance"] []
  a_open_clashes : Addr
  fd_open_clashes : FuncData
  f_open_clashes : Fun K "open_clashes" "open_clashes" s_open_clashes a_open_clashes fd_open_clashes
  g_open_clashes : mg "open_clashes" = some (.ref a_open_clashes)
  b_open_clashes : Binds K fd_open_clashes ["roll", "distance"] []
  a__law_draw : Addr
  fd__law_draw : FuncData
  f__law_draw : Fun K "_law_draw" "_law_draw" s__law_draw a__law_draw fd__law_draw
  g__law_draw : mg "_law_draw" = some (.ref a__law_draw)
  b__law_draw : Binds K fd__law_draw ["script"] []
  a__law_next : Addr
  fd__law_next : FuncData
  f__law_next : Fun K "_law_next" "_law_next" s__law_next a__law_next fd__law_next
  g__law_next : mg "_law_next" = some (.ref a__law_next)
  b__law_next : Binds K fd__law_next ["draw", "many"] []
  a__law_same : Addr
  fd__law_same : FuncData
  f__law_same : Fun K "_law_same" "_law_same" s__law_same a__law_same fd__law_same
  g__law_same : mg "_law_same" = some (.ref a__law_same)
  b__law_same : Binds K fd__law_same ["actual", "wanted"] []
  a__law_arms : Addr
  fd__law_arms : FuncData
  f__law_arms : Fun K "_law_arms" "_law_arms" s__law_arms a__law_arms fd__law_arms
  g__law_arms : mg "_law_arms" = some (.ref a__law_arms)
  b__law_arms : Binds K fd__law_arms ["draw"] []
  a__law_roll : Addr
  fd__law_roll : FuncData
  f__law_roll : Fun K "_law_roll" "_law_roll" s__law_roll a__law_roll fd__law_roll
  g__law_roll : mg "_law_roll" = some (.ref a__law_roll)
  b__law_roll : Binds K fd__law_roll ["draw", "most"] []
  a__law_by_rule : Addr
  fd__law_by_rule : FuncData
  f__law_by_rule : Fun K "_law_by_rule" "_law_by_rule" s__law_by_rule a__law_by_rule fd__law_by_rule
  g__law_by_rule : mg "_law_by_rule" = some (.ref a__law_by_rule)
  b__law_by_rule : Binds K fd__law_by_rule ["arms"] []
  a__law_apart : Addr
  fd__law_apart : FuncData
  f__law_apart : Fun K "_law_apart" "_law_apart" s__law_apart a__law_apart fd__law_apart
  g__law_apart : mg "_law_apart" = some (.ref a__law_apart)
  b__law_apart : Binds K fd__law_apart ["one", "other"] []
  a_law : Addr
  fd_law : FuncData
  f_law : Fun K "law" "law" s_law a_law fd_law
  g_law : mg "law" = some (.ref a_law)
  b_law : Binds K fd_law ["script"] []
  z_abs : mg "abs" = none
  z_all : mg "all" = none
  z_bool : mg "bool" = none
  z_enumerate : mg "enumerate" = none
  z_int : mg "int" = none
  z_isinstance : mg "isinstance" = none
  z_len : mg "len" = none
  z_list : mg "list" = none
  z_range : mg "range" = none
  z_sorted : mg "sorted" = none
  z_str : mg "str" = none
  z_sum : mg "sum" = none
  z_tuple : mg "tuple" = none
  z_zip : mg "zip" = none
  c_COLOURS : GC K mg "COLOURS" c_COLOURS
  c_LETTERS : GC K mg "LETTERS" c_LETTERS
  c_METALS : GC K mg "METALS" c_METALS
  c_STRIPES : GC K mg "STRIPES" c_STRIPES
section
variable {P : Program} {w : World} {K : PySem.W.Frag} {mg : Str → Option Value} {base : Heap}
theorem ok_is_integer (T : Tx K mg) : FnOk P w K mg base CX0 1 T.a_is_integer T.fd_is_integer ["thing"] (spD K false F_is_integer) := fn_mk (N := ["thing"]) (ps := ["thing"]) false T.f_is_integer sc_is_integer (fun cdv A outer s H E hr =>
    (dss_one (ds_ret (de_and (de_isi (od_nm 0) T.z_isinstance T.z_int (by decide +kernel)) (de_one (de_not (de_isi (od_nm 0) T.z_isinstance T.z_bool (by decide +kernel))))))))
theorem ok_is_number (T : Tx K mg) : FnOk P w K mg base CX0 2 T.a_is_number T.fd_is_number ["thing", "least", "most"] (spD K false F_is_number) := fn_mk (N := ["thing", "least", "most"]) (ps := ["thing", "least", "most"]) false T.f_is_number sc_is_number (fun cdv A outer s H E hr =>
    (dss_one (ds_ret (de_and (de_call (ok_is_integer T) (hr.mono (by decide)) T.g_is_integer T.f_is_integer.kp T.b_is_integer (ops_cons (od_nm 0) ops_nil)) (de_and (de_cmp (oD_ge hr.units) vr_ge (od_nm 0) (od_nm 1)) (de_one (de_or (de_cmp oD_is vr_is (od_nm 2) (od_ex de_non)) (de_one (de_cmp (oD_le hr.units) vr_le (od_nm 0) (od_nm 2))))))))))
theorem ok_is_name (T : Tx K mg) : FnOk P w K mg base CX0 1 T.a_is_name T.fd_is_name ["thing"] (spD K false F_is_name) := fn_mk (N := ["thing", "sign"]) (ps := ["thing"]) false T.f_is_name sc_is_name (fun cdv A outer s H E hr =>
    (dss_cons (ds_if (dw_t (dw_or (dt_not (dt_tru (od_ex (de_isi (od_nm 0) T.z_isinstance T.z_str (by decide +kernel))))) (dw_or1 (dt_not (dt_chn (oD_le hr.units) vr_le (oD_le hr.units) vr_le (od_ex de_int) (od_ex (de_callB cr_len vr_len T.z_len boot_len (ops_cons (od_nm 0) ops_nil))) (od_ex de_int))))))
    (dss_one (ds_ret de_bl))
    dss_nil)
    (dss_one (ds_ret (de_callB (cr_all rfl) vr_all T.z_all (by decide +kernel) (ops_cons (od_ex (de_lc (own := [("sign", 1)]) rfl sc_is_name.nd (di_seq (de_nm 0)) (show blkC ["thing", "sign"] (defScope s_is_name) _ [("sign", 1)] = true from by decide +kernel) (fun _ _ _ _ _ => (dg_nm sc_is_name.nd 1)) (fun _ _ _ _ _ => dts_nil) (fun _ _ _ _ _ => (de_cmp (oD_in hr.units) vr_in (od_nm 1) (od_ex (de_glob T.c_LETTERS)))))) ops_nil))))))
theorem ok_is_rising (T : Tx K mg) : FnOk P w K mg base CX0 1 T.a_is_rising T.fd_is_rising ["rows"] (spD K false F_is_rising) := fn_mk (N := ["rows", "one", "other"]) (ps := ["rows"]) false T.f_is_rising sc_is_rising (fun cdv A outer s H E hr =>
    (dss_one (ds_ret (de_callB (cr_all rfl) vr_all T.z_all (by decide +kernel) (ops_cons (od_ex (de_lc (own := [("one", 1), ("other", 2)]) rfl sc_is_rising.nd (di_zip T.z_zip (od_nm 0) (od_ex (de_sl10 (od_nm 0) (od_ex de_int)))) (show blkC ["rows", "one", "other"] (defScope s_is_rising) _ [("one", 1), ("other", 2)] = true from by decide +kernel) (fun _ _ _ _ _ => (dg_tup rfl (dgs_cons (dg_nm sc_is_rising.nd 1) (dgs_cons (dg_nm sc_is_rising.nd 2) dgs_nil)))) (fun _ _ _ _ _ => dts_nil) (fun _ _ _ _ _ => (de_cmp (oD_lt hr.units) vr_lt (od_ex (de_ix (od_nm 1) (od_ex de_int))) (od_ex (de_ix (od_nm 2) (od_ex de_int))))))) ops_nil)))))
theorem ok_is_tincture (T : Tx K mg) : FnOk P w K mg base CX0 1 T.a_is_tincture T.fd_is_tincture ["thing"] (spD K false F_is_tincture) := fn_mk (N := ["thing"]) (ps := ["thing"]) false T.f_is_tincture sc_is_tincture (fun cdv A outer s H E hr =>
    (dss_one (ds_ret (de_and (de_isi (od_nm 0) T.z_isinstance T.z_str (by decide +kernel)) (de_one (de_cmp (oD_in hr.units) vr_in (od_nm 0) (od_ex (de_bin oD_add vr_add (od_ex (de_glob T.c_METALS)) (od_ex (de_glob T.c_COLOURS))))))))))
theorem ok_are_arms (T : Tx K mg) : FnOk P w K mg base CX0 2 T.a_are_arms T.fd_are_arms ["thing"] (spD K false F_are_arms) := fn_mk (N := ["thing", "_", "stripe", "band", "charge", "tint"]) (ps := ["thing"]) false T.f_are_arms sc_are_arms (fun cdv A outer s H E hr =>
    (dss_cons (ds_if (dw_t (dw_or (dt_not (dt_tru (od_ex (de_isi (od_nm 0) T.z_isinstance T.z_tuple (by decide +kernel))))) (dw_or (dt_cmp (oD_ne hr.units) vr_ne (od_ex (de_callB cr_len vr_len T.z_len boot_len (ops_cons (od_nm 0) ops_nil))) (od_ex de_int)) (dw_or1 (dt_not (dt_tru (od_ex (de_call (ok_is_tincture T) (hr.mono (by decide)) T.g_is_tincture T.f_is_tincture.kp T.b_is_tincture (ops_cons (od_ex (de_ix (od_nm 0) (od_ex de_int))) ops_nil)))))))))
    (dss_one (ds_ret de_bl))
    dss_nil)
    (dss_cons (ds_asg (de_nm 0) (dg_tup rfl (dgs_cons (dg_nm sc_are_arms.nd 1) (dgs_cons (dg_nm sc_are_arms.nd 2) (dgs_cons (dg_nm sc_are_arms.nd 3) (dgs_cons (dg_nm sc_are_arms.nd 4) (dgs_cons (dg_nm sc_are_arms.nd 5) dgs_nil)))))))
    (dss_cons (ds_if (dw_t (dw_or (dt_not (dt_tru (od_ex (de_isi (od_nm 2) T.z_isinstance T.z_str (by decide +kernel))))) (dw_or1 (dt_cmp (oD_notIn hr.units) vr_notIn (od_nm 2) (od_ex (de_glob T.c_STRIPES))))))
    (dss_one (ds_ret de_bl))
    dss_nil)
    (dss_cons (ds_if (dt_if (dt_cmp (oD_eq hr.units) vr_eq (od_nm 2) (od_ex de_str)) (dt_cmp oD_isNot vr_isNot (od_nm 3) (od_ex de_non)) (dt_not (dt_tru (od_ex (de_call (ok_is_tincture T) (hr.mono (by decide)) T.g_is_tincture T.f_is_tincture.kp T.b_is_tincture (ops_cons (od_nm 3) ops_nil))))))
    (dss_one (ds_ret de_bl))
    dss_nil)
    (dss_one (ds_ret (de_if (dt_cmp oD_is vr_is (od_nm 4) (od_ex de_non)) (de_cmp oD_is vr_is (od_nm 5) (od_ex de_non)) (de_and (de_call (ok_is_name T) (hr.mono (by decide)) T.g_is_name T.f_is_name.kp T.b_is_name (ops_cons (od_nm 4) ops_nil)) (de_one (de_call (ok_is_tincture T) (hr.mono (by decide)) T.g_is_tincture T.f_is_tincture.kp T.b_is_tincture (ops_cons (od_nm 5) ops_nil))))))))))))
theorem ok_are_unlike (T : Tx K mg) : FnOk P w K mg base CX0 1 T.a_are_unlike T.fd_are_unlike ["one", "other"] (spD K false F_are_unlike) := fn_mk (N := ["one", "other"]) (ps := ["one", "other"]) false T.f_are_unlike sc_are_unlike (fun cdv A outer s H E hr =>
    (dss_one (ds_ret (de_cmp (oD_ne hr.units) vr_ne (od_ex (de_cmp (oD_in hr.units) vr_in (od_nm 0) (od_ex (de_glob T.c_METALS)))) (od_ex (de_cmp (oD_in hr.units) vr_in (od_nm 1) (od_ex (de_glob T.c_METALS))))))))
theorem ok_by_rule (T : Tx K mg) : FnOk P w K mg base CX0 2 T.a_by_rule T.fd_by_rule ["arms"] (spD K false F_by_rule) := fn_mk (N := ["arms", "field", "stripe", "band", "charge", "tint"]) (ps := ["arms"]) false T.f_by_rule sc_by_rule (fun cdv A outer s H E hr =>
    (dss_cons (ds_asg (de_nm 0) (dg_tup rfl (dgs_cons (dg_nm sc_by_rule.nd 1) (dgs_cons (dg_nm sc_by_rule.nd 2) (dgs_cons (dg_nm sc_by_rule.nd 3) (dgs_cons (dg_nm sc_by_rule.nd 4) (dgs_cons (dg_nm sc_by_rule.nd 5) dgs_nil)))))))
    (dss_cons (ds_if (dw_t (dw_and (dt_cmp (oD_ne hr.units) vr_ne (od_nm 2) (od_ex de_str)) (dw_and1 (dt_not (dt_tru (od_ex (de_call (ok_are_unlike T) (hr.mono (by decide)) T.g_are_unlike T.f_are_unlike.kp T.b_are_unlike (ops_cons (od_nm 1) (ops_cons (od_nm 3) ops_nil)))))))))
    (dss_one (ds_ret de_bl))
    dss_nil)
    (dss_one (ds_ret (de_or (de_cmp oD_is vr_is (od_nm 4) (od_ex de_non)) (de_one (de_call (ok_are_unlike T) (hr.mono (by decide)) T.g_are_unlike T.f_are_unlike.kp T.b_are_unlike (ops_cons (od_ex (de_if (dt_cmp (oD_eq hr.units) vr_eq (od_nm 2) (od_ex de_str)) (de_nm 1) (de_nm 3))) (ops_cons (od_nm 5) ops_nil))))))))))
theorem ok_parts_apart (T : Tx K mg) : FnOk P w K mg base CX0 1 T.a_parts_apart T.fd_parts_apart ["one", "other"] (spD K false F_parts_apart) := fn_mk (N := ["one", "other", "part", "told"]) (ps := ["one", "other"]) false T.f_parts_apart sc_parts_apart (fun cdv A outer s H E hr =>
    (dss_one (ds_ret (de_callB cr_len vr_len T.z_len boot_len (ops_cons (od_ex (de_lc (own := [("part", 2), ("told", 3)]) rfl sc_parts_apart.nd (di_zip T.z_zip (od_nm 0) (od_nm 1)) (show blkC ["one", "other", "part", "told"] (defScope s_parts_apart) _ [("part", 2), ("told", 3)] = true from by decide +kernel) (fun _ _ _ _ _ => (dg_tup rfl (dgs_cons (dg_nm sc_parts_apart.nd 2) (dgs_cons (dg_nm sc_parts_apart.nd 3) dgs_nil)))) (fun _ _ _ _ _ => (dts_one (dt_cmp (oD_ne hr.units) vr_ne (od_nm 2) (od_nm 3)))) (fun _ _ _ _ _ => de_int))) ops_nil)))))
theorem ok_is_roll (T : Tx K mg) : FnOk P w K mg base CX0 3 T.a_is_roll T.fd_is_roll ["thing"] (spD K false F_is_roll) := fn_mk (N := ["thing", "row"]) (ps := ["thing"]) false T.f_is_roll sc_is_roll (fun cdv A outer s H E hr =>
    (dss_cons (ds_if (dw_t (dw_or (dt_not (dt_tru (od_ex (de_isi (od_nm 0) T.z_isinstance T.z_tuple (by decide +kernel))))) (dw_or1 (dt_cmp (oD_gt hr.units) vr_gt (od_ex (de_callB cr_len vr_len T.z_len boot_len (ops_cons (od_nm 0) ops_nil))) (od_ex de_int)))))
    (dss_one (ds_ret de_bl))
    dss_nil)
    (dss_cons (ds_for rfl (di_seq (de_nm 0)) (dg_nm sc_is_roll.nd 1)
    (dss_cons (ds_if (dw_t (dw_or (dt_not (dt_tru (od_ex (de_isi (od_nm 1) T.z_isinstance T.z_tuple (by decide +kernel))))) (dw_or (dt_cmp (oD_ne hr.units) vr_ne (od_ex (de_callB cr_len vr_len T.z_len boot_len (ops_cons (od_nm 1) ops_nil))) (od_ex de_int)) (dw_or1 (dt_not (dt_tru (od_ex (de_call (ok_is_name T) (hr.mono (by decide)) T.g_is_name T.f_is_name.kp T.b_is_name (ops_cons (od_ex (de_ix (od_nm 1) (od_ex de_int))) ops_nil)))))))))
    (dss_one (ds_ret de_bl))
    dss_nil)
    (dss_one (ds_if (dw_t (dw_or (dt_not (dt_tru (od_ex (de_call (ok_is_number T) (hr.mono (by decide)) T.g_is_number T.f_is_number.kp T.b_is_number (ops_cons (od_ex (de_ix (od_nm 1) (od_ex de_int))) (ops_cons (od_ex de_int) (ops_cons (od_ex de_int) ops_nil))))))) (dw_or1 (dt_not (dt_tru (od_ex (de_call (ok_are_arms T) (hr.mono (by decide)) T.g_are_arms T.f_are_arms.kp T.b_are_arms (ops_cons (od_ex (de_ix (od_nm 1) (od_ex de_int))) ops_nil))))))))
    (dss_one (ds_ret de_bl))
    dss_nil))))
    (dss_one (ds_ret (de_call (ok_is_rising T) (hr.mono (by decide)) T.g_is_rising T.f_is_rising.kp T.b_is_rising (ops_cons (od_nm 0) ops_nil)))))))
theorem ok_clashes (T : Tx K mg) : FnOk P w K mg base CX0 2 T.a_clashes T.fd_clashes ["roll", "distance"] (spD K false F_clashes) := fn_mk (N := ["roll", "distance", "found", "place", "one", "other"]) (ps := ["roll", "distance"]) false T.f_clashes sc_clashes (fun cdv A outer s H E hr =>
    (dss_cons (ds_set false sc_clashes.nd 2 (de_lst ops_nil))
    (dss_cons (ds_for rfl (di_enum T.z_enumerate (od_nm 0)) (dg_tup rfl (dgs_cons (dg_nm sc_clashes.nd 3) (dgs_cons (dg_nm sc_clashes.nd 4) dgs_nil)))
    (dss_one (ds_set false sc_clashes.nd 2 (de_bin oD_add vr_add (od_nm 2) (od_ex (de_lc (own := [("other", 5)]) rfl sc_clashes.nd (di_seq (de_sl10 (od_nm 0) (od_ex (de_bin oD_add vr_add (od_nm 3) (od_ex de_int))))) (show blkC ["roll", "distance", "found", "place", "one", "other"] (defScope s_clashes) _ [("other", 5)] = true from by decide +kernel) (fun _ _ _ _ _ => (dg_nm sc_clashes.nd 5)) (fun _ _ _ _ _ => (dts_one (dt_cmp (oD_lt hr.units) vr_lt (od_ex (de_call (ok_parts_apart T) (hr.mono (by decide)) T.g_parts_apart T.f_parts_apart.kp T.b_parts_apart (ops_cons (od_ex (de_ix (od_nm 4) (od_ex de_int))) (ops_cons (od_ex (de_ix (od_nm 5) (od_ex de_int))) ops_nil)))) (od_nm 1)))) (fun _ _ _ _ _ => (de_tup (ops_cons (od_nm 4) (ops_cons (od_nm 5) ops_nil))))))))))
    (dss_one (ds_retO 2)))))
theorem ok_losers (T : Tx K mg) : FnOk P w K mg base CX0 3 T.a_losers T.fd_losers ["roll", "distance"] (spD K false F_losers) := fn_mk (N := ["roll", "distance", "found", "one", "other"]) (ps := ["roll", "distance"]) false T.f_losers sc_losers (fun cdv A outer s H E hr =>
    (dss_cons (ds_set true sc_losers.nd 2 (de_lst ops_nil))
    (dss_cons (ds_for rfl (di_seq (de_call (ok_clashes T) (hr.mono (by decide)) T.g_clashes T.f_clashes.kp T.b_clashes (ops_cons (od_nm 0) (ops_cons (od_nm 1) ops_nil)))) (dg_tup rfl (dgs_cons (dg_nm sc_losers.nd 3) (dgs_cons (dg_nm sc_losers.nd 4) dgs_nil)))
    (dss_one (ds_if (dt_cmp (oD_ne hr.units) vr_ne (od_ex (de_ix (od_nm 3) (od_ex de_int))) (od_ex (de_ix (od_nm 4) (od_ex de_int))))
    (dss_one (ds_app 2 (od_nm 2) (od_ex (de_if (dt_cmp (oD_lt hr.units) vr_lt (od_ex (de_ix (od_nm 3) (od_ex de_int))) (od_ex (de_ix (od_nm 4) (od_ex de_int)))) (de_tup (ops_cons (od_ex (de_ix (od_nm 4) (od_ex de_int))) (ops_cons (od_ex (de_ix (od_nm 3) (od_ex de_int))) ops_nil))) (de_tup (ops_cons (od_ex (de_ix (od_nm 3) (od_ex de_int))) (ops_cons (od_ex (de_ix (od_nm 4) (od_ex de_int))) ops_nil)))))))
    dss_nil)))
    (dss_one (ds_ret (de_callB (cr_sortedD2 hr.units) vr_sorted T.z_sorted (by decide +kernel) (ops_cons (od_nm 2) ops_nil)))))))
theorem ok_open_clashes (T : Tx K mg) : FnOk P w K mg base CX0 3 T.a_open_clashes T.fd_open_clashes ["roll", "distance"] (spD K false F_open_clashes) := fn_mk (N := ["roll", "distance", "one", "other"]) (ps := ["roll", "distance"]) false T.f_open_clashes sc_open_clashes (fun cdv A outer s H E hr =>
    (dss_one (ds_ret (de_lc (own := [("one", 2), ("other", 3)]) rfl sc_open_clashes.nd (di_seq (de_call (ok_clashes T) (hr.mono (by decide)) T.g_clashes T.f_clashes.kp T.b_clashes (ops_cons (od_nm 0) (ops_cons (od_nm 1) ops_nil)))) (show blkC ["roll", "distance", "one", "other"] (defScope s_open_clashes) _ [("one", 2), ("other", 3)] = true from by decide +kernel) (fun _ _ _ _ _ => (dg_tup rfl (dgs_cons (dg_nm sc_open_clashes.nd 2) (dgs_cons (dg_nm sc_open_clashes.nd 3) dgs_nil)))) (fun _ _ _ _ _ => (dts_one (dt_cmp (oD_eq hr.units) vr_eq (od_ex (de_ix (od_nm 2) (od_ex de_int))) (od_ex (de_ix (od_nm 3) (od_ex de_int)))))) (fun _ _ _ _ _ => (de_tup (ops_cons (od_ex (de_ix (od_nm 2) (od_ex de_int))) (ops_cons (od_ex (de_ix (od_nm 3) (od_ex de_int))) ops_nil))))))))
theorem ok__law_draw (T : Tx K mg) : FnOk P w K mg base CX0 1 T.a__law_draw T.fd__law_draw ["script"] (spD K false F__law_draw) := fn_mk (N := ["script"]) (ps := ["script"]) false T.f__law_draw sc__law_draw (fun cdv A outer s H E hr =>
    (dss_one (ds_ret (de_lst (ops_cons (od_ex (de_callTy call_list_of vr_lstOf T.z_list (by decide +kernel) (ops_cons (od_nm 0) ops_nil))) (ops_cons (od_ex de_int) (ops_cons (od_ex de_int) (ops_cons (od_ex de_int) ops_nil))))))))
theorem ok__law_next (T : Tx K mg) : FnOk P w K mg base CX0 1 T.a__law_next T.fd__law_next ["draw", "many"] (spD K true F__law_next) := fn_mk (N := ["draw", "many", "found", "cell"]) (ps := ["draw", "many"]) true T.f__law_next sc__law_next (fun cdv A outer s H E hr =>
    (dss_cons (ds_if (dt_cmp (oD_gt hr.units) vr_gt (od_ex (de_ix (od_nm 0) (od_ex de_int))) (od_ex de_int))
    (dss_cons (ds_set false sc__law_next.nd 2 (de_bin op_mod vr_mod (od_ex (de_callTy call_int1 vr_int T.z_int (by decide +kernel) (ops_cons (od_ex (de_ix (od_nm 0) (od_ex de_int))) ops_nil))) (od_nm 1)))
    (dss_cons (ds_setIx 0 (od_nm 0) (od_ex (de_bin op_fdiv vr_div (od_ex (de_ix (od_nm 0) (od_ex de_int))) (od_nm 1))) (od_ex de_int))
    (dss_one (ds_retO 2))))
    dss_nil)
    (dss_cons (ds_if (dt_cmp (oD_lt hr.units) vr_lt (od_ex (de_ix (od_nm 0) (od_ex de_int))) (od_ex (de_callB cr_len vr_len T.z_len boot_len (ops_cons (od_ex (de_ix (od_nm 0) (od_ex de_int))) ops_nil))))
    (dss_cons (ds_set false sc__law_next.nd 3 (de_callB call_abs vr_abs T.z_abs (by decide +kernel) (ops_cons (od_ex (de_ix (od_ex (de_ix (od_nm 0) (od_ex de_int))) (od_ex (de_ix (od_nm 0) (od_ex de_int))))) ops_nil)))
    (dss_cons (ds_setIx 0 (od_nm 0) (od_ex (de_bin oD_add vr_add (od_ex (de_ix (od_nm 0) (od_ex de_int))) (od_ex de_int))) (od_ex de_int))
    (dss_cons (ds_if (dt_cmp (oD_ge hr.units) vr_ge (od_nm 3) (od_ex (de_bin op_pow vr_pow (od_ex de_int) (od_ex de_int))))
    (dss_cons (ds_setIx 0 (od_nm 0) (od_ex (de_bin op_fdiv vr_div (od_nm 3) (od_nm 1))) (od_ex de_int))
    (dss_one (ds_ret (de_bin op_mod vr_mod (od_ex (de_callTy call_int1 vr_int T.z_int (by decide +kernel) (ops_cons (od_nm 3) ops_nil))) (od_nm 1)))))
    dss_nil)
    (dss_one (ds_setIx 0 (od_nm 0) (od_ex (de_bin op_mod vr_mod (od_ex (de_callTy call_int1 vr_int T.z_int (by decide +kernel) (ops_cons (od_ex (de_bin oD_add vr_add (od_ex (de_bin oD_add vr_add (od_ex (de_bin oD_mul vr_mul (od_ex (de_ix (od_nm 0) (od_ex de_int))) (od_ex de_int))) (od_nm 3))) (od_ex de_int))) ops_nil))) (od_ex de_int))) (od_ex de_int))))))
    (dss_one (ds_setIx 0 (od_nm 0) (od_ex (de_bin op_mod vr_mod (od_ex (de_callTy call_int1 vr_int T.z_int (by decide +kernel) (ops_cons (od_ex (de_bin oD_add vr_add (od_ex (de_bin oD_mul vr_mul (od_ex (de_ix (od_nm 0) (od_ex de_int))) (od_ex de_int))) (od_ex de_int))) ops_nil))) (od_ex de_int))) (od_ex de_int))))
    (dss_one (ds_ret (de_bin op_mod vr_mod (od_ex (de_bin op_fdiv vr_div (od_ex (de_callTy call_int1 vr_int T.z_int (by decide +kernel) (ops_cons (od_ex (de_bin op_mod vr_mod (od_ex (de_bin oD_mul vr_mul (od_ex (de_ix (od_nm 0) (od_ex de_int))) (od_ex de_int))) (od_ex de_int))) ops_nil))) (od_ex de_int))) (od_nm 1)))))))
theorem okn__law_same (T : Tx K mg) : ∀ n, FnOk P w K mg base CX0 (n + 1) T.a__law_same T.fd__law_same ["actual", "wanted"] (spD K false (FN__law_same n))
  | 0 => fn_none
  | n + 1 => by
    have Gr := okn__law_same T n
    exact fn_mk (N := ["actual", "wanted", "k"]) (ps := ["actual", "wanted"]) false T.f__law_same sc__law_same (fun cdv A outer s H E hr =>
    (dss_cons (ds_if (dt_tru (od_ex (de_isi2 (od_nm 1) T.z_isinstance T.z_list (by decide +kernel) T.z_tuple (by decide +kernel))))
    (dss_cons (ds_if (dw_t (dw_or (dt_cmp (oD_ne hr.units) vr_ne (od_ex (de_isi (od_nm 1) T.z_isinstance T.z_list (by decide +kernel))) (od_ex (de_isi (od_nm 0) T.z_isinstance T.z_list (by decide +kernel)))) (dw_or1 (dt_cmp (oD_ne hr.units) vr_ne (od_ex (de_isi (od_nm 1) T.z_isinstance T.z_tuple (by decide +kernel))) (od_ex (de_isi (od_nm 0) T.z_isinstance T.z_tuple (by decide +kernel)))))))
    (dss_one (ds_ret de_bl))
    dss_nil)
    (dss_cons (ds_if (dt_cmp (oD_ne hr.units) vr_ne (od_ex (de_callB cr_len vr_len T.z_len boot_len (ops_cons (od_nm 0) ops_nil))) (od_ex (de_callB cr_len vr_len T.z_len boot_len (ops_cons (od_nm 1) ops_nil))))
    (dss_one (ds_ret de_bl))
    dss_nil)
    (dss_one (ds_ret (de_callB (cr_all rfl) vr_all T.z_all (by decide +kernel) (ops_cons (od_ex (de_lc (own := [("k", 2)]) rfl sc__law_same.nd (di_rg1 T.z_range (od_ex (de_callB cr_len vr_len T.z_len boot_len (ops_cons (od_nm 1) ops_nil)))) (show blkC ["actual", "wanted", "k"] (defScope s__law_same) _ [("k", 2)] = true from by decide +kernel) (fun _ _ _ _ _ => (dg_nm sc__law_same.nd 2)) (fun _ _ _ _ _ => dts_nil) (fun _ _ _ _ _ => (de_call Gr (hr.mono (Nat.le_refl _)) T.g__law_same T.f__law_same.kp T.b__law_same (ops_cons (od_ex (de_ix (od_nm 0) (od_nm 2))) (ops_cons (od_ex (de_ix (od_nm 1) (od_nm 2))) ops_nil)))))) ops_nil))))))
    dss_nil)
    (dss_cons (ds_if (dt_cmp oD_is vr_is (od_nm 1) (od_ex de_non))
    (dss_one (ds_ret (de_cmp oD_is vr_is (od_nm 0) (od_ex de_non))))
    dss_nil)
    (dss_cons (ds_if (dt_cmp (oD_ne hr.units) vr_ne (od_ex (de_isi (od_nm 1) T.z_isinstance T.z_bool (by decide +kernel))) (od_ex (de_isi (od_nm 0) T.z_isinstance T.z_bool (by decide +kernel))))
    (dss_one (ds_ret de_bl))
    dss_nil)
    (dss_cons (ds_if (dt_tru (od_ex (de_isi (od_nm 1) T.z_isinstance T.z_str (by decide +kernel))))
    (dss_one (ds_ret (de_and (de_isi (od_nm 0) T.z_isinstance T.z_str (by decide +kernel)) (de_one (de_cmp (oD_eq hr.units) vr_eq (od_nm 0) (od_nm 1))))))
    dss_nil)
    (dss_one (ds_ret (de_and (de_isi (od_nm 0) T.z_isinstance T.z_int (by decide +kernel)) (de_one (de_cmp (oD_eq hr.units) vr_eq (od_nm 0) (od_nm 1)))))))))))
theorem ok__law_same (T : Tx K mg) : FnOk P w K mg base CX0 31 T.a__law_same T.fd__law_same ["actual", "wanted"] (spD K false F__law_same) := okn__law_same T 30
theorem ok__law_arms (T : Tx K mg) : FnOk P w K mg base CX0 2 T.a__law_arms T.fd__law_arms ["draw"] (spD K true F__law_arms) := fn_mk (N := ["draw", "tinctures", "stripe", "charge", "band", "tint"]) (ps := ["draw"]) true T.f__law_arms sc__law_arms (fun cdv A outer s H E hr =>
    (dss_cons (ds_set false sc__law_arms.nd 1 (de_lst (ops_cons (od_ex de_str) (ops_cons (od_ex de_str) (ops_cons (od_ex de_str) (ops_cons (od_ex de_str) ops_nil))))))
    (dss_cons (ds_par sc__law_arms.nd 2 false 3 false (de_ix (od_ex (de_lst (ops_cons (od_ex de_str) (ops_cons (od_ex de_str) (ops_cons (od_ex de_str) (ops_cons (od_ex de_str) ops_nil)))))) (od_ex (de_callM (ok__law_next T) (hr.mono (by decide)) T.g__law_next T.f__law_next.kp T.b__law_next (od_nm 0) (ops_cons (od_ex de_int) ops_nil)))) (de_ix (od_ex (de_lst (ops_cons (od_ex de_non) (ops_cons (od_ex de_str) (ops_cons (od_ex de_str) ops_nil))))) (od_ex (de_callM (ok__law_next T) (hr.mono (by decide)) T.g__law_next T.f__law_next.kp T.b__law_next (od_nm 0) (ops_cons (od_ex de_int) ops_nil)))))
    (dss_cons (ds_par sc__law_arms.nd 4 false 5 false (de_ix (od_nm 1) (od_ex (de_callM (ok__law_next T) (hr.mono (by decide)) T.g__law_next T.f__law_next.kp T.b__law_next (od_nm 0) (ops_cons (od_ex de_int) ops_nil)))) (de_ix (od_nm 1) (od_ex (de_callM (ok__law_next T) (hr.mono (by decide)) T.g__law_next T.f__law_next.kp T.b__law_next (od_nm 0) (ops_cons (od_ex de_int) ops_nil)))))
    (dss_one (ds_ret (de_tup (ops_cons (od_ex (de_ix (od_nm 1) (od_ex (de_callM (ok__law_next T) (hr.mono (by decide)) T.g__law_next T.f__law_next.kp T.b__law_next (od_nm 0) (ops_cons (od_ex de_int) ops_nil))))) (ops_cons (od_nm 2) (ops_cons (od_ex (de_if (dt_cmp (oD_ne hr.units) vr_ne (od_nm 2) (od_ex de_str)) (de_nm 4) de_non)) (ops_cons (od_nm 3) (ops_cons (od_ex (de_if (dt_cmp oD_isNot vr_isNot (od_nm 3) (od_ex de_non)) (de_nm 5) de_non)) ops_nil))))))))))))
theorem ok__law_roll (T : Tx K mg) : FnOk P w K mg base CX0 3 T.a__law_roll T.fd__law_roll ["draw", "most"] (spD K true F__law_roll) := fn_mk (N := ["draw", "most", "owner"]) (ps := ["draw", "most"]) true T.f__law_roll sc__law_roll (fun cdv A outer s H E hr =>
    (dss_one (ds_ret (de_callTy call_tuple_of vr_tupOf T.z_tuple (by decide +kernel) (ops_cons (od_ex (de_lc (own := [("owner", 2)]) rfl sc__law_roll.nd (di_seq (de_sl01 (od_ex (de_lst (ops_cons (od_ex de_str) (ops_cons (od_ex de_str) (ops_cons (od_ex de_str) (ops_cons (od_ex de_str) ops_nil)))))) (od_ex (de_callM (ok__law_next T) (hr.mono (by decide)) T.g__law_next T.f__law_next.kp T.b__law_next (od_nm 0) (ops_cons (od_ex (de_bin oD_add vr_add (od_nm 1) (od_ex de_int))) ops_nil))))) (show blkC ["draw", "most", "owner"] (defScope s__law_roll) _ [("owner", 2)] = true from by decide +kernel) (fun _ _ _ _ _ => (dg_nm sc__law_roll.nd 2)) (fun _ _ _ _ _ => dts_nil) (fun _ _ _ _ _ => (de_tup (ops_cons (od_nm 2) (ops_cons (od_ex (de_callM (ok__law_next T) (hr.mono (by decide)) T.g__law_next T.f__law_next.kp T.b__law_next (od_nm 0) (ops_cons (od_ex de_int) ops_nil))) (ops_cons (od_ex (de_callM (ok__law_arms T) (hr.mono (by decide)) T.g__law_arms T.f__law_arms.kp T.b__law_arms (od_nm 0) ops_nil)) ops_nil))))))) ops_nil)))))
theorem ok__law_by_rule (T : Tx K mg) : FnOk P w K mg base CX0 1 T.a__law_by_rule T.fd__law_by_rule ["arms"] (spD K false F__law_by_rule) := fn_mk (N := ["arms", "metals", "below", "field", "stripe", "band", "charge", "tint"]) (ps := ["arms"]) false T.f__law_by_rule sc__law_by_rule (fun cdv A outer s H E hr =>
    (dss_cons (ds_asg (de_nm 0) (dg_tup rfl (dgs_cons (dg_nm sc__law_by_rule.nd 3) (dgs_cons (dg_nm sc__law_by_rule.nd 4) (dgs_cons (dg_nm sc__law_by_rule.nd 5) (dgs_cons (dg_nm sc__law_by_rule.nd 6) (dgs_cons (dg_nm sc__law_by_rule.nd 7) dgs_nil)))))))
    (dss_cons (ds_set false sc__law_by_rule.nd 1 (de_tup (ops_cons (od_ex de_str) (ops_cons (od_ex de_str) ops_nil))))
    (dss_cons (ds_set false sc__law_by_rule.nd 2 (de_if (dt_cmp (oD_eq hr.units) vr_eq (od_nm 4) (od_ex de_str)) (de_nm 3) (de_nm 5)))
    (dss_cons (ds_if (dw_t (dw_and (dt_cmp (oD_ne hr.units) vr_ne (od_nm 4) (od_ex de_str)) (dw_and1 (dt_cmp (oD_eq hr.units) vr_eq (od_ex (de_cmp (oD_in hr.units) vr_in (od_nm 3) (od_nm 1))) (od_ex (de_cmp (oD_in hr.units) vr_in (od_nm 5) (od_nm 1)))))))
    (dss_one (ds_ret de_bl))
    dss_nil)
    (dss_one (ds_ret (de_or (de_cmp oD_is vr_is (od_nm 6) (od_ex de_non)) (de_one (de_cmp (oD_ne hr.units) vr_ne (od_ex (de_cmp (oD_in hr.units) vr_in (od_nm 2) (od_nm 1))) (od_ex (de_cmp (oD_in hr.units) vr_in (od_nm 7) (od_nm 1)))))))))))))
theorem ok__law_apart (T : Tx K mg) : FnOk P w K mg base CX0 1 T.a__law_apart T.fd__law_apart ["one", "other"] (spD K false F__law_apart) := fn_mk (N := ["one", "other", "k"]) (ps := ["one", "other"]) false T.f__law_apart sc__law_apart (fun cdv A outer s H E hr =>
    (dss_one (ds_ret (de_callB (cr_sum rfl) vr_sum T.z_sum (by decide +kernel) (ops_cons (od_ex (de_lc (own := [("k", 2)]) rfl sc__law_apart.nd (di_rg1 T.z_range (od_ex de_int)) (show blkC ["one", "other", "k"] (defScope s__law_apart) _ [("k", 2)] = true from by decide +kernel) (fun _ _ _ _ _ => (dg_nm sc__law_apart.nd 2)) (fun _ _ _ _ _ => dts_nil) (fun _ _ _ _ _ => (de_if (dt_cmp (oD_ne hr.units) vr_ne (od_ex (de_ix (od_nm 0) (od_nm 2))) (od_ex (de_ix (od_nm 1) (od_nm 2)))) de_int de_int)))) ops_nil)))))
theorem ok_law (T : Tx K mg) : FnOk P w K mg base CX0 32 T.a_law T.fd_law ["script"] (spD K false F_law) := fn_mk (N := ["script", "draw", "k", "plain", "wrong", "row", "odd", "roll", "distance", "one", "other", "lost", "even", "j", "first", "later"]) (ps := ["script"]) false T.f_law sc_law (fun cdv A outer s H E hr =>
    (dss_cons (ds_set true sc_law.nd 1 (de_call (ok__law_draw T) (hr.mono (by decide)) T.g__law_draw T.f__law_draw.kp T.b__law_draw (ops_cons (od_nm 0) ops_nil)))
    (dss_cons (ds_asg (de_tup (ops_cons (od_ex (de_callM (ok__law_roll T) (hr.mono (by decide)) T.g__law_roll T.f__law_roll.kp T.b__law_roll (od_nm 1) (ops_cons (od_ex de_int) ops_nil))) (ops_cons (od_ex (de_bin oD_add vr_add (od_ex de_int) (od_ex (de_callM (ok__law_next T) (hr.mono (by decide)) T.g__law_next T.f__law_next.kp T.b__law_next (od_nm 1) (ops_cons (od_ex de_int) ops_nil))))) (ops_cons (od_ex (de_callM (ok__law_arms T) (hr.mono (by decide)) T.g__law_arms T.f__law_arms.kp T.b__law_arms (od_nm 1) ops_nil)) (ops_cons (od_ex (de_callM (ok__law_arms T) (hr.mono (by decide)) T.g__law_arms T.f__law_arms.kp T.b__law_arms (od_nm 1) ops_nil)) ops_nil))))) (dg_tup rfl (dgs_cons (dg_nm sc_law.nd 7) (dgs_cons (dg_nm sc_law.nd 8) (dgs_cons (dg_nm sc_law.nd 9) (dgs_cons (dg_nm sc_law.nd 10) dgs_nil))))))
    (dss_cons (ds_if (dw_t (dw_or (dt_cmp oD_isNot vr_isNot (od_ex (de_call (ok_is_roll T) (hr.mono (by decide)) T.g_is_roll T.f_is_roll.kp T.b_is_roll (ops_cons (od_nm 7) ops_nil))) (od_ex de_bl)) (dw_or (dt_cmp oD_isNot vr_isNot (od_ex (de_call (ok_are_arms T) (hr.mono (by decide)) T.g_are_arms T.f_are_arms.kp T.b_are_arms (ops_cons (od_nm 9) ops_nil))) (od_ex de_bl)) (dw_or (dt_cmp (oD_ne hr.units) vr_ne (od_ex (de_cmp oD_is vr_is (od_ex (de_call (ok_by_rule T) (hr.mono (by decide)) T.g_by_rule T.f_by_rule.kp T.b_by_rule (ops_cons (od_nm 9) ops_nil))) (od_ex de_bl))) (od_ex (de_call (ok__law_by_rule T) (hr.mono (by decide)) T.g__law_by_rule T.f__law_by_rule.kp T.b__law_by_rule (ops_cons (od_nm 9) ops_nil)))) (dw_or1 (dt_not (dt_tru (od_ex (de_call (ok__law_same T) (hr.mono (by decide)) T.g__law_same T.f__law_same.kp T.b__law_same (ops_cons (od_ex (de_call (ok_parts_apart T) (hr.mono (by decide)) T.g_parts_apart T.f_parts_apart.kp T.b_parts_apart (ops_cons (od_nm 9) (ops_cons (od_nm 10) ops_nil)))) (ops_cons (od_ex (de_call (ok__law_apart T) (hr.mono (by decide)) T.g__law_apart T.f__law_apart.kp T.b__law_apart (ops_cons (od_nm 9) (ops_cons (od_nm 10) ops_nil)))) ops_nil)))))))))))
    (dss_one (ds_ret de_bl))
    dss_nil)
    (dss_cons (ds_par sc_law.nd 11 false 12 false (de_lst ops_nil) (de_lst ops_nil))
    (dss_cons (ds_for rfl (di_rg1 T.z_range (od_ex (de_callB cr_len vr_len T.z_len boot_len (ops_cons (od_nm 7) ops_nil)))) (dg_nm sc_law.nd 2)
    (dss_one (ds_for rfl (di_rg1 T.z_range (od_nm 2)) (dg_nm sc_law.nd 13)
    (dss_one (ds_if (dt_cmp (oD_lt hr.units) vr_lt (od_ex (de_call (ok__law_apart T) (hr.mono (by decide)) T.g__law_apart T.f__law_apart.kp T.b__law_apart (ops_cons (od_ex (de_ix (od_ex (de_ix (od_nm 7) (od_nm 13))) (od_ex de_int))) (ops_cons (od_ex (de_ix (od_ex (de_ix (od_nm 7) (od_nm 2))) (od_ex de_int))) ops_nil)))) (od_nm 8))
    (dss_cons (ds_asg (de_if (dt_cmp (oD_le hr.units) vr_le (od_ex (de_ix (od_ex (de_ix (od_nm 7) (od_nm 13))) (od_ex de_int))) (od_ex (de_ix (od_ex (de_ix (od_nm 7) (od_nm 2))) (od_ex de_int)))) (de_tup (ops_cons (od_ex (de_ix (od_nm 7) (od_nm 13))) (ops_cons (od_ex (de_ix (od_nm 7) (od_nm 2))) ops_nil))) (de_tup (ops_cons (od_ex (de_ix (od_nm 7) (od_nm 2))) (ops_cons (od_ex (de_ix (od_nm 7) (od_nm 13))) ops_nil)))) (dg_tup rfl (dgs_cons (dg_nm sc_law.nd 14) (dgs_cons (dg_nm sc_law.nd 15) dgs_nil))))
    (dss_cons (ds_set false sc_law.nd 11 (de_bin oD_add vr_add (od_nm 11) (od_ex (de_if (dt_cmp (oD_lt hr.units) vr_lt (od_ex (de_ix (od_nm 14) (od_ex de_int))) (od_ex (de_ix (od_nm 15) (od_ex de_int)))) (de_lst (ops_cons (od_ex (de_tup (ops_cons (od_ex (de_ix (od_nm 15) (od_ex de_int))) (ops_cons (od_ex (de_ix (od_nm 14) (od_ex de_int))) ops_nil)))) ops_nil)) (de_lst ops_nil)))))
    (dss_one (ds_set false sc_law.nd 12 (de_bin oD_add vr_add (od_nm 12) (od_ex (de_if (dt_cmp (oD_eq hr.units) vr_eq (od_ex (de_ix (od_nm 14) (od_ex de_int))) (od_ex (de_ix (od_nm 15) (od_ex de_int)))) (de_lst (ops_cons (od_ex (de_tup (ops_cons (od_ex (de_ix (od_ex (de_ix (od_nm 7) (od_nm 13))) (od_ex de_int))) (ops_cons (od_ex (de_ix (od_ex (de_ix (od_nm 7) (od_nm 2))) (od_ex de_int))) ops_nil)))) ops_nil)) (de_lst ops_nil))))))))
    dss_nil)))))
    (dss_cons (ds_if (dw_t (dw_or (dt_not (dt_tru (od_ex (de_call (ok__law_same T) (hr.mono (by decide)) T.g__law_same T.f__law_same.kp T.b__law_same (ops_cons (od_ex (de_call (ok_losers T) (hr.mono (by decide)) T.g_losers T.f_losers.kp T.b_losers (ops_cons (od_nm 7) (ops_cons (od_nm 8) ops_nil)))) (ops_cons (od_ex (de_callB (cr_sortedD2 hr.units) vr_sorted T.z_sorted (by decide +kernel) (ops_cons (od_nm 11) ops_nil))) ops_nil)))))) (dw_or1 (dt_not (dt_tru (od_ex (de_call (ok__law_same T) (hr.mono (by decide)) T.g__law_same T.f__law_same.kp T.b__law_same (ops_cons (od_ex (de_call (ok_open_clashes T) (hr.mono (by decide)) T.g_open_clashes T.f_open_clashes.kp T.b_open_clashes (ops_cons (od_nm 7) (ops_cons (od_nm 8) ops_nil)))) (ops_cons (od_ex (de_callB (cr_sortedD2 hr.units) vr_sorted T.z_sorted (by decide +kernel) (ops_cons (od_nm 12) ops_nil))) ops_nil)))))))))
    (dss_one (ds_ret de_bl))
    dss_nil)
    (dss_cons (ds_set false sc_law.nd 3 (de_tup (ops_cons (od_ex de_str) (ops_cons (od_ex de_str) (ops_cons (od_ex de_non) (ops_cons (od_ex de_non) (ops_cons (od_ex de_non) ops_nil)))))))
    (dss_cons (ds_set false sc_law.nd 4 (de_lst (ops_cons (od_ex de_non) (ops_cons (od_ex (de_sl01 (od_nm 3) (od_ex de_int))) (ops_cons (od_ex (de_callTy call_list_of vr_lstOf T.z_list (by decide +kernel) (ops_cons (od_nm 3) ops_nil))) (ops_cons (od_ex (de_bin oD_add vr_add (od_ex (de_tup (ops_cons (od_ex de_str) ops_nil))) (od_ex (de_sl10 (od_nm 3) (od_ex de_int))))) (ops_cons (od_ex (de_bin oD_add vr_add (od_ex (de_tup (ops_cons (od_ex de_int) ops_nil))) (od_ex (de_sl10 (od_nm 3) (od_ex de_int))))) (ops_cons (od_ex (de_tup (ops_cons (od_ex de_str) (ops_cons (od_ex de_str) (ops_cons (od_ex de_non) (ops_cons (od_ex de_non) (ops_cons (od_ex de_non) ops_nil))))))) (ops_cons (od_ex (de_tup (ops_cons (od_ex de_str) (ops_cons (od_ex de_str) (ops_cons (od_ex de_non) (ops_cons (od_ex de_non) (ops_cons (od_ex de_non) ops_nil))))))) (ops_cons (od_ex (de_tup (ops_cons (od_ex de_str) (ops_cons (od_ex de_str) (ops_cons (od_ex de_str) (ops_cons (od_ex de_non) (ops_cons (od_ex de_non) ops_nil))))))) (ops_cons (od_ex (de_tup (ops_cons (od_ex de_str) (ops_cons (od_ex de_str) (ops_cons (od_ex de_str) (ops_cons (od_ex de_non) (ops_cons (od_ex de_non) ops_nil))))))) (ops_cons (od_ex (de_tup (ops_cons (od_ex de_str) (ops_cons (od_ex de_str) (ops_cons (od_ex de_non) (ops_cons (od_ex de_non) (ops_cons (od_ex de_str) ops_nil))))))) (ops_cons (od_ex (de_tup (ops_cons (od_ex de_str) (ops_cons (od_ex de_str) (ops_cons (od_ex de_non) (ops_cons (od_ex de_str) (ops_cons (od_ex de_non) ops_nil))))))) (ops_cons (od_ex (de_tup (ops_cons (od_ex de_str) (ops_cons (od_ex de_str) (ops_cons (od_ex de_non) (ops_cons (od_ex de_str) (ops_cons (od_ex de_str) ops_nil))))))) (ops_cons (od_ex (de_tup (ops_cons (od_ex de_str) (ops_cons (od_ex de_str) (ops_cons (od_ex de_non) (ops_cons (od_ex de_str) (ops_cons (od_ex de_str) ops_nil))))))) (ops_cons (od_ex (de_tup (ops_cons (od_ex de_str) (ops_cons (od_ex de_int) (ops_cons (od_ex de_non) (ops_cons (od_ex de_non) (ops_cons (od_ex de_non) ops_nil))))))) ops_nil))))))))))))))))
    (dss_cons (ds_set false sc_law.nd 5 (de_tup (ops_cons (od_ex de_str) (ops_cons (od_ex de_int) (ops_cons (od_nm 3) ops_nil)))))
    (dss_cons (ds_set false sc_law.nd 6 (de_lst (ops_cons (od_ex de_non) (ops_cons (od_ex (de_lst (ops_cons (od_nm 5) ops_nil))) (ops_cons (od_ex (de_tup (ops_cons (od_ex (de_sl01 (od_nm 5) (od_ex de_int))) ops_nil))) (ops_cons (od_ex (de_tup (ops_cons (od_ex (de_bin oD_add vr_add (od_ex (de_tup (ops_cons (od_ex de_str) ops_nil))) (od_ex (de_sl10 (od_nm 5) (od_ex de_int))))) ops_nil))) (ops_cons (od_ex (de_tup (ops_cons (od_ex (de_tup (ops_cons (od_ex de_str) (ops_cons (od_ex (de_un un_neg vr_neg (od_ex de_int))) (ops_cons (od_nm 3) ops_nil))))) ops_nil))) (ops_cons (od_ex (de_tup (ops_cons (od_ex (de_tup (ops_cons (od_ex de_str) (ops_cons (od_ex de_int) (ops_cons (od_nm 3) ops_nil))))) ops_nil))) (ops_cons (od_ex (de_tup (ops_cons (od_ex (de_tup (ops_cons (od_ex de_str) (ops_cons (od_ex de_int) (ops_cons (od_ex (de_sl01 (od_nm 3) (od_ex de_int))) ops_nil))))) ops_nil))) (ops_cons (od_ex (de_tup (ops_cons (od_nm 5) (ops_cons (od_nm 5) ops_nil)))) (ops_cons (od_ex (de_tup (ops_cons (od_ex (de_bin oD_add vr_add (od_ex (de_tup (ops_cons (od_ex de_str) ops_nil))) (od_ex (de_sl10 (od_nm 5) (od_ex de_int))))) (ops_cons (od_nm 5) ops_nil)))) (ops_cons (od_ex (de_tup (ops_cons (od_nm 5) (ops_cons (od_ex (de_tup (ops_cons (od_ex de_str) (ops_cons (od_ex de_int) (ops_cons (od_nm 3) ops_nil))))) ops_nil)))) (ops_cons (od_ex (de_callTy call_tuple_of vr_tupOf T.z_tuple (by decide +kernel) (ops_cons (od_ex (de_lc (own := [("k", 2)]) rfl sc_law.nd (di_rg1 T.z_range (od_ex de_int)) (show blkC ["script", "draw", "k", "plain", "wrong", "row", "odd", "roll", "distance", "one", "other", "lost", "even", "j", "first", "later"] (defScope s_law) _ [("k", 2)] = true from by decide +kernel) (fun _ _ _ _ _ => (dg_nm sc_law.nd 2)) (fun _ _ _ _ _ => dts_nil) (fun _ _ _ _ _ => (de_tup (ops_cons (od_ex (de_bin oD_add vr_add (od_ex de_str) (od_ex (de_ix (od_ex de_str) (od_nm 2))))) (ops_cons (od_ex de_int) (ops_cons (od_nm 3) ops_nil))))))) ops_nil))) ops_nil)))))))))))))
    (dss_one (ds_ret (de_and (de_cmp oD_is vr_is (od_ex (de_call (ok_are_arms T) (hr.mono (by decide)) T.g_are_arms T.f_are_arms.kp T.b_are_arms (ops_cons (od_ex (de_ix (od_nm 4) (od_ex (de_callM (ok__law_next T) (hr.mono (by decide)) T.g__law_next T.f__law_next.kp T.b__law_next (od_nm 1) (ops_cons (od_ex de_int) ops_nil))))) ops_nil))) (od_ex de_bl)) (de_one (de_cmp oD_is vr_is (od_ex (de_call (ok_is_roll T) (hr.mono (by decide)) T.g_is_roll T.f_is_roll.kp T.b_is_roll (ops_cons (od_ex (de_ix (od_nm 6) (od_ex (de_callM (ok__law_next T) (hr.mono (by decide)) T.g__law_next T.f__law_next.kp T.b__law_next (od_nm 1) (ops_cons (od_ex de_int) ops_nil))))) ops_nil))) (od_ex de_bl)))))))))))))))))
end
end KX

namespace KX
open PySem PySem.Spec PyProof.Rows L2 DL
theorem all_mk {l : PySem.W.OpenLaw} {w : World} {K : PySem.W.Frag} {h : Heap} {mg : Str → Option Value} {fa : Addr} (X : K.In h) (G : h.Ns mainGlobals mg) (hfa : mg "law" = some (.ref fa))
    {f0 : Addr} {od0 an0 : Option Addr} {sl0 : Array (Option Value)} {oc0 kV0 dc0 pm0 cd0 ct0 : Value}
    {f1 : Addr} {od1 an1 : Option Addr} {sl1 : Array (Option Value)} {oc1 kV1 dc1 pm1 cd1 ct1 : Value}
    {f2 : Addr} {od2 an2 : Option Addr} {sl2 : Array (Option Value)} {oc2 kV2 dc2 pm2 cd2 ct2 : Value}
    {f3 : Addr} {od3 an3 : Option Addr} {sl3 : Array (Option Value)} {oc3 kV3 dc3 pm3 cd3 ct3 : Value}
    {f4 : Addr} {od4 an4 : Option Addr} {sl4 : Array (Option Value)} {oc4 kV4 dc4 pm4 cd4 ct4 : Value}
    {f5 : Addr} {od5 an5 : Option Addr} {sl5 : Array (Option Value)} {oc5 kV5 dc5 pm5 cd5 ct5 : Value}
    {f6 : Addr} {od6 an6 : Option Addr} {sl6 : Array (Option Value)} {oc6 kV6 dc6 pm6 cd6 ct6 : Value}
    {f7 : Addr} {od7 an7 : Option Addr} {sl7 : Array (Option Value)} {oc7 kV7 dc7 pm7 cd7 ct7 : Value}
    {f8 : Addr} {od8 an8 : Option Addr} {sl8 : Array (Option Value)} {oc8 kV8 dc8 pm8 cd8 ct8 : Value}
    {f9 : Addr} {od9 an9 : Option Addr} {sl9 : Array (Option Value)} {oc9 kV9 dc9 pm9 cd9 ct9 : Value}
    {f10 : Addr} {od10 an10 : Option Addr} {sl10 : Array (Option Value)} {oc10 kV10 dc10 pm10 cd10 ct10 : Value}
    {f11 : Addr} {od11 an11 : Option Addr} {sl11 : Array (Option Value)} {oc11 kV11 dc11 pm11 cd11 ct11 : Value}
    {f12 : Addr} {od12 an12 : Option Addr} {sl12 : Array (Option Value)} {oc12 kV12 dc12 pm12 cd12 ct12 : Value}
    {f13 : Addr} {od13 an13 : Option Addr} {sl13 : Array (Option Value)} {oc13 kV13 dc13 pm13 cd13 ct13 : Value}
    {f14 : Addr} {od14 an14 : Option Addr} {sl14 : Array (Option Value)} {oc14 kV14 dc14 pm14 cd14 ct14 : Value}
    {f15 : Addr} {od15 an15 : Option Addr} {sl15 : Array (Option Value)} {oc15 kV15 dc15 pm15 cd15 ct15 : Value}
    {f16 : Addr} {od16 an16 : Option Addr} {sl16 : Array (Option Value)} {oc16 kV16 dc16 pm16 cd16 ct16 : Value}
    {f17 : Addr} {od17 an17 : Option Addr} {sl17 : Array (Option Value)} {oc17 kV17 dc17 pm17 cd17 ct17 : Value}
    {f18 : Addr} {od18 an18 : Option Addr} {sl18 : Array (Option Value)} {oc18 kV18 dc18 pm18 cd18 ct18 : Value}
    {f19 : Addr} {od19 an19 : Option Addr} {sl19 : Array (Option Value)} {oc19 kV19 dc19 pm19 cd19 ct19 : Value}
    {f20 : Addr} {od20 an20 : Option Addr} {sl20 : Array (Option Value)} {oc20 kV20 dc20 pm20 cd20 ct20 : Value}
    (a0 : PySem.W.nsIn K mainGlobals "is_integer" = some (some (.ref f0)))
    (l0 : K.lookup f0 = some ⟨oc0, od0, .func (PySem.W.fnOf "is_integer" "is_integer" (defArgs s_is_integer) (defBody s_is_integer) (defScope s_is_integer) .none kV0 dc0 pm0 an0 cd0 ct0), sl0⟩)
    (c0 : PySem.W.codeIn K cd0 "is_integer" = true) (k0 : PySem.W.keepIn K (.ref f0) = true)
    (a1 : PySem.W.nsIn K mainGlobals "is_number" = some (some (.ref f1)))
    (l1 : K.lookup f1 = some ⟨oc1, od1, .func (PySem.W.fnOf "is_number" "is_number" (defArgs s_is_number) (defBody s_is_number) (defScope s_is_number) .none kV1 dc1 pm1 an1 cd1 ct1), sl1⟩)
    (c1 : PySem.W.codeIn K cd1 "is_number" = true) (k1 : PySem.W.keepIn K (.ref f1) = true)
    (a2 : PySem.W.nsIn K mainGlobals "is_name" = some (some (.ref f2)))
    (l2 : K.lookup f2 = some ⟨oc2, od2, .func (PySem.W.fnOf "is_name" "is_name" (defArgs s_is_name) (defBody s_is_name) (defScope s_is_name) .none kV2 dc2 pm2 an2 cd2 ct2), sl2⟩)
    (c2 : PySem.W.codeIn K cd2 "is_name" = true) (k2 : PySem.W.keepIn K (.ref f2) = true)
    (a3 : PySem.W.nsIn K mainGlobals "is_rising" = some (some (.ref f3)))
    (l3 : K.lookup f3 = some ⟨oc3, od3, .func (PySem.W.fnOf "is_rising" "is_rising" (defArgs s_is_rising) (defBody s_is_rising) (defScope s_is_rising) .none kV3 dc3 pm3 an3 cd3 ct3), sl3⟩)
    (c3 : PySem.W.codeIn K cd3 "is_rising" = true) (k3 : PySem.W.keepIn K (.ref f3) = true)
    (a4 : PySem.W.nsIn K mainGlobals "is_tincture" = some (some (.ref f4)))
    (l4 : K.lookup f4 = some ⟨oc4, od4, .func (PySem.W.fnOf "is_tincture" "is_tincture" (defArgs s_is_tincture) (defBody s_is_tincture) (defScope s_is_tincture) .none kV4 dc4 pm4 an4 cd4 ct4), sl4⟩)
    (c4 : PySem.W.codeIn K cd4 "is_tincture" = true) (k4 : PySem.W.keepIn K (.ref f4) = true)
    (a5 : PySem.W.nsIn K mainGlobals "are_arms" = some (some (.ref f5)))
    (l5 : K.lookup f5 = some ⟨oc5, od5, .func (PySem.W.fnOf "are_arms" "are_arms" (defArgs s_are_arms) (defBody s_are_arms) (defScope s_are_arms) .none kV5 dc5 pm5 an5 cd5 ct5), sl5⟩)
    (c5 : PySem.W.codeIn K cd5 "are_arms" = true) (k5 : PySem.W.keepIn K (.ref f5) = true)
    (a6 : PySem.W.nsIn K mainGlobals "are_unlike" = some (some (.ref f6)))
    (l6 : K.lookup f6 = some ⟨oc6, od6, .func (PySem.W.fnOf "are_unlike" "are_unlike" (defArgs s_are_unlike) (defBody s_are_unlike) (defScope s_are_unlike) .none kV6 dc6 pm6 an6 cd6 ct6), sl6⟩)
    (c6 : PySem.W.codeIn K cd6 "are_unlike" = true) (k6 : PySem.W.keepIn K (.ref f6) = true)
    (a7 : PySem.W.nsIn K mainGlobals "by_rule" = some (some (.ref f7)))
    (l7 : K.lookup f7 = some ⟨oc7, od7, .func (PySem.W.fnOf "by_rule" "by_rule" (defArgs s_by_rule) (defBody s_by_rule) (defScope s_by_rule) .none kV7 dc7 pm7 an7 cd7 ct7), sl7⟩)
    (c7 : PySem.W.codeIn K cd7 "by_rule" = true) (k7 : PySem.W.keepIn K (.ref f7) = true)
    (a8 : PySem.W.nsIn K mainGlobals "parts_apart" = some (some (.ref f8)))
    (l8 : K.lookup f8 = some ⟨oc8, od8, .func (PySem.W.fnOf "parts_apart" "parts_apart" (defArgs s_parts_apart) (defBody s_parts_apart) (defScope s_parts_apart) .none kV8 dc8 pm8 an8 cd8 ct8), sl8⟩)
    (c8 : PySem.W.codeIn K cd8 "parts_apart" = true) (k8 : PySem.W.keepIn K (.ref f8) = true)
    (a9 : PySem.W.nsIn K mainGlobals "is_roll" = some (some (.ref f9)))
    (l9 : K.lookup f9 = some ⟨oc9, od9, .func (PySem.W.fnOf "is_roll" "is_roll" (defArgs s_is_roll) (defBody s_is_roll) (defScope s_is_roll) .none kV9 dc9 pm9 an9 cd9 ct9), sl9⟩)
    (c9 : PySem.W.codeIn K cd9 "is_roll" = true) (k9 : PySem.W.keepIn K (.ref f9) = true)
    (a10 : PySem.W.nsIn K mainGlobals "clashes" = some (some (.ref f10)))
    (l10 : K.lookup f10 = some ⟨oc10, od10, .func (PySem.W.fnOf "clashes" "clashes" (defArgs s_clashes) (defBody s_clashes) (defScope s_clashes) .none kV10 dc10 pm10 an10 cd10 ct10), sl10⟩)
    (c10 : PySem.W.codeIn K cd10 "clashes" = true) (k10 : PySem.W.keepIn K (.ref f10) = true)
    (a11 : PySem.W.nsIn K mainGlobals "losers" = some (some (.ref f11)))
    (l11 : K.lookup f11 = some ⟨oc11, od11, .func (PySem.W.fnOf "losers" "losers" (defArgs s_losers) (defBody s_losers) (defScope s_losers) .none kV11 dc11 pm11 an11 cd11 ct11), sl11⟩)
    (c11 : PySem.W.codeIn K cd11 "losers" = true) (k11 : PySem.W.keepIn K (.ref f11) = true)
    (a12 : PySem.W.nsIn K mainGlobals "open_clashes" = some (some (.ref f12)))
    (l12 : K.lookup f12 = some ⟨oc12, od12, .func (PySem.W.fnOf "open_clashes" "open_clashes" (defArgs s_open_clashes) (defBody s_open_clashes) (defScope s_open_clashes) .none kV12 dc12 pm12 an12 cd12 ct12), sl12⟩)
    (c12 : PySem.W.codeIn K cd12 "open_clashes" = true) (k12 : PySem.W.keepIn K (.ref f12) = true)
    (a13 : PySem.W.nsIn K mainGlobals "_law_draw" = some (some (.ref f13)))
    (l13 : K.lookup f13 = some ⟨oc13, od13, .func (PySem.W.fnOf "_law_draw" "_law_draw" (defArgs s__law_draw) (defBody s__law_draw) (defScope s__law_draw) .none kV13 dc13 pm13 an13 cd13 ct13), sl13⟩)
    (c13 : PySem.W.codeIn K cd13 "_law_draw" = true) (k13 : PySem.W.keepIn K (.ref f13) = true)
    (a14 : PySem.W.nsIn K mainGlobals "_law_next" = some (some (.ref f14)))
    (l14 : K.lookup f14 = some ⟨oc14, od14, .func (PySem.W.fnOf "_law_next" "_law_next" (defArgs s__law_next) (defBody s__law_next) (defScope s__law_next) .none kV14 dc14 pm14 an14 cd14 ct14), sl14⟩)
    (c14 : PySem.W.codeIn K cd14 "_law_next" = true) (k14 : PySem.W.keepIn K (.ref f14) = true)
    (a15 : PySem.W.nsIn K mainGlobals "_law_same" = some (some (.ref f15)))
    (l15 : K.lookup f15 = some ⟨oc15, od15, .func (PySem.W.fnOf "_law_same" "_law_same" (defArgs s__law_same) (defBody s__law_same) (defScope s__law_same) .none kV15 dc15 pm15 an15 cd15 ct15), sl15⟩)
    (c15 : PySem.W.codeIn K cd15 "_law_same" = true) (k15 : PySem.W.keepIn K (.ref f15) = true)
    (a16 : PySem.W.nsIn K mainGlobals "_law_arms" = some (some (.ref f16)))
    (l16 : K.lookup f16 = some ⟨oc16, od16, .func (PySem.W.fnOf "_law_arms" "_law_arms" (defArgs s__law_arms) (defBody s__law_arms) (defScope s__law_arms) .none kV16 dc16 pm16 an16 cd16 ct16), sl16⟩)
    (c16 : PySem.W.codeIn K cd16 "_law_arms" = true) (k16 : PySem.W.keepIn K (.ref f16) = true)
    (a17 : PySem.W.nsIn K mainGlobals "_law_roll" = some (some (.ref f17)))
    (l17 : K.lookup f17 = some ⟨oc17, od17, .func (PySem.W.fnOf "_law_roll" "_law_roll" (defArgs s__law_roll) (defBody s__law_roll) (defScope s__law_roll) .none kV17 dc17 pm17 an17 cd17 ct17), sl17⟩)
    (c17 : PySem.W.codeIn K cd17 "_law_roll" = true) (k17 : PySem.W.keepIn K (.ref f17) = true)
    (a18 : PySem.W.nsIn K mainGlobals "_law_by_rule" = some (some (.ref f18)))
    (l18 : K.lookup f18 = some ⟨oc18, od18, .func (PySem.W.fnOf "_law_by_rule" "_law_by_rule" (defArgs s__law_by_rule) (defBody s__law_by_rule) (defScope s__law_by_rule) .none kV18 dc18 pm18 an18 cd18 ct18), sl18⟩)
    (c18 : PySem.W.codeIn K cd18 "_law_by_rule" = true) (k18 : PySem.W.keepIn K (.ref f18) = true)
    (a19 : PySem.W.nsIn K mainGlobals "_law_apart" = some (some (.ref f19)))
    (l19 : K.lookup f19 = some ⟨oc19, od19, .func (PySem.W.fnOf "_law_apart" "_law_apart" (defArgs s__law_apart) (defBody s__law_apart) (defScope s__law_apart) .none kV19 dc19 pm19 an19 cd19 ct19), sl19⟩)
    (c19 : PySem.W.codeIn K cd19 "_law_apart" = true) (k19 : PySem.W.keepIn K (.ref f19) = true)
    (a20 : PySem.W.nsIn K mainGlobals "law" = some (some (.ref f20)))
    (l20 : K.lookup f20 = some ⟨oc20, od20, .func (PySem.W.fnOf "law" "law" (defArgs s_law) (defBody s_law) (defScope s_law) .none kV20 dc20 pm20 an20 cd20 ct20), sl20⟩)
    (c20 : PySem.W.codeIn K cd20 "law" = true) (k20 : PySem.W.keepIn K (.ref f20) = true)
    (z_abs : PySem.W.nsIn K mainGlobals "abs" = some none)
    (z_all : PySem.W.nsIn K mainGlobals "all" = some none)
    (z_bool : PySem.W.nsIn K mainGlobals "bool" = some none)
    (z_enumerate : PySem.W.nsIn K mainGlobals "enumerate" = some none)
    (z_int : PySem.W.nsIn K mainGlobals "int" = some none)
    (z_isinstance : PySem.W.nsIn K mainGlobals "isinstance" = some none)
    (z_len : PySem.W.nsIn K mainGlobals "len" = some none)
    (z_list : PySem.W.nsIn K mainGlobals "list" = some none)
    (z_range : PySem.W.nsIn K mainGlobals "range" = some none)
    (z_sorted : PySem.W.nsIn K mainGlobals "sorted" = some none)
    (z_str : PySem.W.nsIn K mainGlobals "str" = some none)
    (z_sum : PySem.W.nsIn K mainGlobals "sum" = some none)
    (z_tuple : PySem.W.nsIn K mainGlobals "tuple" = some none)
    (z_zip : PySem.W.nsIn K mainGlobals "zip" = some none)
    (q_COLOURS : gcB K "COLOURS" c_COLOURS = true)
    (q_LETTERS : gcB K "LETTERS" c_LETTERS = true)
    (q_METALS : gcB K "METALS" c_METALS = true)
    (q_STRIPES : gcB K "STRIPES" c_STRIPES = true) :
    ∃ fd : FuncData, (∀ (s : Shared) (v : Value), BindsTo s fd ⟨[v], []⟩ [("script", v)]) ∧ ∀ base : Heap, K.In base → base.Ns mainGlobals mg → FnOk l.prog w K mg base CX0 32 fa fd ["script"] (spD K false F_law) := by
  let T : Tx K mg := {
    a_is_integer := f0, fd_is_integer := _, f_is_integer := fun_mk (st := s_is_integer) l0 c0 k0, g_is_integer := PySem.W.mg_of X G a0, b_is_integer := ((fun_mk (st := s_is_integer) l0 c0 k0).binds (ps := ["thing"]) fun _ _ _ _ _ _ us hl => match us, hl with | [_], _ => rfl),
    a_is_number := f1, fd_is_number := _, f_is_number := fun_mk (st := s_is_number) l1 c1 k1, g_is_number := PySem.W.mg_of X G a1, b_is_number := ((fun_mk (st := s_is_number) l1 c1 k1).binds (ps := ["thing", "least", "most"]) fun _ _ _ _ _ _ us hl => match us, hl with | [_, _, _], _ => rfl),
    a_is_name := f2, fd_is_name := _, f_is_name := fun_mk (st := s_is_name) l2 c2 k2, g_is_name := PySem.W.mg_of X G a2, b_is_name := ((fun_mk (st := s_is_name) l2 c2 k2).binds (ps := ["thing"]) fun _ _ _ _ _ _ us hl => match us, hl with | [_], _ => rfl),
    a_is_rising := f3, fd_is_rising := _, f_is_rising := fun_mk (st := s_is_rising) l3 c3 k3, g_is_rising := PySem.W.mg_of X G a3, b_is_rising := ((fun_mk (st := s_is_rising) l3 c3 k3).binds (ps := ["rows"]) fun _ _ _ _ _ _ us hl => match us, hl with | [_], _ => rfl),
    a_is_tincture := f4, fd_is_tincture := _, f_is_tincture := fun_mk (st := s_is_tincture) l4 c4 k4, g_is_tincture := PySem.W.mg_of X G a4, b_is_tincture := ((fun_mk (st := s_is_tincture) l4 c4 k4).binds (ps := ["thing"]) fun _ _ _ _ _ _ us hl => match us, hl with | [_], _ => rfl),
    a_are_arms := f5, fd_are_arms := _, f_are_arms := fun_mk (st := s_are_arms) l5 c5 k5, g_are_arms := PySem.W.mg_of X G a5, b_are_arms := ((fun_mk (st := s_are_arms) l5 c5 k5).binds (ps := ["thing"]) fun _ _ _ _ _ _ us hl => match us, hl with | [_], _ => rfl),
    a_are_unlike := f6, fd_are_unlike := _, f_are_unlike := fun_mk (st := s_are_unlike) l6 c6 k6, g_are_unlike := PySem.W.mg_of X G a6, b_are_unlike := ((fun_mk (st := s_are_unlike) l6 c6 k6).binds (ps := ["one", "other"]) fun _ _ _ _ _ _ us hl => match us, hl with | [_, _], _ => rfl),
    a_by_rule := f7, fd_by_rule := _, f_by_rule := fun_mk (st := s_by_rule) l7 c7 k7, g_by_rule := PySem.W.mg_of X G a7, b_by_rule := ((fun_mk (st := s_by_rule) l7 c7 k7).binds (ps := ["arms"]) fun _ _ _ _ _ _ us hl => match us, hl with | [_], _ => rfl),
    a_parts_apart := f8, fd_parts_apart := _, f_parts_apart := fun_mk (st := s_parts_apart) l8 c8 k8, g_parts_apart := PySem.W.mg_of X G a8, b_parts_apart := ((fun_mk (st := s_parts_apart) l8 c8 k8).binds (ps := ["one", "other"]) fun _ _ _ _ _ _ us hl => match us, hl with | [_, _], _ => rfl),
    a_is_roll := f9, fd_is_roll := _, f_is_roll := fun_mk (st := s_is_roll) l9 c9 k9, g_is_roll := PySem.W.mg_of X G a9, b_is_roll := ((fun_mk (st := s_is_roll) l9 c9 k9).binds (ps := ["thing"]) fun _ _ _ _ _ _ us hl => match us, hl with | [_], _ => rfl),
    a_clashes := f10, fd_clashes := _, f_clashes := fun_mk (st := s_clashes) l10 c10 k10, g_clashes := PySem.W.mg_of X G a10, b_clashes := ((fun_mk (st := s_clashes) l10 c10 k10).binds (ps := ["roll", "distance"]) fun _ _ _ _ _ _ us hl => match us, hl with | [_, _], _ => rfl),
    a_losers := f11, fd_losers := _, f_losers := fun_mk (st := s_losers) l11 c11 k11, g_losers := PySem.W.mg_of X G a11, b_losers := ((fun_mk (st := s_losers) l11 c11 k11).binds (ps := ["roll", "distance"]) fun _ _ _ _ _ _ us hl => match us, hl with | [_, _], _ => rfl),
    a_open_clashes := f12, fd_open_clashes := _, f_open_clashes := fun_mk (st := s_open_clashes) l12 c12 k12, g_open_clashes := PySem.W.mg_of X G a12, b_open_clashes := ((fun_mk (st := s_open_clashes) l12 c12 k12).binds (ps := ["roll", "distance"]) fun _ _ _ _ _ _ us hl => match us, hl with | [_, _], _ => rfl),
    a__law_draw := f13, fd__law_draw := _, f__law_draw := fun_mk (st := s__law_draw) l13 c13 k13, g__law_draw := PySem.W.mg_of X G a13, b__law_draw := ((fun_mk (st := s__law_draw) l13 c13 k13).binds (ps := ["script"]) fun _ _ _ _ _ _ us hl => match us, hl with | [_], _ => rfl),
    a__law_next := f14, fd__law_next := _, f__law_next := fun_mk (st := s__law_next) l14 c14 k14, g__law_next := PySem.W.mg_of X G a14, b__law_next := ((fun_mk (st := s__law_next) l14 c14 k14).binds (ps := ["draw", "many"]) fun _ _ _ _ _ _ us hl => match us, hl with | [_, _], _ => rfl),
    a__law_same := f15, fd__law_same := _, f__law_same := fun_mk (st := s__law_same) l15 c15 k15, g__law_same := PySem.W.mg_of X G a15, b__law_same := ((fun_mk (st := s__law_same) l15 c15 k15).binds (ps := ["actual", "wanted"]) fun _ _ _ _ _ _ us hl => match us, hl with | [_, _], _ => rfl),
    a__law_arms := f16, fd__law_arms := _, f__law_arms := fun_mk (st := s__law_arms) l16 c16 k16, g__law_arms := PySem.W.mg_of X G a16, b__law_arms := ((fun_mk (st := s__law_arms) l16 c16 k16).binds (ps := ["draw"]) fun _ _ _ _ _ _ us hl => match us, hl with | [_], _ => rfl),
    a__law_roll := f17, fd__law_roll := _, f__law_roll := fun_mk (st := s__law_roll) l17 c17 k17, g__law_roll := PySem.W.mg_of X G a17, b__law_roll := ((fun_mk (st := s__law_roll) l17 c17 k17).binds (ps := ["draw", "most"]) fun _ _ _ _ _ _ us hl => match us, hl with | [_, _], _ => rfl),
    a__law_by_rule := f18, fd__law_by_rule := _, f__law_by_rule := fun_mk (st := s__law_by_rule) l18 c18 k18, g__law_by_rule := PySem.W.mg_of X G a18, b__law_by_rule := ((fun_mk (st := s__law_by_rule) l18 c18 k18).binds (ps := ["arms"]) fun _ _ _ _ _ _ us hl => match us, hl with | [_], _ => rfl),
    a__law_apart := f19, fd__law_apart := _, f__law_apart := fun_mk (st := s__law_apart) l19 c19 k19, g__law_apart := PySem.W.mg_of X G a19, b__law_apart := ((fun_mk (st := s__law_apart) l19 c19 k19).binds (ps := ["one", "other"]) fun _ _ _ _ _ _ us hl => match us, hl with | [_, _], _ => rfl),
    a_law := f20, fd_law := _, f_law := fun_mk (st := s_law) l20 c20 k20, g_law := PySem.W.mg_of X G a20, b_law := ((fun_mk (st := s_law) l20 c20 k20).binds (ps := ["script"]) fun _ _ _ _ _ _ us hl => match us, hl with | [_], _ => rfl),
    z_abs := PySem.W.mg_none_of X G z_abs,
    z_all := PySem.W.mg_none_of X G z_all,
    z_bool := PySem.W.mg_none_of X G z_bool,
    z_enumerate := PySem.W.mg_none_of X G z_enumerate,
    z_int := PySem.W.mg_none_of X G z_int,
    z_isinstance := PySem.W.mg_none_of X G z_isinstance,
    z_len := PySem.W.mg_none_of X G z_len,
    z_list := PySem.W.mg_none_of X G z_list,
    z_range := PySem.W.mg_none_of X G z_range,
    z_sorted := PySem.W.mg_none_of X G z_sorted,
    z_str := PySem.W.mg_none_of X G z_str,
    z_sum := PySem.W.mg_none_of X G z_sum,
    z_tuple := PySem.W.mg_none_of X G z_tuple,
    z_zip := PySem.W.mg_none_of X G z_zip,
    c_COLOURS := gc_of X G q_COLOURS,
    c_LETTERS := gc_of X G q_LETTERS,
    c_METALS := gc_of X G q_METALS,
    c_STRIPES := gc_of X G q_STRIPES }
  have e : fa = T.a_law := Value.ref.inj (Option.some.inj (hfa.symm.trans T.g_law))
  subst e
  exact ⟨T.fd_law, fun s v => .of_eq rfl, fun base _ _ => ok_law T⟩
end KX
open PySem PySem.W PyProof.Rows
set_option maxHeartbeats 0 in
theorem PySem.Challenge.cw_castlehold_k46_whole_clashes_of_arms_holds : PySem.Challenge.rw_castlehold_k46_whole_clashes_of_arms.Holds := by
  w_on; o_law; k_head; (case hw => w_witness2)
  k_fill
  refine L2.walk_of (l := PySem.Challenge.rw_castlehold_k46_whole_clashes_of_arms) (n := 63) (k := 32) (x := "script") (CX := fun _ => L2.CX0) (sp := fun w => DL.spD _ false KX.F_law) rfl (by decide) rfl ⟨rfl, by decide, by decide⟩ (fun w h Y => PySem.W.kIn_of Y) ?F (fun _ _ a ns hl ho hS => (KX.law_good ns hl).elim fun fr h => h.elim fun d h => DL.law_start ho hS h) (fun _ _ _ _ _ h => h)
  case F =>
    intro w mg fa h kX G hmg
    refine' KX.all_mk kX G hmg ?a0 ?l0 ?c0 ?k0 ?a1 ?l1 ?c1 ?k1 ?a2 ?l2 ?c2 ?k2 ?a3 ?l3 ?c3 ?k3 ?a4 ?l4 ?c4 ?k4 ?a5 ?l5 ?c5 ?k5 ?a6 ?l6 ?c6 ?k6 ?a7 ?l7 ?c7 ?k7 ?a8 ?l8 ?c8 ?k8 ?a9 ?l9 ?c9 ?k9 ?a10 ?l10 ?c10 ?k10 ?a11 ?l11 ?c11 ?k11 ?a12 ?l12 ?c12 ?k12 ?a13 ?l13 ?c13 ?k13 ?a14 ?l14 ?c14 ?k14 ?a15 ?l15 ?c15 ?k15 ?a16 ?l16 ?c16 ?k16 ?a17 ?l17 ?c17 ?k17 ?a18 ?l18 ?c18 ?k18 ?a19 ?l19 ?c19 ?k19 ?a20 ?l20 ?c20 ?k20 ?z_abs ?z_all ?z_bool ?z_enumerate ?z_int ?z_isinstance ?z_len ?z_list ?z_range ?z_sorted ?z_str ?z_sum ?z_tuple ?z_zip ?q_COLOURS ?q_LETTERS ?q_METALS ?q_STRIPES
    (case a0 => k_is); (case l0 => k_is); (case c0 => k_is); (case k0 => k_is)
    (case a1 => k_is); (case l1 => k_is); (case c1 => k_is); (case k1 => k_is)
    (case a2 => k_is); (case l2 => k_is); (case c2 => k_is); (case k2 => k_is)
    (case a3 => k_is); (case l3 => k_is); (case c3 => k_is); (case k3 => k_is)
    (case a4 => k_is); (case l4 => k_is); (case c4 => k_is); (case k4 => k_is)
    (case a5 => k_is); (case l5 => k_is); (case c5 => k_is); (case k5 => k_is)
    (case a6 => k_is); (case l6 => k_is); (case c6 => k_is); (case k6 => k_is)
    (case a7 => k_is); (case l7 => k_is); (case c7 => k_is); (case k7 => k_is)
    (case a8 => k_is); (case l8 => k_is); (case c8 => k_is); (case k8 => k_is)
    (case a9 => k_is); (case l9 => k_is); (case c9 => k_is); (case k9 => k_is)
    (case a10 => k_is); (case l10 => k_is); (case c10 => k_is); (case k10 => k_is)
    (case a11 => k_is); (case l11 => k_is); (case c11 => k_is); (case k11 => k_is)
    (case a12 => k_is); (case l12 => k_is); (case c12 => k_is); (case k12 => k_is)
    (case a13 => k_is); (case l13 => k_is); (case c13 => k_is); (case k13 => k_is)
    (case a14 => k_is); (case l14 => k_is); (case c14 => k_is); (case k14 => k_is)
    (case a15 => k_is); (case l15 => k_is); (case c15 => k_is); (case k15 => k_is)
    (case a16 => k_is); (case l16 => k_is); (case c16 => k_is); (case k16 => k_is)
    (case a17 => k_is); (case l17 => k_is); (case c17 => k_is); (case k17 => k_is)
    (case a18 => k_is); (case l18 => k_is); (case c18 => k_is); (case k18 => k_is)
    (case a19 => k_is); (case l19 => k_is); (case c19 => k_is); (case k19 => k_is)
    (case a20 => k_is); (case l20 => k_is); (case c20 => k_is); (case k20 => k_is)
    (case z_abs => k_is)
    (case z_all => k_is)
    (case z_bool => k_is)
    (case z_enumerate => k_is)
    (case z_int => k_is)
    (case z_isinstance => k_is)
    (case z_len => k_is)
    (case z_list => k_is)
    (case z_range => k_is)
    (case z_sorted => k_is)
    (case z_str => k_is)
    (case z_sum => k_is)
    (case z_tuple => k_is)
    (case z_zip => k_is)
    (case q_COLOURS => rfl)
    (case q_LETTERS => rfl)
    (case q_METALS => rfl)
    (case q_STRIPES => rfl)
