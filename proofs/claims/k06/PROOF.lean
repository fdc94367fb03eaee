import PyProof.Rows.All
import Wide.All
import OpenK.AllK
import Wide.FinOn
import HandS.ForMost
import HandS.ForExc
import HandS.Deep
import HandS.TupLen
import HandS.Conv
import HandS.SortInts
import HandS.IsInst
import HandS.DictTup
import HandS.CallSlots
import HandS.ExcIs
import HandS.TryOnly
import HandS.ExcOwn
import PySem.Challenge.RW_heraldways_k06_a_walk
set_option Elab.async false
set_option linter.all false
set_option maxRecDepth 100000
namespace DL
open PySem L2
inductive D where
  | non | bl (b : Bool) | int (i : Int) | str (x : Str) | lst (xs : List D) | tup (xs : List D) | ref (a : Addr) | ty (n : String) | scr (ns : List Int)
inductive Cl where
  | ml (xs : List D)
  | dI (kvs : List (List Int × D))
  | dS (kvs : List (Str × D))
  | ins (C : Addr) (fs : List (Str × D))
abbrev Sto := Addr → Option Cl
abbrev Env' := List (Option D)
def su (S : Sto) (p : Addr) (c : Cl) : Sto := fun b => if b = p then some c else S b
def sd (S : Sto) (p : Addr) : Sto := fun b => if b = p then none else S b
theorem su_same {S : Sto} {p : Addr} {c : Cl} : su S p c p = some c := by unfold su; rw [if_pos rfl]
theorem su_ne {S : Sto} {p b : Addr} {c : Cl} (h : b ≠ p) : su S p c b = S b := by unfold su; rw [if_neg h]
theorem su_su {S : Sto} {p : Addr} {c c' : Cl} : su (su S p c) p c' = su S p c' := by
  funext b; unfold su; split <;> rfl
theorem sd_same {S : Sto} {p : Addr} : sd S p p = none := by unfold sd; rw [if_pos rfl]
theorem sd_ne {S : Sto} {p b : Addr} (h : b ≠ p) : sd S p b = S b := by unfold sd; rw [if_neg h]
theorem sd_su {S : Sto} {p : Addr} {c : Cl} (h : S p = none) : sd (su S p c) p = S := by
  funext b; unfold sd su; split
  · rename_i e; subst e; exact h.symm
  · rfl
theorem su_self {S : Sto} {p : Addr} {c : Cl} (h : S p = some c) : su S p c = S := by
  funext b; unfold su; split
  · rename_i e; subst e; exact h.symm
  · rfl
theorem su_comm {S : Sto} {p q : Addr} {c d : Cl} (h : p ≠ q) : su (su S p c) q d = su (su S q d) p c := by
  funext b
  by_cases e : b = p
  · subst e; rw [su_ne h, su_same, su_same]
  · by_cases e2 : b = q
    · subst e2; rw [su_same, su_ne e, su_same]
    · rw [su_ne e2, su_ne e, su_ne e, su_ne e2]
def wo (H : Hp) (S : Sto) : Hp := fun b => match S b with
  | some _ => none
  | none => H b
theorem wo_none {H : Hp} {S : Sto} {b : Addr} (h : S b = none) : wo H S b = H b := by unfold wo; rw [h]
theorem wo_some {H : Hp} {S : Sto} {b : Addr} {c : Cl} (h : S b = some c) : wo H S b = none := by unfold wo; rw [h]
theorem wo_le (H : Hp) (S : Sto) : Same (wo H S) H := fun b o e => by
  cases h : S b with
  | some c => rw [wo_some h] at e; cases e
  | none => rw [wo_none h] at e; exact e

mutual
def Rep (K : PySem.W.Frag) (G : Hp) : D → V → Prop
  | .non, v => v = .non
  | .bl b, v => v = .bl b
  | .int i, v => v = .int i
  | .str x, v => v = .str x
  | .ref a, v => v = .ref a
  | .ty n, v => v = .ty n
  | .lst ds, v => ∃ a vs, v = .ref a ∧ G a = some (.lst vs) ∧ Reps K G ds vs
  | .scr ns, v => ∃ a, v = .ref a ∧ SqL K G a (ns.map V.int)
  | .tup ds, v => ∃ a vs, v = .ref a ∧ G a = some (.tup vs) ∧ Reps K G ds vs
def Reps (K : PySem.W.Frag) (G : Hp) : List D → List V → Prop
  | [], vs => vs = []
  | d :: ds, vs => ∃ v r, vs = v :: r ∧ Rep K G d v ∧ Reps K G ds r
end
mutual
theorem Rep.mono {K : PySem.W.Frag} {G G' : Hp} (s : Same G G') : ∀ (d : D) (v : V), Rep K G d v → Rep K G' d v
  | .non, v, h => by simpa only [Rep] using h
  | .bl b, v, h => by simpa only [Rep] using h
  | .int i, v, h => by simpa only [Rep] using h
  | .str x, v, h => by simpa only [Rep] using h
  | .ref a, v, h => by simpa only [Rep] using h
  | .ty n, v, h => by simpa only [Rep] using h
  | .lst ds, v, h => by
    simp only [Rep] at h ⊢
    obtain ⟨a, vs, e, q, r⟩ := h
    exact ⟨a, vs, e, s _ _ q, Reps.mono s ds vs r⟩
  | .scr ns, v, h => by
    simp only [Rep] at h ⊢
    obtain ⟨a, e, q⟩ := h
    exact ⟨a, e, s.seq q⟩
  | .tup ds, v, h => by
    simp only [Rep] at h ⊢
    obtain ⟨a, vs, e, q, r⟩ := h
    exact ⟨a, vs, e, s _ _ q, Reps.mono s ds vs r⟩
theorem Reps.mono {K : PySem.W.Frag} {G G' : Hp} (s : Same G G') : ∀ (ds : List D) (vs : List V), Reps K G ds vs → Reps K G' ds vs
  | [], vs, h => by simpa only [Reps] using h
  | d :: ds, vs, h => by
    simp only [Reps] at h ⊢
    obtain ⟨v, r, e, q, t⟩ := h
    exact ⟨v, r, e, Rep.mono s d v q, Reps.mono s ds r t⟩
end
section
variable {K : PySem.W.Frag} {G G' : Hp}
theorem Reps.nil : Reps K G [] [] := by simp only [Reps]
theorem Reps.cons {d : D} {v : V} {ds : List D} {vs : List V} (h : Rep K G d v) (t : Reps K G ds vs) : Reps K G (d :: ds) (v :: vs) := by
  simp only [Reps]; exact ⟨v, vs, rfl, h, t⟩
theorem Reps.len : ∀ {ds : List D} {vs : List V}, Reps K G ds vs → ds.length = vs.length
  | [], vs, h => by simp only [Reps] at h; subst h; rfl
  | d :: ds, vs, h => by
    simp only [Reps] at h
    obtain ⟨v, r, rfl, _, t⟩ := h
    rw [List.length_cons, List.length_cons, Reps.len t]
theorem Reps.get : ∀ {ds : List D} {vs : List V} {i : Nat} {d : D}, Reps K G ds vs → ds[i]? = some d → ∃ v, vs[i]? = some v ∧ Rep K G d v
  | [], vs, i, d, h, e => by simp at e
  | d :: ds, vs, 0, d', h, e => by
    simp only [Reps] at h
    obtain ⟨v, r, rfl, q, t⟩ := h
    simp at e; subst e
    exact ⟨v, rfl, q⟩
  | d :: ds, vs, i + 1, d', h, e => by
    simp only [Reps] at h
    obtain ⟨v, r, rfl, q, t⟩ := h
    obtain ⟨v', e', q'⟩ := Reps.get (i := i) (d := d') t (by simpa using e)
    exact ⟨v', by simpa using e', q'⟩
theorem Reps.app : ∀ {ds es : List D} {vs us : List V}, Reps K G ds vs → Reps K G es us → Reps K G (ds ++ es) (vs ++ us)
  | [], es, vs, us, h, t => by simp only [Reps] at h; subst h; exact t
  | d :: ds, es, vs, us, h, t => by
    simp only [Reps] at h
    obtain ⟨v, r, rfl, q, s⟩ := h
    exact Reps.cons q (Reps.app s t)
theorem Reps.set {d : D} {v : V} (q : Rep K G d v) : ∀ {ds : List D} {vs : List V} (i : Nat), Reps K G ds vs → Reps K G (ds.set i d) (vs.set i v)
  | [], vs, i, h => by simp only [Reps] at h; subst h; simpa using Reps.nil
  | d' :: ds, vs, 0, h => by
    simp only [Reps] at h
    obtain ⟨v', r, rfl, q', s⟩ := h
    exact Reps.cons q s
  | d' :: ds, vs, i + 1, h => by
    simp only [Reps] at h
    obtain ⟨v', r, rfl, q', s⟩ := h
    exact Reps.cons q' (Reps.set q i s)
theorem Reps.take : ∀ {ds : List D} {vs : List V} (n : Nat), Reps K G ds vs → Reps K G (ds.take n) (vs.take n)
  | [], vs, n, h => by simp only [Reps] at h; subst h; simpa using Reps.nil
  | d :: ds, vs, 0, h => by simpa using Reps.nil
  | d :: ds, vs, n + 1, h => by
    simp only [Reps] at h
    obtain ⟨v, r, rfl, q, s⟩ := h
    exact Reps.cons q (Reps.take n s)
theorem Reps.drop : ∀ {ds : List D} {vs : List V} (n : Nat), Reps K G ds vs → Reps K G (ds.drop n) (vs.drop n)
  | [], vs, n, h => by simp only [Reps] at h; subst h; simpa using Reps.nil
  | d :: ds, vs, 0, h => h
  | d :: ds, vs, n + 1, h => by
    simp only [Reps] at h
    obtain ⟨v, r, rfl, q, s⟩ := h
    exact Reps.drop n s
theorem Reps.rev : ∀ {ds : List D} {vs : List V}, Reps K G ds vs → Reps K G ds.reverse vs.reverse
  | [], vs, h => by simp only [Reps] at h; subst h; exact Reps.nil
  | d :: ds, vs, h => by
    simp only [Reps] at h
    obtain ⟨v, r, rfl, q, s⟩ := h
    rw [List.reverse_cons, List.reverse_cons]
    exact Reps.app (Reps.rev s) (Reps.cons q Reps.nil)
theorem Reps.ints : ∀ {ns : List Int} {vs : List V}, Reps K G (ns.map D.int) vs → vs = ns.map V.int
  | [], vs, h => by simpa only [List.map_nil, Reps] using h
  | n :: ns, vs, h => by
    simp only [List.map_cons, Reps] at h
    obtain ⟨v, r, rfl, q, s⟩ := h
    simp only [Rep] at q
    rw [q, Reps.ints s]; rfl
theorem Reps.of_ints : ∀ (ns : List Int), Reps K G (ns.map D.int) (ns.map V.int)
  | [] => Reps.nil
  | n :: ns => Reps.cons (by simp only [Rep]) (Reps.of_ints ns)
theorem Reps.ints' {ns : List Int} : ∀ {ds : List D}, Reps K G ds (ns.map V.int) → ∀ ks : List Int, ds = ks.map D.int → ks = ns := fun {ds} h ks e => by
  subst e
  have h2 := Reps.ints h
  have : ∀ {a b : List Int}, a.map V.int = b.map V.int → a = b := by
    intro a
    induction a with
    | nil => intro b h; cases b with | nil => rfl | cons _ _ => simp at h
    | cons x xs ih =>
      intro b h
      cases b with
      | nil => simp at h
      | cons y ys =>
        simp only [List.map_cons, List.cons.injEq, V.int.injEq] at h
        rw [h.1, ih h.2]
  exact (this h2).symm
end
def CellOk (K : PySem.W.Frag) (H G : Hp) (a : Addr) : Cl → Prop
  | .ml ds => ∃ vs, H a = some (.lst vs) ∧ Reps K G ds vs
  | .dI kvs => ∃ vs, H a = some (.dT ((kvs.map fun p => p.1.map Sum.inl).zip vs)) ∧ Reps K G (kvs.map (·.2)) vs
  | .dS kvs => ∃ vs, H a = some (.dK ((kvs.map fun p => Sum.inr p.1).zip vs)) ∧ Reps K G (kvs.map (·.2)) vs
  | .ins C fs => ∃ dx vs, H a = some (.ins C dx ((fs.map (·.1)).zip vs)) ∧ Reps K G (fs.map (·.2)) vs
theorem CellOk.mono {K : PySem.W.Frag} {H H' G G' : Hp} {a : Addr} {c : Cl} (x : CellOk K H G a c) (h : ∀ o, H a = some o → H' a = some o) (s : Same G G') : CellOk K H' G' a c := by
  cases c with
  | ml ds => obtain ⟨vs, e, r⟩ := x; exact ⟨vs, h _ e, r.mono s⟩
  | dI kvs => obtain ⟨vs, e, r⟩ := x; exact ⟨vs, h _ e, r.mono s⟩
  | dS kvs => obtain ⟨vs, e, r⟩ := x; exact ⟨vs, h _ e, r.mono s⟩
  | ins C fs => obtain ⟨dx, vs, e, r⟩ := x; exact ⟨dx, vs, h _ e, r.mono s⟩
theorem CellOk.there {K : PySem.W.Frag} {H G : Hp} {a : Addr} {c : Cl} (x : CellOk K H G a c) : ∃ o, H a = some o := by
  cases c with
  | ml ds => obtain ⟨vs, e, r⟩ := x; exact ⟨_, e⟩
  | dI kvs => obtain ⟨vs, e, r⟩ := x; exact ⟨_, e⟩
  | dS kvs => obtain ⟨vs, e, r⟩ := x; exact ⟨_, e⟩
  | ins C fs => obtain ⟨dx, vs, e, r⟩ := x; exact ⟨_, e⟩
structure Nx (K : PySem.W.Frag) (G : Hp) (S : Sto) (H : Hp) : Prop where
  st : Same G (wo H S)
  ok : ∀ a c, S a = some c → CellOk K H (wo H S) a c
section
variable {K : PySem.W.Frag} {G G' H H' : Hp} {S S' : Sto} {p : Addr} {c : Cl}
theorem Nx.refl (x : Nx K G S H) : Nx K (wo H S) S H := ⟨Same.refl _, x.ok⟩
theorem Nx.trans (x : Nx K G S H) (y : Nx K (wo H S) S' H') : Nx K G S' H' := ⟨x.st.trans y.st, y.ok⟩
theorem Nx.le (x : Nx K G S H) (s : Same G' G) : Nx K G' S H := ⟨s.trans x.st, x.ok⟩
theorem Nx.free (x : Nx K G S H) (h : H p = none) : S p = none := by
  cases e : S p with
  | none => rfl
  | some c =>
    obtain ⟨o, q⟩ := (x.ok p c e).there
    rw [h] at q; cases q
theorem Nx.grow (x : Nx K G S H) (s : Same H H') : Nx K (wo H S) S H' := by
  have s2 : Same (wo H S) (wo H' S) := fun b o e => by
    cases h : S b with
    | some c => rw [wo_some h] at e; cases e
    | none => rw [wo_none h] at e ⊢; exact s _ _ e
  exact ⟨s2, fun a c e => (x.ok a c e).mono (fun o q => s _ _ q) s2⟩
theorem same_new {o : HO} (h : H p = none) : Same H (upd H p o) := fun b u e => by rw [upd_ne (ne_of_none e h)]; exact e
theorem Nx.alloc {o : HO} (x : Nx K G S H) (h : H p = none) : Nx K (wo H S) S (upd H p o) := x.grow (same_new h)
theorem wo_new {o : HO} (x : Nx K G S H) (h : H p = none) : wo (upd H p o) S p = some o := by rw [wo_none (x.free h)]; exact upd_same
theorem Nx.cell {o : HO} (x : Nx K G S H) (h : H p = none) (n : ∀ G', Same (wo H S) G' → CellOk K (upd H p o) G' p c) : Nx K (wo H S) (su S p c) (upd H p o) := by
  have s2 : Same (wo H S) (wo (upd H p o) (su S p c)) := fun b u e => by
    have q : H b = some u := wo_le _ _ _ _ e
    have nb : b ≠ p := ne_of_none q h
    cases e2 : S b with
    | some c => rw [wo_some e2] at e; cases e
    | none => rw [wo_none (by rw [su_ne nb]; exact e2), upd_ne nb]; exact q
  refine ⟨s2, fun a c' e => ?_⟩
  by_cases q : a = p
  · subst q
    rw [su_same] at e; cases e
    exact n _ s2
  · rw [su_ne q] at e
    exact (x.ok a c' e).mono (fun o r => by rw [upd_ne q]; exact r) s2
theorem wo_write {o : HO} {c0 : Cl} (h : S p = some c0) : wo (upd H p o) (su S p c) = wo H S := by
  funext b
  by_cases q : b = p
  · subst q
    rw [wo_some su_same, wo_some h]
  · unfold wo
    rw [su_ne q, upd_ne q]
theorem Nx.write {o : HO} {c0 : Cl} (x : Nx K G S H) (h : S p = some c0) (n : CellOk K (upd H p o) (wo H S) p c) : Nx K (wo H S) (su S p c) (upd H p o) := by
  have e0 := wo_write (H := H) (o := o) (c := c) h
  refine ⟨by rw [e0]; exact Same.refl _, fun a c' e => ?_⟩
  rw [e0]
  by_cases q : a = p
  · subst q
    rw [su_same] at e; cases e
    exact n
  · rw [su_ne q] at e
    exact (x.ok a c' e).mono (fun o r => by rw [upd_ne q]; exact r) (Same.refl _)
theorem Nx.less (x : Nx K G S H) (h : ∀ a c, S' a = some c → S a = some c) : Nx K (wo H S) S' H := by
  have s2 : Same (wo H S) (wo H S') := fun b u e => by
    have q : H b = some u := wo_le _ _ _ _ e
    cases e2 : S b with
    | some c => rw [wo_some e2] at e; cases e
    | none =>
      have e3 : S' b = none := by
        cases e4 : S' b with
        | none => rfl
        | some c => rw [h _ _ e4] at e2; cases e2
      rw [wo_none e3]; exact q
  exact ⟨s2, fun a c e => (x.ok a c (h _ _ e)).mono (fun o r => r) s2⟩
theorem Nx.frz {ds : List D} (x : Nx K G S H) (h : S p = some (.ml ds)) : Nx K (wo H S) (sd S p) H ∧ Rep K (wo H (sd S p)) (.lst ds) (.ref p) := by
  have n := x.less (S' := sd S p) fun a c e => by
    unfold sd at e
    split at e
    · cases e
    · exact e
  refine ⟨n, ?_⟩
  obtain ⟨vs, e, r⟩ := x.ok p _ h
  simp only [Rep]
  exact ⟨p, vs, rfl, by rw [wo_none sd_same]; exact e, r.mono n.st⟩
end
def REnv (K : PySem.W.Frag) (G : Hp) (ρ : Env') (σ : St) : Prop := ρ.length = σ.length ∧ ∀ (i : Nat) (d : D), ρ[i]? = some (some d) → ∃ v : V, σ[i]? = some (some v) ∧ Rep K G d v
structure Stt (K : PySem.W.Frag) (G0 : Hp) (ρ : Env') (S : Sto) (σ : St) (H : Hp) : Prop where
  env : REnv K (wo H S) ρ σ
  nx : Nx K G0 S H
section
variable {K : PySem.W.Frag} {G G0 G' H H' : Hp} {S S' : Sto} {ρ : Env'} {σ : St}
theorem REnv.mono (x : REnv K G ρ σ) (s : Same G G') : REnv K G' ρ σ := ⟨x.1, fun i d e => by
  obtain ⟨v, e', r⟩ := x.2 i d e
  exact ⟨v, e', r.mono s⟩⟩
theorem REnv.set {i : Nat} {d : D} {v : V} (x : REnv K G ρ σ) (r : Rep K G d v) : REnv K G (ρ.set i (some d)) (σ.set i (some v)) := by
  refine ⟨by rw [List.length_set, List.length_set]; exact x.1, fun j e h => ?_⟩
  rw [List.getElem?_set] at h ⊢
  by_cases q : i = j
  · subst q
    rw [if_pos rfl] at h ⊢
    by_cases l : i < ρ.length
    · rw [if_pos l] at h
      rw [if_pos (by rw [← x.1]; exact l)]
      cases h
      exact ⟨v, rfl, r⟩
    · rw [if_neg l] at h; cases h
  · rw [if_neg q] at h ⊢
    exact x.2 j e h
theorem REnv.wipe (x : REnv K G ρ σ) (i : Nat) : REnv K G (ρ.set i none) (σ.set i none) := by
  refine ⟨by rw [List.length_set, List.length_set]; exact x.1, fun j e h => ?_⟩
  rw [List.getElem?_set] at h ⊢
  by_cases q : i = j
  · subst q
    rw [if_pos rfl] at h
    split at h <;> cases h
  · rw [if_neg q] at h ⊢
    exact x.2 j e h
theorem REnv.wipe' {i : Nat} (x : REnv K G ρ σ) : REnv K G (ρ.set i none) σ := by
  refine ⟨by rw [List.length_set]; exact x.1, fun j e h => ?_⟩
  rw [List.getElem?_set] at h
  by_cases q : i = j
  · subst q
    rw [if_pos rfl] at h
    split at h <;> cases h
  · rw [if_neg q] at h
    exact x.2 j e h
theorem Stt.next (x : Stt K G0 ρ S σ H) (y : Nx K (wo H S) S' H') : Stt K G0 ρ S' σ H' := ⟨x.env.mono y.st, x.nx.trans y⟩
theorem Stt.refl (x : Stt K G0 ρ S σ H) : Nx K (wo H S) S H := x.nx.refl
end
abbrev TDE := Env' → Sto → (D → Sto → Prop) → Prop
abbrev TDT := Env' → Sto → (Bool → Sto → Prop) → Prop
abbrev TDA := Env' → Sto → (List D → Sto → Prop) → Prop
structure DEnds where
  nx : Env' → Sto → Prop
  rt : D → Sto → Prop
  bk : Env' → Sto → Prop := fun _ _ => False
  ct : Env' → Sto → Prop := fun _ _ => False
abbrev TDS := DEnds → Env' → Sto → Prop
abbrev WD := Addr → Env' → Sto → Prop

def upE (K : PySem.W.Frag) (G0 : Hp) (t : TDE) : TE := fun σ H Q => ∃ ρ S P, Stt K G0 ρ S σ H ∧ t ρ S P ∧
  ∀ d S' v H', P d S' → Nx K (wo H S) S' H' → Rep K (wo H' S') d v → Q v H'
def upT (K : PySem.W.Frag) (G0 : Hp) (t : TDT) : TT := fun σ H Q => ∃ ρ S P, Stt K G0 ρ S σ H ∧ t ρ S P ∧
  ∀ b S' H', P b S' → Nx K (wo H S) S' H' → Q b H'
def upA (K : PySem.W.Frag) (G0 : Hp) (t : TDA) : TA := fun σ H Q => ∃ ρ S P, Stt K G0 ρ S σ H ∧ t ρ S P ∧
  ∀ ds S' vs H', P ds S' → Nx K (wo H S) S' H' → Reps K (wo H' S') ds vs → Q vs H'
structure EndsUp (K : PySem.W.Frag) (G0 : Hp) (dD : DEnds) (D : Ends) : Prop where
  nx : ∀ ρ S σ H, dD.nx ρ S → Stt K G0 ρ S σ H → D.nx σ H
  rt : ∀ d S v H, dD.rt d S → Nx K G0 S H → Rep K (wo H S) d v → D.rt v H
  bk : ∀ ρ S σ H, dD.bk ρ S → Stt K G0 ρ S σ H → D.bk σ H
  ct : ∀ ρ S σ H, dD.ct ρ S → Stt K G0 ρ S σ H → D.ct σ H
def upS (K : PySem.W.Frag) (G0 : Hp) (t : TDS) : TS := fun D σ H => ∃ ρ S dD, Stt K G0 ρ S σ H ∧ t dD ρ S ∧ EndsUp K G0 dD D
def upW (K : PySem.W.Frag) (G0 : Hp) (W : WD) : WX := fun cls d σ H => ∃ ρ S C, cls = .ref C ∧ d = none ∧ Stt K G0 ρ S σ H ∧ W C ρ S
abbrev DE (X : Cx) (G0 : Hp) (e : Expr) (t : TDE) : Prop := PE X e (upE X.K G0 t)
abbrev DT (X : Cx) (G0 : Hp) (e : Expr) (t : TDT) : Prop := PT X e (upT X.K G0 t)
abbrev DW (X : Cx) (G0 : Hp) (e : Expr) (t : TDT) : Prop := PW X e (upT X.K G0 t)
abbrev DA (X : Cx) (G0 : Hp) (es : List Expr) (t : TDA) : Prop := PA X es (upA X.K G0 t)
abbrev DS (X : Cx) (G0 : Hp) (st : Stmt) (t : TDS) : Prop := PS X st (upS X.K G0 t)
abbrev DSs (X : Cx) (G0 : Hp) (st : List Stmt) (t : TDS) : Prop := PSs X st (upS X.K G0 t)

section
variable {X : Cx}
theorem PE.imp {e : Expr} {t t' : TE} (h : PE X e t) (f : ∀ σ H Q, t' σ H Q → t σ H Q) : PE X e t' := ⟨fun pins s σ H Q I w => h.run pins s σ H Q I (f _ _ _ w)⟩
theorem PT.imp {e : Expr} {t t' : TT} (h : PT X e t) (f : ∀ σ H Q, t' σ H Q → t σ H Q) : PT X e t' := ⟨fun pins s σ H Q I w => h.run pins s σ H Q I (f _ _ _ w)⟩
theorem PW.imp {e : Expr} {t t' : TT} (h : PW X e t) (f : ∀ σ H Q, t' σ H Q → t σ H Q) : PW X e t' := ⟨fun wh pins s σ H Q I w => h.run wh pins s σ H Q I (f _ _ _ w)⟩
theorem PA.imp {e : List Expr} {t t' : TA} (h : PA X e t) (f : ∀ σ H Q, t' σ H Q → t σ H Q) : PA X e t' := ⟨fun pos pins s σ H Q I w => h.run pos pins s σ H Q I (f _ _ _ w)⟩
theorem PS.imp {e : Stmt} {t t' : TS} (h : PS X e t) (f : ∀ D σ H, t' D σ H → t D σ H) : PS X e t' := ⟨fun pins s σ H D I w => h.run pins s σ H D I (f _ _ _ w)⟩
theorem PSs.imp {e : List Stmt} {t t' : TS} (h : PSs X e t) (f : ∀ D σ H, t' D σ H → t D σ H) : PSs X e t' := ⟨fun pins s σ H D I w => h.run pins s σ H D I (f _ _ _ w)⟩
theorem PE.or {e : Expr} {t t' : TE} (h : PE X e t) (h' : PE X e t') : PE X e (fun σ H Q => t σ H Q ∨ t' σ H Q) := ⟨fun pins s σ H Q I w => w.elim (h.run pins s σ H Q I) (h'.run pins s σ H Q I)⟩
theorem PS.or {e : Stmt} {t t' : TS} (h : PS X e t) (h' : PS X e t') : PS X e (fun D σ H => t D σ H ∨ t' D σ H) := ⟨fun pins s σ H D I w => w.elim (h.run pins s σ H D I) (h'.run pins s σ H D I)⟩
theorem PT.or {e : Expr} {t t' : TT} (h : PT X e t) (h' : PT X e t') : PT X e (fun σ H Q => t σ H Q ∨ t' σ H Q) := ⟨fun pins s σ H Q I w => w.elim (h.run pins s σ H Q I) (h'.run pins s σ H Q I)⟩
end
end DL
namespace DL
open PySem L2
def vm (S : Sto) : D → Option (List D)
  | .lst xs => some xs
  | .ref p => match S p with
    | some (.ml xs) => some xs
    | _ => none
  | _ => none
def vl (S : Sto) : D → Option (List D)
  | .scr ns => some (ns.map .int)
  | d => vm S d
def rs (S : Sto) (d : D) : D := match vm S d with
  | some xs => .lst xs
  | none => d
def newL (m : Bool) (xs : List D) (S : Sto) (P : D → Sto → Prop) : Prop := match m with
  | true => ∀ p, S p = none → P (.ref p) (su S p (.ml xs))
  | false => P (.lst xs) S
abbrev Owe (K : PySem.W.Frag) (S : Sto) (H : Hp) (P : D → Sto → Prop) (Q : VK) : Prop := ∀ d S' v H', P d S' → Nx K (wo H S) S' H' → Rep K (wo H' S') d v → Q v H'
section
variable {K : PySem.W.Frag} {G H : Hp} {S : Sto} {d : D} {v : V} {xs : List D} {vs : List V} {P : D → Sto → Prop} {Q : VK} {p : Addr}
theorem vm_rep (x : Nx K G S H) (r : Rep K (wo H S) d v) (e : vm S d = some xs) : ∃ a vs, v = .ref a ∧ H a = some (.lst vs) ∧ Reps K (wo H S) xs vs := by
  cases d with
  | lst ys =>
    cases e
    simp only [Rep] at r
    obtain ⟨a, vs, e1, q, t⟩ := r
    exact ⟨a, vs, e1, wo_le H S _ _ q, t⟩
  | ref p =>
    simp only [Rep] at r
    cases h : S p with
    | none => simp only [vm, h] at e; cases e
    | some c =>
      cases c with
      | ml ys =>
        simp only [vm, h] at e
        cases e
        obtain ⟨vs, q, t⟩ := x.ok p _ h
        exact ⟨p, vs, r, q, t⟩
      | dI _ => simp only [vm, h] at e; cases e
      | dS _ => simp only [vm, h] at e; cases e
      | ins _ _ => simp only [vm, h] at e; cases e
  | _ => cases e
theorem vl_rep (x : Nx K G S H) (r : Rep K (wo H S) d v) (e : vl S d = some xs) : ∃ a vs, v = .ref a ∧ SqL K H a vs ∧ Reps K (wo H S) xs vs := by
  have go : vm S d = some xs → ∃ a vs, v = .ref a ∧ SqL K H a vs ∧ Reps K (wo H S) xs vs := fun e => by
    obtain ⟨a, vs, h1, h2, h3⟩ := vm_rep x r e
    exact ⟨a, vs, h1, SqL.of h2, h3⟩
  cases d with
  | scr ns =>
    cases e
    simp only [Rep] at r
    obtain ⟨a, e1, q⟩ := r
    exact ⟨a, _, e1, (wo_le H S).seq q, Reps.of_ints ns⟩
  | _ => exact go e
theorem newL_ok {m : Bool} (x : Nx K G S H) (r : Reps K (wo H S) xs vs) (hp : H p = none) (h : newL m xs S P) (o : Owe K S H P Q) : Q (.ref p) (upd H p (.lst vs)) := by
  cases m with
  | false =>
    have n := x.alloc (o := .lst vs) hp
    exact o _ _ _ _ h n (by simp only [Rep]; exact ⟨p, vs, rfl, wo_new x hp, r.mono n.st⟩)
  | true =>
    have n := x.cell (c := .ml xs) (o := .lst vs) hp fun G' s => ⟨vs, upd_same, r.mono s⟩
    exact o _ _ _ _ (h p (x.free hp)) n (by simp only [Rep])
theorem newT_ok (x : Nx K G S H) (r : Reps K (wo H S) xs vs) (hp : H p = none) (h : P (.tup xs) S) (o : Owe K S H P Q) : Q (.ref p) (upd H p (.tup vs)) := by
  have n := x.alloc (o := .tup vs) hp
  exact o _ _ _ _ h n (by simp only [Rep]; exact ⟨p, vs, rfl, wo_new x hp, r.mono n.st⟩)
theorem Owe.now (o : Owe K S H P Q) (x : Nx K G S H) (h : P d S) (r : Rep K (wo H S) d v) : Q v H := o _ _ _ _ h x.refl r
end
def dVar (i : Nat) : TDE := fun ρ S P => match ρ[i]? with
  | some (some d) => P d S
  | _ => False
def dC (d : D) : TDE := fun _ S P => P d S
section
variable {X : Cx} {G0 : Hp} {pos : Pos}
theorem de_of_var {e : Expr} {i : Nat} (h : PE X e (tVar i)) : DE X G0 e (dVar i) := PE.imp h fun σ H Q ⟨ρ, S, P, st, t, o⟩ => by
  unfold dVar at t
  cases e : ρ[i]? with
  | none => rw [e] at t; exact t.elim
  | some z =>
    cases z with
    | none => rw [e] at t; exact t.elim
    | some d =>
      rw [e] at t
      obtain ⟨v, ev, r⟩ := st.env.2 i d e
      exact ⟨v, ev, o _ _ _ _ t st.refl r⟩
theorem dv (i : Nat) {x : Str} (hN : X.N[i]? = some x := by rfl) (hv : Vis X.env.scope x := by first | exact Or.inl rfl | exact Or.inr (Or.inl rfl) | exact Or.inr (Or.inr rfl)) (hd : (x == ("__debug__" : Str)) = false := by decide)
    (hcd : (x == ("__classdict__" : Str)) = false := by decide) : DE X G0 (.Name x pos) (dVar i) := de_of_var (pe_var hN hv hd hcd)
theorem de_of_C {e : Expr} {v : V} {d : D} (h : PE X e (tC v)) (r : ∀ K G, Rep K G d v) : DE X G0 e (dC d) := PE.imp h fun σ H Q ⟨ρ, S, P, st, t, o⟩ => o _ _ _ _ t st.refl (r _ _)
theorem de_int {i j pos} : DE X G0 (.Constant (.int i) j pos) (dC (.int i)) := de_of_C pe_int fun _ _ => by simp only [Rep]
theorem de_bl {b j pos} : DE X G0 (.Constant (.bool b) j pos) (dC (.bl b)) := de_of_C pe_bl fun _ _ => by simp only [Rep]
theorem de_non {j pos} : DE X G0 (.Constant .none j pos) (dC .non) := de_of_C pe_non fun _ _ => by simp only [Rep]
theorem de_str {x j pos} : DE X G0 (.Constant (.str x) j pos) (dC (.str x)) := de_of_C pe_str fun _ _ => by simp only [Rep]
theorem de_cls {x : Str} {C : Addr} (hg : Gl X x) (hm : X.mg x = some (.ref C)) (hd : (x == ("__debug__" : Str)) = false := by decide) : DE X G0 (.Name x pos) (dC (.ref C)) :=
  de_of_C (v := .ref C) (pe_glob hg hm rfl hd) fun _ _ => by simp only [Rep]
theorem de_gstr {x : Str} {z : Str} {t : Tok} (hg : Gl X x) (hm : X.mg x = some (.str z t)) (hd : (x == ("__debug__" : Str)) = false := by decide) : DE X G0 (.Name x pos) (dC (.str z)) :=
  de_of_C (v := .str z) (pe_glob hg hm ⟨t, rfl⟩ hd) fun _ _ => by simp only [Rep]
theorem de_ty {x : Str} {n : String} (hg : Gl X x) (hm : X.mg x = none) (hv : bootBuiltins x = some (.type n)) (hn : x ≠ "__name__" := by decide) (hd : (x == ("__debug__" : Str)) = false := by decide) : DE X G0 (.Name x pos) (dC (.ty n)) :=
  de_of_C (v := .ty n) (pe_bltn hg hm hv rfl hn hd) fun _ _ => by simp only [Rep]
end
abbrev R2D := D → D → Sto → (D → Sto → Prop) → Prop
def dOp (r : R2D) (ta tb : TDE) : TDE := fun ρ S P => ta ρ S fun x S1 => tb ρ S1 fun y S2 => r x y S2 P
def Lift2 (K : PySem.W.Frag) (r : R2) (r' : R2D) : Prop := ∀ x y u v G S H P Q, Nx K G S H → Rep K (wo H S) x u → Rep K (wo H S) y v → r' x y S P → Owe K S H P Q → r u v H Q
section
variable {X : Cx} {G0 : Hp} {pos : Pos} {a b : Expr} {ta tb : TDE} {r : R2} {r' : R2D}
theorem up_op (hl : Lift2 X.K r r') (σ : St) (H : Hp) (Q : VK) (h : upE X.K G0 (dOp r' ta tb) σ H Q) : tOp r (upE X.K G0 ta) (upE X.K G0 tb) σ H Q := by
  obtain ⟨ρ, S, P, st, t, o⟩ := h
  refine ⟨ρ, S, _, st, t, fun d1 S1 v1 H1 t1 n1 r1 => ⟨ρ, S1, _, st.next n1, t1, fun d2 S2 v2 H2 t2 n2 r2 => ?_⟩⟩
  exact hl d1 d2 v1 v2 _ S2 H2 P Q n2 (r1.mono n2.st) r2 t2 fun d S' v H' p n3 r3 => o _ _ _ _ p (n1.trans (n2.trans n3)) r3
theorem de_op {op : Operator} (ho : OpR X (binaryOp op) r) (hl : Lift2 X.K r r') (ha : DE X G0 a ta) (hb : DE X G0 b tb) : DE X G0 (.BinOp a op b pos) (dOp r' ta tb) :=
  PE.imp (pe_op ho ha hb) (up_op hl)
theorem de_cmp {op : CmpOp} (ho : OpR X (compareOp op) r) (hl : Lift2 X.K r r') (ha : DE X G0 a ta) (hb : DE X G0 b tb) (hm : behindInMarks op b = false) : DE X G0 (.Compare a [op] [b] pos) (dOp r' ta tb) :=
  PE.imp (pe_cmpR ho ha hb hm) (up_op hl)
def dB (t : TDE) : TDT := fun ρ S P => t ρ S fun x S1 => match x with
  | .bl c => P c S1
  | _ => False
theorem up_test {t : TDE} {tt : TE} (h : ∀ σ H Q, upE X.K G0 t σ H Q → tt σ H Q) (σ : St) (H : Hp) (Q : Bool → Hp → Prop) (g : upT X.K G0 (dB t) σ H Q) : tTest tt σ H Q := by
  obtain ⟨ρ, S, P, st, t, o⟩ := g
  refine h σ H _ ⟨ρ, S, _, st, t, fun d S1 v H1 t1 n1 r1 => ?_⟩
  cases d with
  | bl c => simp only [Rep] at r1; exact ⟨c, r1, o _ _ _ t1 n1⟩
  | _ => exact t1.elim
theorem dt_cmp {op : CmpOp} (ho : OpR X (compareOp op) r) (hl : Lift2 X.K r r') (ha : DE X G0 a ta) (hb : DE X G0 b tb) (hm : behindInMarks op b = false) : DT X G0 (.Compare a [op] [b] pos) (dB (dOp r' ta tb)) :=
  PT.imp (pt_cmpR ho ha hb hm) (up_test (up_op hl))
theorem de_ix (ho : IxR X r) (hl : Lift2 X.K r r') (ha : DE X G0 a ta) (hb : DE X G0 b tb) (hs : PlainIx b) : DE X G0 (.Subscript a b pos) (dOp r' ta tb) :=
  PE.imp (pe_ix ho ha hb hs) (up_op hl)
end
theorem Lift2.or {K : PySem.W.Frag} {r s : R2} {r' s' : R2D} (h : Lift2 K r r') (h' : Lift2 K s s') : Lift2 K (fun x y H Q => r x y H Q ∨ s x y H Q) (fun x y S P => r' x y S P ∨ s' x y S P) :=
  fun x y u v G S H P Q n ru rv t o => t.elim (fun t => .inl (h x y u v G S H P Q n ru rv t o)) fun t => .inr (h' x y u v G S H P Q n ru rv t o)
theorem Lift2.imp {K : PySem.W.Frag} {r : R2} {r' s' : R2D} (h : Lift2 K r r') (f : ∀ x y S P, s' x y S P → r' x y S P) : Lift2 K r s' :=
  fun x y u v G S H P Q n ru rv t o => h x y u v G S H P Q n ru rv (f _ _ _ _ t) o
def iiD (C : Int → Int → Prop) (g : Int → Int → D) : R2D := fun x y S P => match x, y with
  | .int i, .int j => C i j ∧ P (g i j) S
  | _, _ => False
def iiD0 (g : Int → Int → D) : R2D := fun x y S P => match x, y with
  | .int i, .int j => P (g i j) S
  | _, _ => False
theorem lift_ii {K : PySem.W.Frag} {C : Int → Int → Prop} {g : Int → Int → V} {g' : Int → Int → D} (hg : ∀ i j K G, Rep K G (g' i j) (g i j)) : Lift2 K (rI C g) (iiD C g') := by
  intro x y u v G S H P Q n ru rv t o
  cases x with
  | int i =>
    cases y with
    | int j =>
      simp only [Rep] at ru rv
      exact ⟨i, j, ru, rv, t.1, o.now n t.2 (hg _ _ _ _)⟩
    | _ => exact t.elim
  | _ => exact t.elim
theorem lift_ii0 {K : PySem.W.Frag} {g : Int → Int → V} {g' : Int → Int → D} (hg : ∀ i j K G, Rep K G (g' i j) (g i j)) : Lift2 K (rI0 g) (iiD0 g') := by
  intro x y u v G S H P Q n ru rv t o
  cases x with
  | int i =>
    cases y with
    | int j =>
      simp only [Rep] at ru rv
      exact ⟨i, j, ru, rv, o.now n t (hg _ _ _ _)⟩
    | _ => exact t.elim
  | _ => exact t.elim
def subD : R2D := iiD0 fun i j => .int (i - j)
def mulD : R2D := iiD CMul fun i j => .int (i * j)
def fdivD : R2D := iiD CDiv fun i j => .int (i / j)
def modD : R2D := iiD (fun _ j => 0 < j) fun i j => .int (i % j)
def shrD : R2D := iiD (fun _ j => 0 ≤ j) fun i j => .int (i / 2 ^ j.toNat)
def powD : R2D := iiD CPow fun i j => .int (i ^ j.toNat)
def ltI : R2D := iiD0 fun i j => .bl (decide (i < j))
def leI : R2D := iiD0 fun i j => .bl (decide (i ≤ j))
def gtI : R2D := iiD0 fun i j => .bl (decide (j < i))
def geI : R2D := iiD0 fun i j => .bl (decide (j ≤ i))
def addI : R2D := iiD0 fun i j => .int (i + j)
def catD (m : Bool) : R2D := fun x y S P => match vm S x, vm S y with
  | some xs, some ys => xs.length + ys.length ≤ sizeLine ∧ newL m (xs ++ ys) S P
  | _, _ => False
def scatD : R2D := fun x y S P => match x, y with
  | .str i, .str j => i.length + j.length ≤ sizeLine ∧ P (.str (i ++ j)) S
  | _, _ => False
def addD (m : Bool) : R2D := fun x y S P => match x with
  | .int _ => addI x y S P
  | .str _ => scatD x y S P
  | _ => catD m x y S P

theorem lift_add {K : PySem.W.Frag} {m : Bool} : Lift2 K (fun x y H Q => (rI0 (fun i j => .int (i + j)) x y H Q ∨ (∃ i j, x = .str i ∧ y = .str j ∧ i.length + j.length ≤ sizeLine ∧ Q (.str (i ++ j)) H)) ∨ rCat x y H Q) (addD m) := by
  intro x y u v G S H P Q n ru rv t o
  have cat : catD m x y S P → rCat u v H Q := fun t => by
    unfold catD at t
    cases e1 : vm S x with
    | none => rw [e1] at t; exact t.elim
    | some xs =>
      cases e2 : vm S y with
      | none => rw [e1, e2] at t; exact t.elim
      | some ys =>
        rw [e1, e2] at t
        obtain ⟨a, vs, rfl, ha, r1⟩ := vm_rep n ru e1
        obtain ⟨b, us, rfl, hb, r2⟩ := vm_rep n rv e2
        exact ⟨a, b, vs, us, rfl, rfl, ha, hb, by rw [← r1.len, ← r2.len]; exact t.1, fun p hp => newL_ok n (r1.app r2) hp t.2 o⟩
  cases x with
  | int i => exact .inl (.inl (lift_ii0 (g' := fun i j => D.int (i + j)) (fun _ _ _ _ => by simp only [Rep]) _ y u v G S H P Q n ru rv t o))
  | str i =>
    cases y with
    | str j =>
      simp only [Rep] at ru rv
      exact .inl (.inr ⟨i, j, ru, rv, t.1, o.now n t.2 (by simp only [Rep])⟩)
    | _ => exact t.elim
  | _ => exact .inr (cat t)
section
variable {X : Cx} {G0 : Hp} {pos : Pos} {a b : Expr} {ta tb : TDE}
theorem de_add (m : Bool) (ha : DE X G0 a ta) (hb : DE X G0 b tb) : DE X G0 (.BinOp a .Add b pos) (dOp (addD m) ta tb) := de_op ((op_add.or op_add_str).or op_cat) lift_add ha hb
theorem de_sub (ha : DE X G0 a ta) (hb : DE X G0 b tb) : DE X G0 (.BinOp a .Sub b pos) (dOp subD ta tb) := de_op op_sub (lift_ii0 fun _ _ _ _ => by simp only [Rep]) ha hb
theorem de_mul (ha : DE X G0 a ta) (hb : DE X G0 b tb) : DE X G0 (.BinOp a .Mult b pos) (dOp mulD ta tb) := de_op op_mul (lift_ii fun _ _ _ _ => by simp only [Rep]) ha hb
theorem de_fdiv (ha : DE X G0 a ta) (hb : DE X G0 b tb) : DE X G0 (.BinOp a .FloorDiv b pos) (dOp fdivD ta tb) := de_op op_fdiv (lift_ii fun _ _ _ _ => by simp only [Rep]) ha hb
theorem de_mod (ha : DE X G0 a ta) (hb : DE X G0 b tb) : DE X G0 (.BinOp a .Mod b pos) (dOp modD ta tb) := de_op op_mod (lift_ii fun _ _ _ _ => by simp only [Rep]) ha hb
theorem de_shr (ha : DE X G0 a ta) (hb : DE X G0 b tb) : DE X G0 (.BinOp a .RShift b pos) (dOp shrD ta tb) := de_op op_shr (lift_ii fun _ _ _ _ => by simp only [Rep]) ha hb
theorem de_pow (ha : DE X G0 a ta) (hb : DE X G0 b tb) : DE X G0 (.BinOp a .Pow b pos) (dOp powD ta tb) := de_op op_pow (lift_ii fun _ _ _ _ => by simp only [Rep]) ha hb
theorem de_lt (ha : DE X G0 a ta) (hb : DE X G0 b tb) : DE X G0 (.Compare a [.Lt] [b] pos) (dOp ltI ta tb) := de_cmp op_lt (lift_ii0 fun _ _ _ _ => by simp only [Rep]) ha hb (nomark _)
theorem dt_lt (ha : DE X G0 a ta) (hb : DE X G0 b tb) : DT X G0 (.Compare a [.Lt] [b] pos) (dB (dOp ltI ta tb)) := dt_cmp op_lt (lift_ii0 fun _ _ _ _ => by simp only [Rep]) ha hb (nomark _)
theorem de_le (ha : DE X G0 a ta) (hb : DE X G0 b tb) : DE X G0 (.Compare a [.LtE] [b] pos) (dOp leI ta tb) := de_cmp op_le (lift_ii0 fun _ _ _ _ => by simp only [Rep]) ha hb (nomark _)
theorem dt_le (ha : DE X G0 a ta) (hb : DE X G0 b tb) : DT X G0 (.Compare a [.LtE] [b] pos) (dB (dOp leI ta tb)) := dt_cmp op_le (lift_ii0 fun _ _ _ _ => by simp only [Rep]) ha hb (nomark _)
theorem de_gt (ha : DE X G0 a ta) (hb : DE X G0 b tb) : DE X G0 (.Compare a [.Gt] [b] pos) (dOp gtI ta tb) := de_cmp op_gt (lift_ii0 fun _ _ _ _ => by simp only [Rep]) ha hb (nomark _)
theorem dt_gt (ha : DE X G0 a ta) (hb : DE X G0 b tb) : DT X G0 (.Compare a [.Gt] [b] pos) (dB (dOp gtI ta tb)) := dt_cmp op_gt (lift_ii0 fun _ _ _ _ => by simp only [Rep]) ha hb (nomark _)
theorem de_ge (ha : DE X G0 a ta) (hb : DE X G0 b tb) : DE X G0 (.Compare a [.GtE] [b] pos) (dOp geI ta tb) := de_cmp op_ge (lift_ii0 fun _ _ _ _ => by simp only [Rep]) ha hb (nomark _)
theorem dt_ge (ha : DE X G0 a ta) (hb : DE X G0 b tb) : DT X G0 (.Compare a [.GtE] [b] pos) (dB (dOp geI ta tb)) := dt_cmp op_ge (lift_ii0 fun _ _ _ _ => by simp only [Rep]) ha hb (nomark _)
def dIsN (ta : TDE) : TDE := fun ρ S P => ta ρ S fun x S1 => match x with
  | .non => P (.bl true) S1
  | _ => P (.bl false) S1
def dNotN (ta : TDE) : TDE := fun ρ S P => ta ρ S fun x S1 => match x with
  | .non => P (.bl false) S1
  | _ => P (.bl true) S1
def isN : D → Bool
  | .non => true
  | _ => false
theorem isN_rep {K : PySem.W.Frag} {G : Hp} {d : D} {v : V} (r : Rep K G d v) : decide (v = .non) = isN d := by
  cases d with
  | non => simp only [Rep] at r; subst r; rfl
  | lst ds => simp only [Rep] at r; obtain ⟨a, vs, rfl, _⟩ := r; rfl
  | tup ds => simp only [Rep] at r; obtain ⟨a, vs, rfl, _⟩ := r; rfl
  | scr ns => simp only [Rep] at r; obtain ⟨a, rfl, _⟩ := r; rfl
  | _ => simp only [Rep] at r; subst r; rfl
theorem up_isN (σ : St) (H : Hp) (Q : VK) (h : upE X.K G0 (dIsN ta) σ H Q) : tIsN (upE X.K G0 ta) σ H Q :=
  let ⟨ρ, S, P, st, t, o⟩ := h
  ⟨ρ, S, _, st, t, fun d S1 v H1 t1 n1 r1 => by
    show Q (V.bl (decide (v = V.non))) H1
    rw [isN_rep r1]
    refine o (.bl (isN d)) S1 _ H1 ?_ n1 (by simp only [Rep])
    cases d <;> exact t1⟩
theorem up_notN (σ : St) (H : Hp) (Q : VK) (h : upE X.K G0 (dNotN ta) σ H Q) : tNotN (upE X.K G0 ta) σ H Q :=
  let ⟨ρ, S, P, st, t, o⟩ := h
  ⟨ρ, S, _, st, t, fun d S1 v H1 t1 n1 r1 => by
    show Q (V.bl (!decide (v = V.non))) H1
    rw [isN_rep r1]
    refine o (.bl (!isN d)) S1 _ H1 ?_ n1 (by simp only [Rep])
    cases d <;> exact t1⟩
theorem de_isN {j pos'} (ha : DE X G0 a ta) : DE X G0 (.Compare a [.Is] [.Constant .none j pos'] pos) (dIsN ta) := PE.imp (pe_cmp (pc_isN ha) rfl) up_isN
theorem de_notN {j pos'} (ha : DE X G0 a ta) : DE X G0 (.Compare a [.IsNot] [.Constant .none j pos'] pos) (dNotN ta) := PE.imp (pe_cmp (pc_notN ha) rfl) up_notN
theorem dt_isN {j pos'} (ha : DE X G0 a ta) : DT X G0 (.Compare a [.Is] [.Constant .none j pos'] pos) (dB (dIsN ta)) := PT.imp (pt_cmp (pc_isN ha) rfl) (up_test up_isN)
theorem dt_notN {j pos'} (ha : DE X G0 a ta) : DT X G0 (.Compare a [.IsNot] [.Constant .none j pos'] pos) (dB (dNotN ta)) := PT.imp (pt_cmp (pc_notN ha) rfl) (up_test up_notN)
def dNeg (ta : TDE) : TDE := fun ρ S P => ta ρ S fun x S1 => match x with
  | .int i => P (.int (-i)) S1
  | _ => False
theorem de_neg (ha : DE X G0 a ta) : DE X G0 (.UnaryOp .USub a pos) (dNeg ta) := PE.imp (pe_un un_neg ha) fun σ H Q ⟨ρ, S, P, st, t, o⟩ =>
  ⟨ρ, S, _, st, t, fun d S1 v H1 t1 n1 r1 => by
    cases d with
    | int i =>
      simp only [Rep] at r1
      exact ⟨i, r1, o _ _ _ _ t1 n1 (by simp only [Rep])⟩
    | _ => exact t1.elim⟩
end
mutual
def toP : D → PyData
  | .bl b => .bool b
  | .int i => .int i
  | .str x => .str x
  | .lst xs => .list (toPs xs)
  | .tup xs => .tuple (toPs xs)
  | _ => .none
def toPs : List D → List PyData
  | [] => []
  | d :: ds => toP d :: toPs ds
end
mutual
def pureD : D → Bool
  | .ref _ => false
  | .ty _ => false
  | .scr _ => false
  | .lst xs => pureDs xs
  | .tup xs => pureDs xs
  | _ => true
def pureDs : List D → Bool
  | [] => true
  | d :: ds => pureD d && pureDs ds
end
mutual
theorem Rep.dp {K : PySem.W.Frag} {G H : Hp} (s : Same G H) : ∀ (d : D) (v : V), pureD d = true → Rep K G d v → Dp K H v (toP d)
  | .non, v, _, r => by simp only [Rep] at r; subst r; simp only [toP]; exact .non
  | .bl b, v, _, r => by simp only [Rep] at r; subst r; simp only [toP]; exact .bl b
  | .int i, v, _, r => by simp only [Rep] at r; subst r; simp only [toP]; exact .int i
  | .str x, v, _, r => by simp only [Rep] at r; subst r; simp only [toP]; exact .str x
  | .lst ds, v, p, r => by
    simp only [Rep] at r
    simp only [pureD] at p
    obtain ⟨a, vs, rfl, q, t⟩ := r
    simp only [toP]
    exact .lst (SqL.of (s _ _ q)) (Reps.dp s ds vs p t)
  | .tup ds, v, p, r => by
    simp only [Rep] at r
    simp only [pureD] at p
    obtain ⟨a, vs, rfl, q, t⟩ := r
    simp only [toP]
    exact .tup (SqT.of (s _ _ q)) (Reps.dp s ds vs p t)
  | .ref a, v, p, r => by simp only [pureD] at p; cases p
  | .ty n, v, p, r => by simp only [pureD] at p; cases p
  | .scr ns, v, p, r => by simp only [pureD] at p; cases p
theorem Reps.dp {K : PySem.W.Frag} {G H : Hp} (s : Same G H) : ∀ (ds : List D) (vs : List V), pureDs ds = true → Reps K G ds vs → DpAll K H vs (toPs ds)
  | [], vs, _, r => by simp only [Reps] at r; subst r; simp only [toPs]; exact .nil
  | d :: ds, vs, p, r => by
    simp only [Reps] at r
    simp only [pureDs, Bool.and_eq_true] at p
    obtain ⟨v, t, rfl, q, s'⟩ := r
    simp only [toPs]
    exact .cons (Rep.dp s d v p.1 q) (Reps.dp s ds t p.2 s')
end
def okD (d : D) : Bool := pureD d && SeqAt.shaped (toP d)
def dEq (a b : D) : Bool := PyData.eqv (toP a) (toP b)
theorem rs_dp {K : PySem.W.Frag} {G H : Hp} {S : Sto} {d : D} {v : V} (n : Nx K G S H) (r : Rep K (wo H S) d v) (p : pureD (rs S d) = true) : Dp K H v (toP (rs S d)) := by
  unfold rs at p ⊢
  cases e : vm S d with
  | none =>
    rw [e] at p
    exact Rep.dp (wo_le H S) d v p r
  | some xs =>
    rw [e] at p
    obtain ⟨a, vs, rfl, ha, t⟩ := vm_rep n r e
    simp only [pureD] at p
    simp only [toP]
    exact .lst (SqL.of ha) (Reps.dp (wo_le H S) xs vs p t)
def eqR (neg : Bool) : R2D := fun x y S P => okD (rs S x) = true ∧ okD (rs S y) = true ∧ P (.bl (neg ^^ dEq (rs S x) (rs S y))) S
theorem okD_and {d : D} (h : okD d = true) : pureD d = true ∧ SeqAt.shaped (toP d) = true := Bool.and_eq_true_iff.mp h
theorem lift_eq {K : PySem.W.Frag} : Lift2 K (rEqD K) (eqR false) := by
  intro x y u v G S H P Q n ru rv t o
  obtain ⟨h1, h2, t⟩ := t
  refine ⟨_, _, rs_dp n ru (okD_and h1).1, rs_dp n rv (okD_and h2).1, (okD_and h1).2, (okD_and h2).2, ?_⟩
  refine o.now n t ?_
  simp only [Rep, Bool.false_bne]; rfl
theorem lift_ne {K : PySem.W.Frag} : Lift2 K (rNeD K) (eqR true) := by
  intro x y u v G S H P Q n ru rv t o
  obtain ⟨h1, h2, t⟩ := t
  refine ⟨_, _, rs_dp n ru (okD_and h1).1, rs_dp n rv (okD_and h2).1, (okD_and h1).2, (okD_and h2).2, ?_⟩
  refine o.now n t ?_
  simp only [Rep, Bool.true_bne]; rfl
section
variable {X : Cx} {G0 : Hp} {pos : Pos} {a b : Expr} {ta tb : TDE} {k : Nat}
theorem de_eq (hr : Room k X.A) (ha : DE X G0 a ta) (hb : DE X G0 b tb) : DE X G0 (.Compare a [.Eq] [b] pos) (dOp (eqR false) ta tb) := de_cmp (op_eqD hr.units) lift_eq ha hb (nomark _)
theorem dt_eq (hr : Room k X.A) (ha : DE X G0 a ta) (hb : DE X G0 b tb) : DT X G0 (.Compare a [.Eq] [b] pos) (dB (dOp (eqR false) ta tb)) := dt_cmp (op_eqD hr.units) lift_eq ha hb (nomark _)
theorem de_ne (hr : Room k X.A) (ha : DE X G0 a ta) (hb : DE X G0 b tb) : DE X G0 (.Compare a [.NotEq] [b] pos) (dOp (eqR true) ta tb) := de_cmp (op_neD hr.units) lift_ne ha hb (nomark _)
theorem dt_ne (hr : Room k X.A) (ha : DE X G0 a ta) (hb : DE X G0 b tb) : DT X G0 (.Compare a [.NotEq] [b] pos) (dB (dOp (eqR true) ta tb)) := dt_cmp (op_neD hr.units) lift_ne ha hb (nomark _)
end
end DL
namespace DL
open PySem L2
def ORep (K : PySem.W.Frag) (G : Hp) : Option D → Option V → Prop
  | some d, some v => Rep K G d v
  | none, none => True
  | _, _ => False
theorem ORep.isSome {K : PySem.W.Frag} {G : Hp} : ∀ {o : Option D} {u : Option V}, ORep K G o u → u.isSome = o.isSome
  | some _, some _, _ => rfl
  | none, none, _ => rfl
theorem ORep.some_of {K : PySem.W.Frag} {G : Hp} {d : D} : ∀ {u : Option V}, ORep K G (some d) u → ∃ v, u = some v ∧ Rep K G d v
  | some v, h => ⟨v, rfl, h⟩
  | none, h => h.elim
theorem ORep.getD {K : PySem.W.Frag} {G : Hp} {d : D} {v : V} : ∀ {o : Option D} {u : Option V}, ORep K G o u → Rep K G d v → Rep K G (o.getD d) (u.getD v)
  | some _, some _, h, _ => h
  | none, none, _, h => h
section
variable {κ κ' : Type} [DecidableEq κ] [DecidableEq κ']
def dget (kvs : List (κ × D)) (k : κ) : Option D := (kvs.find? fun p => decide (p.1 = k)).map (·.2)
def dput (kvs : List (κ × D)) (k : κ) (d : D) : List (κ × D) :=
  if kvs.any (fun p => decide (p.1 = k)) then kvs.map (fun p => if p.1 = k then (p.1, d) else p) else kvs ++ [(k, d)]
def ddrop (kvs : List (κ × D)) (k : κ) : List (κ × D) := kvs.filter fun p => decide (p.1 ≠ k)
variable {K : PySem.W.Frag} {G : Hp} {f : κ → κ'}
theorem zip_get (hf : ∀ a b, f a = f b → a = b) (k : κ) : ∀ {kvs : List (κ × D)} {vs : List V}, Reps K G (kvs.map (·.2)) vs →
    ORep K G (dget kvs k) (valV ((kvs.map fun p => f p.1).zip vs) (f k))
  | [], vs, r => True.intro
  | (a, d) :: kvs, vs, r => by
    simp only [List.map_cons, Reps] at r
    obtain ⟨v, t, rfl, q, s⟩ := r
    simp only [List.map_cons, List.zip_cons_cons]
    by_cases e : a = k
    · have e1 : dget ((a, d) :: kvs) k = some d := by simp [dget, List.find?_cons, e]
      have e2 : valV ((f a, v) :: (kvs.map fun p => f p.1).zip t) (f k) = some v := valV_pos (p := (f a, v)) (by rw [e])
      rw [e1, e2]
      exact q
    · have e1 : dget ((a, d) :: kvs) k = dget kvs k := by simp [dget, List.find?_cons, e]
      have e2 : valV ((f a, v) :: (kvs.map fun p => f p.1).zip t) (f k) = valV ((kvs.map fun p => f p.1).zip t) (f k) := valV_neg (p := (f a, v)) fun z => e (hf _ _ z)
      rw [e1, e2]
      exact zip_get hf k s
theorem zip_isSome (hf : ∀ a b, f a = f b → a = b) (k : κ) {kvs : List (κ × D)} {vs : List V} (r : Reps K G (kvs.map (·.2)) vs) : (valV ((kvs.map fun p => f p.1).zip vs) (f k)).isSome = (dget kvs k).isSome :=
  (zip_get hf k r).isSome
theorem any_get (k : κ) : ∀ kvs : List (κ × D), (kvs.any fun p => decide (p.1 = k)) = (dget kvs k).isSome
  | [] => rfl
  | (a, d) :: r => by
    have ih := any_get k r
    by_cases e : a = k
    · simp [dget, List.find?_cons, e]
    · have e1 : dget ((a, d) :: r) k = dget r k := by simp [dget, List.find?_cons, e]
      rw [e1, List.any_cons, ← ih]
      simp [e]
theorem zip_map (hf : ∀ a b, f a = f b → a = b) (k : κ) {d : D} {v : V} (q : Rep K G d v) : ∀ {kvs : List (κ × D)} {vs : List V}, Reps K G (kvs.map (·.2)) vs →
    ∃ us, ((kvs.map fun p => f p.1).zip vs).map (fun kv => if kv.1 = f k then (kv.1, v) else kv) = (((kvs.map fun p => if p.1 = k then (p.1, d) else p)).map fun p => f p.1).zip us ∧ Reps K G ((kvs.map fun p => if p.1 = k then (p.1, d) else p).map (·.2)) us
  | [], vs, r => by
    simp only [List.map_nil, Reps] at r; subst r
    exact ⟨[], rfl, Reps.nil⟩
  | (a, d') :: kvs, vs, r => by
    simp only [List.map_cons, Reps] at r
    obtain ⟨v', t, rfl, q', s⟩ := r
    obtain ⟨us, e, ru⟩ := zip_map hf k q s
    by_cases h : a = k
    · subst h
      refine ⟨v :: us, ?_, ?_⟩
      · simp only [List.map_cons, List.zip_cons_cons, if_true, e]
      · simp only [List.map_cons, if_true]
        exact Reps.cons q ru
    · have h' : ¬ f a = f k := fun z => h (hf _ _ z)
      refine ⟨v' :: us, ?_, ?_⟩
      · simp only [List.map_cons, List.zip_cons_cons, if_neg h, if_neg h', e]
      · simp only [List.map_cons, if_neg h]
        exact Reps.cons q' ru
theorem zip_put (hf : ∀ a b, f a = f b → a = b) (k : κ) {d : D} {v : V} (q : Rep K G d v) {kvs : List (κ × D)} {vs : List V} (r : Reps K G (kvs.map (·.2)) vs) :
    ∃ us, putK ((kvs.map fun p => f p.1).zip vs) (f k) v = ((dput kvs k d).map fun p => f p.1).zip us ∧ Reps K G ((dput kvs k d).map (·.2)) us := by
  unfold putK dput
  rw [valV_any, zip_isSome hf k r, any_get]
  cases e : (dget kvs k).isSome with
  | true =>
    simp only [if_true]
    exact zip_map hf k q r
  | false =>
    have hl := r.len
    rw [List.length_map] at hl
    refine ⟨vs ++ [v], ?_, ?_⟩
    · simp only [Bool.false_eq_true, if_false, List.map_append, List.map_cons, List.map_nil]
      rw [List.zip_append (by rw [List.length_map]; exact hl)]
      rfl
    · simp only [Bool.false_eq_true, if_false, List.map_append, List.map_cons, List.map_nil]
      exact r.app (Reps.cons q Reps.nil)
theorem dput_len (kvs : List (κ × D)) (k : κ) (d : D) : (dput kvs k d).length ≤ kvs.length + 1 := by
  unfold dput
  split
  · rw [List.length_map]; omega
  · rw [List.length_append]; simp
end
theorem inl_inj : ∀ a b : List Int, (a.map Sum.inl : List Key) = b.map Sum.inl → a = b := by
  intro a
  induction a with
  | nil => intro b h; cases b with | nil => rfl | cons _ _ => simp at h
  | cons x xs ih =>
    intro b h
    cases b with
    | nil => simp at h
    | cons y ys =>
      simp only [List.map_cons, List.cons.injEq, Sum.inl.injEq] at h
      rw [h.1, ih _ h.2]
theorem inr_inj : ∀ a b : Str, (Sum.inr a : Key) = Sum.inr b → a = b := fun a b h => Sum.inr.inj h
def kInts : List D → Option (List Int)
  | [] => some []
  | .int i :: r => (kInts r).map (i :: ·)
  | _ => none
def kI : D → Option (List Int)
  | .tup xs => kInts xs
  | _ => none
theorem kInts_map : ∀ ns : List Int, kInts (ns.map D.int) = some ns
  | [] => rfl
  | n :: r => by simp only [List.map_cons, kInts, kInts_map r, Option.map_some]
theorem kInts_eq : ∀ {xs : List D} {ns : List Int}, kInts xs = some ns → xs = ns.map D.int
  | [], ns, h => by cases h; rfl
  | .int i :: r, ns, h => by
    simp only [kInts] at h
    cases e : kInts r with
    | none => rw [e] at h; cases h
    | some t =>
      rw [e] at h; cases h
      rw [List.map_cons, kInts_eq e]
  | .non :: r, ns, h => by cases h
  | .bl _ :: r, ns, h => by cases h
  | .str _ :: r, ns, h => by cases h
  | .lst _ :: r, ns, h => by cases h
  | .tup _ :: r, ns, h => by cases h
  | .ref _ :: r, ns, h => by cases h
  | .ty _ :: r, ns, h => by cases h
  | .scr _ :: r, ns, h => by cases h
theorem kI_rep {K : PySem.W.Frag} {G H : Hp} (s : Same G H) {d : D} {v : V} {ns : List Int} (r : Rep K G d v) (e : kI d = some ns) : ∃ b, v = .ref b ∧ H b = some (.tup ((ns.map Sum.inl : List Key).map kV)) := by
  cases d with
  | tup xs =>
    have e' := kInts_eq (xs := xs) e
    subst e'
    simp only [Rep] at r
    obtain ⟨b, vs, rfl, q, t⟩ := r
    have := Reps.ints t
    subst this
    refine ⟨b, rfl, ?_⟩
    rw [s _ _ q, List.map_map]
    rfl
  | _ => cases e
def dgetS (S : Sto) (x y : D) : Option (Option D) := match x with
  | .ref p => match S p with
    | some (.dI kvs) => (kI y).map fun k => dget kvs k
    | some (.dS kvs) => match y with
      | .str z => some (dget kvs z)
      | _ => none
    | _ => none
  | _ => none
theorem dgetS_ok {K : PySem.W.Frag} {G H : Hp} {S : Sto} {x y : D} {u v : V} {o : Option D} (n : Nx K G S H) (ru : Rep K (wo H S) x u) (rv : Rep K (wo H S) y v) (e : dgetS S x y = some o) :
    ∃ a ov, u = .ref a ∧ DGet H a v ov ∧ IsD H a ∧ ORep K (wo H S) o ov := by
  cases x with
  | ref p =>
    simp only [Rep] at ru
    simp only [dgetS] at e
    cases h : S p with
    | none => rw [h] at e; cases e
    | some c =>
      rw [h] at e
      cases c with
      | ml _ => cases e
      | ins _ _ => cases e
      | dI kvs =>
        dsimp only at e
        cases ek : kI y with
        | none => rw [ek] at e; cases e
        | some k =>
          rw [ek] at e
          cases e
          obtain ⟨vs, hH, r⟩ := n.ok p _ h
          obtain ⟨b, rfl, hb⟩ := kI_rep (wo_le H S) rv ek
          exact ⟨p, _, ru, DGet.t hH hb, .inr ⟨_, .inl hH⟩, zip_get (f := fun k : List Int => (k.map Sum.inl : List Key)) inl_inj k r⟩
      | dS kvs =>
        dsimp only at e
        cases y with
        | str z =>
          cases e
          obtain ⟨vs, hH, r⟩ := n.ok p _ h
          simp only [Rep] at rv
          subst rv
          exact ⟨p, _, ru, DGet.k (k := Sum.inr z) hH, .inl ⟨_, .inl hH⟩, zip_get (f := fun k : Str => (Sum.inr k : Key)) inr_inj z r⟩
        | _ => cases e
  | _ => cases e
section
variable {X : Cx}
theorem ix_dict (hu : X.A.units + 1 < cLine) : IxR X (fun x y H Q => ∃ a v, x = .ref a ∧ DGet H a y (some v) ∧ Q v H) := by
  intro value slice pins s σ H x y v u Q I rx ry h hs
  obtain ⟨a, z, rfl, g, q⟩ := h
  cases (show v = Value.ref a from rx)
  exact PyProof.Rows.tail_any (dict_typeIs I g) PySem.F.slot_dict_getitem.lookup (d_getItem hu I g ry fun w' s3 I3 rw' => ⟨z, H, I3, rw', q⟩) hs
theorem op_in_dict (hu : X.A.units + 1 < cLine) : OpR X (compareOp .In) (fun x y H Q => ∃ a o, y = .ref a ∧ DGet H a x o ∧ Q (.bl o.isSome) H) := by
  intro pins s σ H x y v u Q I rx ry h
  obtain ⟨a, o, rfl, g, q⟩ := h
  cases (show u = Value.ref a from ry)
  exact d_in hu I g rx fun s' I' => ⟨.bl o.isSome, H, I', rfl, q⟩
theorem op_notIn_dict (hu : X.A.units + 1 < cLine) : OpR X (compareOp .NotIn) (fun x y H Q => ∃ a o, y = .ref a ∧ DGet H a x o ∧ Q (.bl (!o.isSome)) H) := by
  intro pins s σ H x y v u Q I rx ry h
  obtain ⟨a, o, rfl, g, q⟩ := h
  cases (show u = Value.ref a from ry)
  exact d_notIn hu I g rx fun s' I' => ⟨.bl (!o.isSome), H, I', rfl, q⟩
theorem set_dict (hu : X.A.units + 1 < cLine) : PSet X (fun o i v H Q => ∃ a H', o = .ref a ∧ DPut H a i v H' ∧ Q H') := by
  intro pins s σ H o i v ov iv u Q I ro ri rv h
  obtain ⟨a, H', rfl, g, q⟩ := h
  cases (show ov = Value.ref a from ro)
  exact d_setItem hu I g ri rv fun s' I' => ⟨H', I', q⟩
theorem PSet.or {t t' : TSet} (h : PSet X t) (h' : PSet X t') : PSet X (fun o i v H Q => t o i v H Q ∨ t' o i v H Q) := by
  intro pins s σ H o i v ov iv u Q I ro ri rv q
  rcases q with q | q
  · exact h pins s σ H o i v ov iv u Q I ro ri rv q
  · exact h' pins s σ H o i v ov iv u Q I ro ri rv q
end
def ixL (xs : List D) (y : D) (S : Sto) (P : D → Sto → Prop) : Prop := match y with
  | .int i => match atI xs i with
    | some d => P d S
    | none => False
  | _ => False
def ixT (z : Str) (y : D) (S : Sto) (P : D → Sto → Prop) : Prop := match y with
  | .int i => z.length ≤ sizeLine ∧ match atI z.cps.toList i with
    | some c => P (.str ⟨#[c]⟩) S
    | none => False
  | _ => False
def ixK (o : Option (Option D)) (S : Sto) (P : D → Sto → Prop) : Prop := match o with
  | some (some d) => P d S
  | _ => False
def ixLK (l : Option (List D)) (x y : D) (S : Sto) (P : D → Sto → Prop) : Prop := match l with
  | some xs => ixL xs y S P
  | none => ixK (dgetS S x y) S P
def ixD : R2D := fun x y S P => match x with
  | .tup xs => ixL xs y S P
  | .str z => ixT z y S P
  | x => ixLK (vl S x) x y S P
theorem Reps.at {K : PySem.W.Frag} {G : Hp} {ds : List D} {vs : List V} {i : Int} {d : D} (r : Reps K G ds vs) (e : atI ds i = some d) : ∃ v, atI vs i = some v ∧ Rep K G d v := by
  unfold atI at e ⊢
  rw [← r.len]
  cases h : ixN ds.length i with
  | none => rw [h] at e; cases e
  | some j =>
    rw [h] at e
    exact r.get e
theorem ixL_ok {ds : List D} {y : D} {S : Sto} {P : D → Sto → Prop} (t : ixL ds y S P) : ∃ i d, y = .int i ∧ atI ds i = some d ∧ P d S := by
  cases y with
  | int i =>
    simp only [ixL] at t
    cases h : atI ds i with
    | none => rw [h] at t; exact t.elim
    | some d => rw [h] at t; exact ⟨i, d, rfl, h, t⟩
  | _ => exact t.elim
theorem ixT_ok {z : Str} {y : D} {S : Sto} {P : D → Sto → Prop} (t : ixT z y S P) : ∃ i c, y = .int i ∧ z.length ≤ sizeLine ∧ atI z.cps.toList i = some c ∧ P (.str ⟨#[c]⟩) S := by
  cases y with
  | int i =>
    simp only [ixT] at t
    cases h : atI z.cps.toList i with
    | none => rw [h] at t; exact t.2.elim
    | some c => rw [h] at t; exact ⟨i, c, rfl, t.1, h, t.2⟩
  | _ => exact t.elim
theorem lift_ix {K : PySem.W.Frag} : Lift2 K (fun x y H Q => rIx K x y H Q ∨ ∃ a v, x = .ref a ∧ DGet H a y (some v) ∧ Q v H) ixD := by
  intro x y u v G S H P Q n ru rv t o
  have lk : ixLK (vl S x) x y S P → (rIx K u v H Q ∨ ∃ a w, u = .ref a ∧ DGet H a v (some w) ∧ Q w H) := fun t => by
    cases e : vl S x with
    | some xs =>
      rw [e] at t
      obtain ⟨i, d, rfl, h, p⟩ := ixL_ok t
      obtain ⟨a, vs, rfl, q, r⟩ := vl_rep n ru e
      obtain ⟨w, hw, rw'⟩ := r.at h
      simp only [Rep] at rv
      exact .inl (.inl ⟨a, vs, i, w, rfl, rv, q, hw, o.now n p rw'⟩)
    | none =>
      rw [e] at t
      simp only [ixLK] at t
      cases e : dgetS S x y with
      | none => rw [e] at t; exact t.elim
      | some z =>
        cases z with
        | none => rw [e] at t; exact t.elim
        | some d =>
          rw [e] at t
          obtain ⟨a, ov, rfl, g, _, r⟩ := dgetS_ok n ru rv e
          obtain ⟨w, rfl, rw'⟩ := r.some_of
          exact .inr ⟨a, w, rfl, g, o.now n t rw'⟩
  cases x with
  | tup xs =>
    obtain ⟨i, d, rfl, h, p⟩ := ixL_ok (ds := xs) t
    simp only [Rep] at ru rv
    obtain ⟨a, vs, rfl, q, r⟩ := ru
    obtain ⟨w, hw, rw'⟩ := r.at h
    exact .inl (.inr (.inl ⟨a, vs, i, w, rfl, rv, SqT.of (wo_le _ _ _ _ q), hw, o.now n p rw'⟩))
  | str z =>
    obtain ⟨i, c, rfl, hl, h, p⟩ := ixT_ok (z := z) t
    simp only [Rep] at ru rv
    exact .inl (.inr (.inr ⟨z, i, c, ru, rv, hl, h, o.now n p (by simp only [Rep])⟩))
  | _ => exact lk t
def inS (neg : Bool) (x : D) (j : Str) (S : Sto) (P : D → Sto → Prop) : Prop := match x with
  | .str i => P (.bl (neg ^^ !(Builtin.Str.occurrences j i 0 j.length 1).isEmpty)) S
  | _ => False
def inK (neg : Bool) (o : Option (Option D)) (S : Sto) (P : D → Sto → Prop) : Prop := match o with
  | some o => P (.bl (neg ^^ o.isSome)) S
  | none => False
def inL (neg : Bool) (l : Option (List D)) (x y : D) (S : Sto) (P : D → Sto → Prop) : Prop := match l with
  | some ys => okD (rs S x) = true ∧ okD (.lst ys) = true ∧ P (.bl (neg ^^ ys.any fun z => dEq z (rs S x))) S
  | none => inK neg (dgetS S y x) S P
def inR (neg : Bool) : R2D := fun x y S P => match y with
  | .str j => inS neg x j S P
  | y => inL neg (vm S y) x y S P
theorem toPs_any (x : D) : ∀ ys : List D, ((toPs ys).any fun z => PyData.eqv z (toP x)) = ys.any fun z => dEq z x
  | [] => rfl
  | y :: ys => by simp only [toPs, List.any_cons, toPs_any x ys]; rfl
theorem lift_in {K : PySem.W.Frag} (neg : Bool) (rl rd rstr : R2)
    (hl : rl = fun x y H Q => ∃ d ds, Dp K H x d ∧ Dp K H y (.list ds) ∧ SeqAt.shaped d = true ∧ SeqAt.shaped (.list ds) = true ∧ Q (.bl (neg ^^ ds.any fun z => PyData.eqv z d)) H)
    (hd : rd = fun x y H Q => ∃ a o, y = .ref a ∧ DGet H a x o ∧ Q (.bl (neg ^^ o.isSome)) H)
    (hs : rstr = fun x y H Q => ∃ i j, x = .str i ∧ y = .str j ∧ Q (.bl (neg ^^ !(Builtin.Str.occurrences j i 0 j.length 1).isEmpty)) H) :
    Lift2 K (fun x y H Q => (rl x y H Q ∨ rd x y H Q) ∨ rstr x y H Q) (inR neg) := by
  subst hl hd hs
  intro x y u v G S H P Q n ru rv t o
  have main : inL neg (vm S y) x y S P → ((∃ d ds, Dp K H u d ∧ Dp K H v (.list ds) ∧ SeqAt.shaped d = true ∧ SeqAt.shaped (.list ds) = true ∧ Q (.bl (neg ^^ ds.any fun z => PyData.eqv z d)) H) ∨ ∃ a o, v = .ref a ∧ DGet H a u o ∧ Q (.bl (neg ^^ o.isSome)) H) := fun t => by
    cases e : vm S y with
    | some ys =>
      rw [e] at t
      obtain ⟨h1, h2, t⟩ := t
      obtain ⟨a, vs, rfl, ha, r⟩ := vm_rep n rv e
      have o2 := okD_and h2
      simp only [pureD, toP] at o2
      refine .inl ⟨_, _, rs_dp n ru (okD_and h1).1, Dp.lst (SqL.of ha) (Reps.dp (wo_le H S) ys vs o2.1 r), (okD_and h1).2, o2.2, ?_⟩
      rw [toPs_any]
      exact o.now n t (by simp only [Rep])
    | none =>
      rw [e] at t
      simp only [inL] at t
      cases e2 : dgetS S y x with
      | none => rw [e2] at t; exact t.elim
      | some z =>
        rw [e2] at t
        obtain ⟨a, ov, rfl, g, _, r⟩ := dgetS_ok n rv ru e2
        refine .inr ⟨a, ov, rfl, g, ?_⟩
        rw [r.isSome]
        exact o.now n t (by simp only [Rep])
  cases y with
  | str j =>
    cases x with
    | str i =>
      simp only [Rep] at ru rv
      exact .inr ⟨i, j, ru, rv, o.now n t (by simp only [Rep])⟩
    | _ => exact t.elim
  | _ => exact .inl (main t)
section
variable {X : Cx} {G0 : Hp} {pos : Pos} {a b : Expr} {ta tb : TDE} {k : Nat}
theorem de_at (hr : Room k X.A) (ha : DE X G0 a ta) (hb : DE X G0 b tb) (hs : PlainIx b := by exact fun _ _ => rfl) : DE X G0 (.Subscript a b pos) (dOp ixD ta tb) := de_ix (ix_seq.or (ix_dict (hu_of hr))) lift_ix ha hb hs
theorem de_in (hr : Room k X.A) (ha : DE X G0 a ta) (hb : DE X G0 b tb) (hm : behindInMarks .In b = false := by rfl) : DE X G0 (.Compare a [.In] [b] pos) (dOp (inR false) ta tb) :=
  de_cmp (((op_inD (by have := hr.un; omega)).or (op_in_dict (hu_of hr))).or op_in_str) (lift_in false _ _ _ (by funext x y H Q; simp only [rInD, Bool.false_bne]) (by funext x y H Q; simp only [Bool.false_bne]) (by funext x y H Q; simp only [Bool.false_bne])) ha hb hm
theorem dt_in (hr : Room k X.A) (ha : DE X G0 a ta) (hb : DE X G0 b tb) (hm : behindInMarks .In b = false := by rfl) : DT X G0 (.Compare a [.In] [b] pos) (dB (dOp (inR false) ta tb)) :=
  dt_cmp (((op_inD (by have := hr.un; omega)).or (op_in_dict (hu_of hr))).or op_in_str) (lift_in false _ _ _ (by funext x y H Q; simp only [rInD, Bool.false_bne]) (by funext x y H Q; simp only [Bool.false_bne]) (by funext x y H Q; simp only [Bool.false_bne])) ha hb hm
theorem de_notIn (hr : Room k X.A) (ha : DE X G0 a ta) (hb : DE X G0 b tb) (hm : behindInMarks .NotIn b = false := by rfl) : DE X G0 (.Compare a [.NotIn] [b] pos) (dOp (inR true) ta tb) :=
  de_cmp (((op_notInD (by have := hr.un; omega)).or (op_notIn_dict (hu_of hr))).or op_notin_str) (lift_in true _ _ _ (by funext x y H Q; simp only [rNotInD, Bool.true_bne]) (by funext x y H Q; simp only [Bool.true_bne]) (by funext x y H Q; simp only [Bool.true_bne])) ha hb hm
theorem dt_notIn (hr : Room k X.A) (ha : DE X G0 a ta) (hb : DE X G0 b tb) (hm : behindInMarks .NotIn b = false := by rfl) : DT X G0 (.Compare a [.NotIn] [b] pos) (dB (dOp (inR true) ta tb)) :=
  dt_cmp (((op_notInD (by have := hr.un; omega)).or (op_notIn_dict (hu_of hr))).or op_notin_str) (lift_in true _ _ _ (by funext x y H Q; simp only [rNotInD, Bool.true_bne]) (by funext x y H Q; simp only [Bool.true_bne]) (by funext x y H Q; simp only [Bool.true_bne])) ha hb hm
end
end DL
namespace DL
open PySem L2
def dNil : TDA := fun _ S P => P [] S
def dCons (ta : TDE) (tr : TDA) : TDA := fun ρ S P => ta ρ S fun x S1 => tr ρ S1 fun xs S2 => P (x :: xs) S2
def dLst (m : Bool) (ta : TDA) : TDE := fun ρ S P => ta ρ S fun xs S1 => xs.length ≤ sizeLine ∧ newL m xs S1 P
def dTup (ta : TDA) : TDE := fun ρ S P => ta ρ S fun xs S1 => xs.length ≤ sizeLine ∧ P (.tup xs) S1
def dNewI : TDE := fun _ S P => ∀ p, S p = none → P (.ref p) (su S p (.dI []))
def dFrz (t : TDE) : TDE := fun ρ S P => t ρ S fun d S1 => match d with
  | .ref p => match S1 p with
    | some (.ml xs) => P (.lst xs) (sd S1 p)
    | _ => P d S1
  | _ => P d S1
abbrev RCD := List D → Sto → (D → Sto → Prop) → Prop
def dCB (r : RCD) (ta : TDA) : TDE := fun ρ S P => ta ρ S fun xs S1 => r xs S1 P
def LiftC (K : PySem.W.Frag) (r : List V → Hp → VK → Prop) (r' : RCD) : Prop := ∀ xs vs G S H P Q, Nx K G S H → Reps K (wo H S) xs vs → r' xs S P → Owe K S H P Q → r vs H Q
theorem LiftC.or {K : PySem.W.Frag} {r s : List V → Hp → VK → Prop} {r' s' : RCD} (h : LiftC K r r') (h' : LiftC K s s') : LiftC K (fun x H Q => r x H Q ∨ s x H Q) (fun x S P => r' x S P ∨ s' x S P) :=
  fun x u G S H P Q n ru t o => t.elim (fun t => .inl (h x u G S H P Q n ru t o)) fun t => .inr (h' x u G S H P Q n ru t o)
section
variable {X : Cx} {G0 : Hp} {pos : Pos} {e : Expr} {es : List Expr} {te : TDE} {ta : TDA}
theorem da_nil : DA X G0 [] dNil := PA.imp pa_nil fun σ H Q ⟨ρ, S, P, st, t, o⟩ => o _ _ _ _ t st.refl Reps.nil
theorem da_cons (he : DE X G0 e te) (ha : DA X G0 es ta) (hs : starEach (e :: es) X.env = (false, eval e X.env) :: starEach es X.env := by rfl) : DA X G0 (e :: es) (dCons te ta) :=
  PA.imp (pa_cons he ha hs) fun σ H Q ⟨ρ, S, P, st, t, o⟩ => ⟨ρ, S, _, st, t, fun d S1 v H1 t1 n1 r1 => ⟨ρ, S1, _, st.next n1, t1, fun ds S2 vs H2 t2 n2 r2 => o _ _ _ _ t2 (n1.trans n2) (Reps.cons (r1.mono n2.st) r2)⟩⟩
theorem de_lst (m : Bool) (ha : DA X G0 es ta) : DE X G0 (.List es pos) (dLst m ta) :=
  PE.imp (pe_lst ha) fun σ H Q ⟨ρ, S, P, st, t, o⟩ => ⟨ρ, S, _, st, t, fun ds S1 vs H1 t1 n1 r1 => ⟨by rw [← r1.len]; exact t1.1, fun p hp => newL_ok n1 r1 hp t1.2 fun d S' v H' a b c => o _ _ _ _ a (n1.trans b) c⟩⟩
theorem de_tup {x1} (ha : DA X G0 es ta) : DE X G0 (.Tuple es x1 pos) (dTup ta) :=
  PE.imp (pe_tup ha) fun σ H Q ⟨ρ, S, P, st, t, o⟩ => ⟨ρ, S, _, st, t, fun ds S1 vs H1 t1 n1 r1 => ⟨by rw [← r1.len]; exact t1.1, fun p hp => newT_ok n1 r1 hp t1.2 fun d S' v H' a b c => o _ _ _ _ a (n1.trans b) c⟩⟩
theorem de_dict0 : DE X G0 (.Dict [] [] pos) dNewI :=
  PE.imp pe_dnewT fun σ H Q ⟨ρ, S, P, st, t, o⟩ p hp => o _ _ _ _ (t p (st.nx.free hp)) (st.nx.cell hp fun G' s => ⟨[], upd_same, Reps.nil⟩) (by simp only [Rep])
theorem de_frz (he : DE X G0 e te) : DE X G0 e (dFrz te) := PE.imp he fun σ H Q ⟨ρ, S, P, st, t, o⟩ => ⟨ρ, S, _, st, t, fun d S1 v H1 t1 n1 r1 => by
    cases d with
    | ref p =>
      dsimp only at t1
      cases h : S1 p with
      | none => rw [h] at t1; exact o _ _ _ _ t1 n1 r1
      | some c =>
        rw [h] at t1
        cases c with
        | ml xs =>
          obtain ⟨n2, r2⟩ := n1.frz h
          simp only [Rep] at r1
          subst r1
          exact o _ _ _ _ t1 (n1.trans n2) r2
        | dI _ => exact o _ _ _ _ t1 n1 r1
        | dS _ => exact o _ _ _ _ t1 n1 r1
        | ins _ _ => exact o _ _ _ _ t1 n1 r1
    | _ => exact o _ _ _ _ t1 n1 r1⟩
theorem up_cb {r : List V → Hp → VK → Prop} {r' : RCD} (hl : LiftC X.K r r') (σ : St) (H : Hp) (Q : VK) (h : upE X.K G0 (dCB r' ta) σ H Q) : tCB r (upA X.K G0 ta) σ H Q := by
  obtain ⟨ρ, S, P, st, t, o⟩ := h
  exact ⟨ρ, S, _, st, t, fun ds S1 vs H1 t1 n1 r1 => hl ds vs _ S1 H1 P Q n1 r1 t1 fun d S' v H' a b c => o _ _ _ _ a (n1.trans b) c⟩
theorem de_callB {x : Str} {p : Pos} {id : String} {r : List V → Hp → VK → Prop} {r' : RCD} (hc : CallR X (.builtin id) r) (hl : LiftC X.K r r') (hg : Gl X x) (hm : X.mg x = none) (hv : bootBuiltins x = some (.builtin id)) (ha : DA X G0 (e :: es) ta)
    (hn : x ≠ "__name__" := by decide) (hdb : (x == ("__debug__" : Str)) = false := by decide)
    (he : starEach (e :: es) X.env = (false, eval e X.env) :: starEach es X.env := by rfl) (hpl : (backTo pos (starEach es X.env)).any (·.1) = false := by rfl) : DE X G0 (.Call (.Name x p) (e :: es) [] pos) (dCB r' ta) :=
  PE.imp (pe_callB hc hg hm hv ha hn hdb he hpl) (up_cb hl)
theorem de_callTy {x : Str} {p : Pos} {T : String} {r : List V → Hp → VK → Prop} {r' : RCD} (hc : CallR X (.type T) r) (hl : LiftC X.K r r') (hg : Gl X x) (hm : X.mg x = none) (hv : bootBuiltins x = some (.type T)) (ha : DA X G0 (e :: es) ta)
    (hn : x ≠ "__name__" := by decide) (hdb : (x == ("__debug__" : Str)) = false := by decide)
    (he : starEach (e :: es) X.env = (false, eval e X.env) :: starEach es X.env := by rfl) (hpl : (backTo pos (starEach es X.env)).any (·.1) = false := by rfl) : DE X G0 (.Call (.Name x p) (e :: es) [] pos) (dCB r' ta) :=
  PE.imp (pe_callTy hc hg hm hv ha hn hdb he hpl) (up_cb hl)
end
def lenS (S : Sto) : D → Option Nat
  | .tup xs => some xs.length
  | .ref p => match S p with
    | some (.ml xs) => some xs.length
    | some (.dI kvs) => some kvs.length
    | _ => none
  | .lst xs => some xs.length
  | .scr ns => some ns.length
  | _ => none
def lenD : RCD := fun xs S P => match xs with
  | [.str z] => z.length ≤ sizeLine ∧ P (.int z.length) S
  | [x] => match lenS S x with
    | some n => P (.int n) S
    | none => False
  | _ => False
theorem Reps.one {K : PySem.W.Frag} {G : Hp} {d : D} {vs : List V} (r : Reps K G [d] vs) : ∃ v, vs = [v] ∧ Rep K G d v := by
  simp only [Reps] at r
  obtain ⟨v, t, rfl, q, rfl⟩ := r
  exact ⟨v, rfl, q⟩
theorem Reps.two {K : PySem.W.Frag} {G : Hp} {d e : D} {vs : List V} (r : Reps K G [d, e] vs) : ∃ v u, vs = [v, u] ∧ Rep K G d v ∧ Rep K G e u := by
  simp only [Reps] at r
  obtain ⟨v, t, rfl, q, u, t', rfl, q', rfl⟩ := r
  exact ⟨v, u, rfl, q, q'⟩
theorem lift_len {K : PySem.W.Frag} : LiftC K (fun xs H Q => (∃ x n, xs = [x] ∧ LenV K x H n ∧ Q (.int n) H) ∨ rLenT xs H Q) lenD := by
  intro xs vs G S H P Q n r t o
  match xs, t with
  | [], t => exact t.elim
  | _ :: _ :: _, t => cases (show False by first | exact t | (unfold lenD at t; split at t <;> simp_all))
  | [x], t =>
    obtain ⟨v, ev, rx⟩ := r.one
    clear r
    subst ev
    have r := rx
    clear rx
    cases x with
    | str z =>
      simp only [Rep] at r
      subst r
      exact .inl ⟨_, z.length, rfl, ⟨t.1, rfl⟩, o.now n t.2 (by simp only [Rep])⟩
    | tup ds =>
      simp only [Rep] at r
      obtain ⟨a, us, rfl, q, r⟩ := r
      exact .inl ⟨_, ds.length, rfl, .inr ⟨us, SqT.of (wo_le _ _ _ _ q), r.len⟩, o.now n t (by simp only [Rep])⟩
    | lst ds =>
      simp only [Rep] at r
      obtain ⟨a, us, rfl, q, r⟩ := r
      exact .inl ⟨_, ds.length, rfl, .inl ⟨us, SqL.of (wo_le _ _ _ _ q), r.len⟩, o.now n t (by simp only [Rep])⟩
    | scr ns =>
      simp only [Rep] at r
      obtain ⟨a, rfl, q⟩ := r
      exact .inl ⟨_, ns.length, rfl, .inl ⟨_, (wo_le H S).seq q, by rw [List.length_map]⟩, o.now n t (by simp only [Rep])⟩
    | ref p =>
      simp only [lenD, lenS] at t
      simp only [Rep] at r
      subst r
      cases h : S p with
      | none => rw [h] at t; exact t.elim
      | some c =>
        rw [h] at t
        cases c with
        | ml ds =>
          obtain ⟨us, q, r⟩ := n.ok p _ h
          exact .inl ⟨_, ds.length, rfl, .inl ⟨us, SqL.of q, r.len⟩, o.now n t (by simp only [Rep])⟩
        | dI kvs =>
          obtain ⟨us, q, r⟩ := n.ok p _ h
          refine .inr ⟨p, _, rfl, q, ?_⟩
          have e : (((kvs.map fun p => (p.1.map Sum.inl : List Key)).zip us).length : Int) = kvs.length := by
            have := r.len
            simp only [List.length_map] at this
            rw [List.length_zip, List.length_map, ← this, Nat.min_self]
          rw [e]
          exact o.now n t (by simp only [Rep])
        | dS _ => exact t.elim
        | ins _ _ => exact t.elim
    | non => exact t.elim
    | bl b => exact t.elim
    | int i => exact t.elim
    | ty s => exact t.elim
def i2D (f : Int → Int → Int) : RCD := fun xs S P => match xs with
  | [.int i, .int j] => P (.int (f i j)) S
  | _ => False
theorem i2D_ok {f : Int → Int → Int} {xs : List D} {S : Sto} {P : D → Sto → Prop} (t : i2D f xs S P) : ∃ i j, xs = [.int i, .int j] ∧ P (.int (f i j)) S := by
  unfold i2D at t
  split at t
  · exact ⟨_, _, rfl, t⟩
  · exact t.elim
theorem lift_min {K : PySem.W.Frag} : LiftC K (fun xs H Q => ∃ i j, xs = [.int i, .int j] ∧ Q (.int (if j < i then j else i)) H) (i2D min) := by
  intro xs vs G S H P Q n r t o
  obtain ⟨i, j, rfl, t⟩ := i2D_ok t
  obtain ⟨v, u, rfl, r1, r2⟩ := r.two
  simp only [Rep] at r1 r2
  subst r1 r2
  refine ⟨i, j, rfl, ?_⟩
  have e : (if j < i then j else i) = min i j := by split <;> omega
  rw [e]
  exact o.now n t (by simp only [Rep])
theorem lift_max {K : PySem.W.Frag} : LiftC K (fun xs H Q => ∃ i j, xs = [.int i, .int j] ∧ Q (.int (if j > i then j else i)) H) (i2D max) := by
  intro xs vs G S H P Q n r t o
  obtain ⟨i, j, rfl, t⟩ := i2D_ok t
  obtain ⟨v, u, rfl, r1, r2⟩ := r.two
  simp only [Rep] at r1 r2
  subst r1 r2
  refine ⟨i, j, rfl, ?_⟩
  have e : (if j > i then j else i) = max i j := by split <;> omega
  rw [e]
  exact o.now n t (by simp only [Rep])
def absD : RCD := fun xs S P => match xs with
  | [.int i] => P (.int (if i < 0 then -i else i)) S
  | _ => False
theorem lift_abs {K : PySem.W.Frag} : LiftC K (fun xs H Q => ∃ i, xs = [.int i] ∧ Q (.int (if i < 0 then -i else i)) H) absD := by
  intro xs vs G S H P Q n r t o
  unfold absD at t
  split at t
  · obtain ⟨v, ev, rx⟩ := r.one
    clear r
    subst ev
    have r := rx
    clear rx
    simp only [Rep] at r
    subst r
    exact ⟨_, rfl, o.now n t (by simp only [Rep])⟩
  · exact t.elim
def keysS (S : Sto) : D → Option (List (List Int))
  | .ref p => match S p with
    | some (.dI kvs) => some (kvs.map (·.1))
    | _ => none
  | _ => none
def listD (m : Bool) : RCD := fun xs S P => match xs with
  | [.tup ds] => newL m ds S P
  | [x] => match vl S x with
    | some ds => newL m ds S P
    | none => match keysS S x with
      | some ks => newL m (ks.map fun k => .tup (k.map .int)) S P
      | none => False
  | _ => False
theorem keys_reps {K : PySem.W.Frag} {G H : Hp} {S : Sto} (n : Nx K G S H) : ∀ {ks : List (List Int)} {vs : List V} {bs : List Addr}, ks.length = vs.length → IsKeys H ((ks.map fun k => (k.map Sum.inl : List Key)).zip vs) bs →
    Reps K (wo H S) (ks.map fun k => .tup (k.map .int)) (bs.map V.ref)
  | [], vs, bs, hl, h => by
    cases vs with
    | nil => cases h; exact Reps.nil
    | cons _ _ => simp at hl
  | k :: ks, vs, bs, hl, h => by
    cases vs with
    | nil => simp at hl
    | cons v vs =>
      cases h with
      | cons h t =>
        rename_i b bs
        refine Reps.cons ?_ (keys_reps n (by simpa using hl) t)
        simp only [Rep]
        have e : ((k.map Sum.inl : List Key).map kV) = k.map V.int := by rw [List.map_map]; rfl
        dsimp only at h
        rw [e] at h
        refine ⟨b, _, rfl, ?_, Reps.of_ints k⟩
        cases q : S b with
        | none => rw [wo_none q]; exact h
        | some c =>
          exfalso
          cases c with
          | ml _ => obtain ⟨_, z, _⟩ := n.ok b _ q; rw [h] at z; cases z
          | dI _ => obtain ⟨_, z, _⟩ := n.ok b _ q; rw [h] at z; cases z
          | dS _ => obtain ⟨_, z, _⟩ := n.ok b _ q; rw [h] at z; cases z
          | ins _ _ => obtain ⟨_, _, z, _⟩ := n.ok b _ q; rw [h] at z; cases z
def newLk (m : Bool) (o : Option (List (List Int))) (S : Sto) (P : D → Sto → Prop) : Prop := match o with
  | some ks => newL m (ks.map fun k => .tup (k.map .int)) S P
  | none => False
def newLo (m : Bool) (o : Option (List D)) (k : Option (List (List Int))) (S : Sto) (P : D → Sto → Prop) : Prop := match o with
  | some ds => newL m ds S P
  | none => newLk m k S P
theorem listD_eq (m : Bool) (x : D) (S : Sto) (P : D → Sto → Prop) (h : ∀ ds, x ≠ .tup ds) : listD m [x] S P = newLo m (vl S x) (keysS S x) S P := by
  unfold listD newLo newLk
  cases x with
  | tup ds => exact absurd rfl (h ds)
  | _ => rfl
theorem lift_list {K : PySem.W.Frag} {m : Bool} : LiftC K (fun xs H Q => (∃ p ys, xs = [.ref p] ∧ (SqL K H p ys ∨ SqT K H p ys) ∧ ∀ l, H l = none → Q (.ref l) (upd H l (.lst ys))) ∨
    (∃ d kvs, xs = [V.ref d] ∧ Rd H d (.dT kvs) ∧ ∀ p bs, H p = none → IsKeys H kvs bs → Q (.ref p) (upd H p (.lst (bs.map V.ref))))) (listD m) := by
  intro xs vs G S H P Q n r t o
  match xs, t with
  | [], t => exact t.elim
  | _ :: _ :: _, t => cases (show False by first | exact t | (unfold listD at t; split at t <;> simp_all))
  | [x], t =>
    obtain ⟨v, ev, rx⟩ := r.one
    clear r
    subst ev
    have r := rx
    clear rx
    by_cases ht : ∃ ds, x = .tup ds
    · obtain ⟨ds, rfl⟩ := ht
      simp only [Rep] at r
      obtain ⟨a, us, rfl, q, r⟩ := r
      exact .inl ⟨a, us, rfl, .inr (SqT.of (wo_le _ _ _ _ q)), fun l hl => newL_ok n r hl t o⟩
    · rw [listD_eq m x S P fun ds e => ht ⟨ds, e⟩] at t
      cases e : vl S x with
      | some ds =>
        rw [e] at t
        obtain ⟨a, us, rfl, q, r⟩ := vl_rep n r e
        exact .inl ⟨a, us, rfl, .inl q, fun l hl => newL_ok n r hl t o⟩
      | none =>
        rw [e] at t
        simp only [newLo] at t
        cases x with
        | ref p =>
          simp only [keysS] at t
          cases h : S p with
          | none => rw [h] at t; exact t.elim
          | some c =>
            rw [h] at t
            cases c with
            | dI kvs =>
              obtain ⟨us, q, r2⟩ := n.ok p _ h
              simp only [Rep] at r
              subst r
              refine .inr ⟨p, _, rfl, .inl q, fun l bs hl hk => ?_⟩
              have hlen := r2.len
              rw [List.length_map] at hlen
              have hk' : IsKeys H (((kvs.map (·.1)).map fun k => (k.map Sum.inl : List Key)).zip us) bs := by rw [List.map_map]; exact hk
              exact newL_ok n (keys_reps n (by rw [List.length_map]; exact hlen) hk') hl t o
            | ml _ => exact t.elim
            | dS _ => exact t.elim
            | ins _ _ => exact t.elim
        | _ => exact t.elim
def tupleD : RCD := fun xs S P => match xs with
  | [x] => match vm S x with
    | some ds => P (.tup ds) S
    | none => False
  | _ => False
theorem lift_tuple {K : PySem.W.Frag} : LiftC K (fun xs H Q => ∃ p ys, xs = [.ref p] ∧ ((SqL K H p ys ∧ ∀ l, H l = none → Q (.ref l) (upd H l (.tup ys))) ∨ (SqT K H p ys ∧ Q (.ref p) H))) tupleD := by
  intro xs vs G S H P Q n r t o
  match xs, t with
  | [], t => exact t.elim
  | _ :: _ :: _, t => exact t.elim
  | [x], t =>
    obtain ⟨v, ev, rx⟩ := r.one
    clear r
    subst ev
    have r := rx
    clear rx
    simp only [tupleD] at t
    cases e : vm S x with
    | none => rw [e] at t; exact t.elim
    | some ds =>
      rw [e] at t
      obtain ⟨a, us, rfl, q, r⟩ := vm_rep n r e
      exact ⟨a, us, rfl, .inl ⟨SqL.of q, fun l hl => newT_ok n r hl t o⟩⟩
def sortI (ns : List Int) : List Int := ns.mergeSort fun a b => decide (a ≤ b)
theorem sortI_perm (ns : List Int) : (sortI ns).Perm ns := List.mergeSort_perm ns _
theorem sortI_sorted (ns : List Int) : (sortI ns).Pairwise (· ≤ ·) := by
  have h := List.pairwise_mergeSort (le := fun a b : Int => decide (a ≤ b)) (by intro a b c; simp; omega) (by intro a b; simp; omega) ns
  exact h.imp fun h => by simpa using h
theorem sorted_uniq : ∀ {a b : List Int}, a.Perm b → a.Pairwise (· ≤ ·) → b.Pairwise (· ≤ ·) → a = b
  | [], b, p, _, _ => (List.nil_perm.mp p).symm
  | x :: xs, [], p, _, _ => absurd p (by simp)
  | x :: xs, y :: ys, p, ha, hb => by
    have h1 : x = y := by
      have m1 : x ∈ y :: ys := p.subset List.mem_cons_self
      have m2 : y ∈ x :: xs := p.symm.subset List.mem_cons_self
      rw [List.pairwise_cons] at ha hb
      rcases List.mem_cons.mp m1 with e | m1
      · exact e
      · rcases List.mem_cons.mp m2 with e | m2
        · exact e.symm
        · have l1 := hb.1 _ m1
          have l2 := ha.1 _ m2
          omega
    subst h1
    rw [sorted_uniq (List.Perm.cons_inv p) (List.Pairwise.of_cons ha) (List.Pairwise.of_cons hb)]
def sortedD (m : Bool) : RCD := fun xs S P => match xs with
  | [x] => match (vm S x).bind kInts with
    | some ns => newL m ((sortI ns).map .int) S P
    | none => False
  | _ => False
theorem lift_sorted {K : PySem.W.Frag} {m : Bool} : LiftC K (rSortedI K) (sortedD m) := by
  intro xs vs G S H P Q n r t o
  match xs, t with
  | [], t => exact t.elim
  | _ :: _ :: _, t => exact t.elim
  | [x], t =>
    obtain ⟨v, ev, rx⟩ := r.one
    clear r
    subst ev
    have r := rx
    clear rx
    simp only [sortedD] at t
    cases e : vm S x with
    | none => rw [e] at t; exact t.elim
    | some ds =>
      rw [e] at t
      simp only [Option.bind_some] at t
      cases e2 : kInts ds with
      | none => rw [e2] at t; exact t.elim
      | some ns =>
        rw [e2] at t
        have := kInts_eq e2
        subst this
        obtain ⟨a, us, rfl, q, r⟩ := vm_rep n r e
        have := r.ints
        subst this
        refine ⟨a, ns, rfl, SqL.of q, fun ns' p hp hs hl => ?_⟩
        have := sorted_uniq (hp.trans (sortI_perm ns).symm) hs (sortI_sorted ns)
        subst this
        exact newL_ok n (Reps.of_ints _) hl t o
section
variable {X : Cx} {G0 : Hp} {pos : Pos} {e e2 : Expr} {te te2 : TDE} {ta : TDA} {k : Nat}
theorem de_len {p : Pos} (hm : X.mg "len" = none) (ha : DA X G0 [e] ta) (hg : Gl X "len" := by rfl) (he : starEach [e] X.env = (false, eval e X.env) :: starEach [] X.env := by rfl) : DE X G0 (.Call (.Name "len" p) [e] [] pos) (dCB lenD ta) := de_callB (call_len.or call_len_dT) lift_len hg hm boot_len ha (he := he)
theorem de_min {p : Pos} (hc : X.calm = true) (hm : X.mg "min" = none) (ha : DA X G0 [e, e2] ta) (hg : Gl X "min" := by rfl) (he : starEach [e, e2] X.env = (false, eval e X.env) :: starEach [e2] X.env := by rfl) (hpl : (backTo pos (starEach [e2] X.env)).any (·.1) = false := by rfl) : DE X G0 (.Call (.Name "min" p) [e, e2] [] pos) (dCB (i2D min) ta) := de_callB (call_min2 hc) lift_min hg hm (by decide +kernel) ha (he := he) (hpl := hpl)
theorem de_max {p : Pos} (hc : X.calm = true) (hm : X.mg "max" = none) (ha : DA X G0 [e, e2] ta) (hg : Gl X "max" := by rfl) (he : starEach [e, e2] X.env = (false, eval e X.env) :: starEach [e2] X.env := by rfl) (hpl : (backTo pos (starEach [e2] X.env)).any (·.1) = false := by rfl) : DE X G0 (.Call (.Name "max" p) [e, e2] [] pos) (dCB (i2D max) ta) := de_callB (call_max2 hc) lift_max hg hm (by decide +kernel) ha (he := he) (hpl := hpl)
theorem de_abs {p : Pos} (hm : X.mg "abs" = none) (ha : DA X G0 [e] ta) (hg : Gl X "abs" := by rfl) (he : starEach [e] X.env = (false, eval e X.env) :: starEach [] X.env := by rfl) : DE X G0 (.Call (.Name "abs" p) [e] [] pos) (dCB absD ta) := de_callB call_abs lift_abs hg hm (by decide +kernel) ha (he := he)
theorem de_list {p : Pos} (m : Bool) (hc : X.calm = true) (hm : X.mg "list" = none) (ha : DA X G0 [e] ta) (hg : Gl X "list" := by rfl) (he : starEach [e] X.env = (false, eval e X.env) :: starEach [] X.env := by rfl) : DE X G0 (.Call (.Name "list" p) [e] [] pos) (dCB (listD m) ta) := de_callTy (call_list_of.or (call_list_dT hc)) lift_list hg hm (by decide +kernel) ha (he := he)
theorem de_tuple {p : Pos} (hm : X.mg "tuple" = none) (ha : DA X G0 [e] ta) (hg : Gl X "tuple" := by rfl) (he : starEach [e] X.env = (false, eval e X.env) :: starEach [] X.env := by rfl) : DE X G0 (.Call (.Name "tuple" p) [e] [] pos) (dCB tupleD ta) := de_callTy call_tuple_of lift_tuple hg hm (by decide +kernel) ha (he := he)
theorem de_sorted {p : Pos} (m : Bool) (hm : X.mg "sorted" = none) (ha : DA X G0 [e] ta) (hg : Gl X "sorted" := by rfl) (he : starEach [e] X.env = (false, eval e X.env) :: starEach [] X.env := by rfl) : DE X G0 (.Call (.Name "sorted" p) [e] [] pos) (dCB (sortedD m) ta) := de_callB cr_sortedI lift_sorted hg hm (by decide +kernel) ha (he := he)
end
end DL
namespace DL
open PySem L2
abbrev RMD := D → List D → Sto → (D → Sto → Prop) → Prop
def dLM (r : RMD) (to : TDE) (ta : TDA) : TDE := fun ρ S P => to ρ S fun x S1 => (vm S1 x).isSome = true ∧ ta ρ S1 fun ys S2 => r x ys S2 P
def dLM0 (r : RMD) (to : TDE) : TDE := fun ρ S P => to ρ S fun x S1 => (vm S1 x).isSome = true ∧ r x [] S1 P
def LiftM (K : PySem.W.Frag) (r : V → List V → Hp → VK → Prop) (r' : RMD) : Prop := ∀ x xs v vs G S H P Q, Nx K G S H → Rep K (wo H S) x v → Reps K (wo H S) xs vs → r' x xs S P → Owe K S H P Q → r v vs H Q
section
variable {X : Cx} {G0 : Hp} {o e : Expr} {es : List Expr} {to : TDE} {ta : TDA} {name : Str} {apos cpos : Pos} {id : String} {r : V → List V → Hp → VK → Prop} {r' : RMD}
theorem ty_list {K : PySem.W.Frag} {G H : Hp} {S : Sto} {d : D} {v : V} (n : Nx K G S H) (r : Rep K (wo H S) d v) (h : (vm S d).isSome = true) : tyV K "list" v H := by
  cases e : vm S d with
  | none => rw [e] at h; cases h
  | some xs =>
    obtain ⟨a, vs, rfl, q, _⟩ := vm_rep n r e
    exact .inl ⟨rfl, vs, SqL.of q⟩
theorem de_lm (slot : Slot "list" name id) (hty : typeOf (.builtin id) = pure (.type "method_descriptor")) (hm : MtR X id r) (hl : LiftM X.K r r') (ho : DE X G0 o to) (ha : DA X G0 (e :: es) ta)
    (hbase : attributeBase o name X.env (eval o X.env) = eval o X.env := by rfl)
    (hfew : ((backTo cpos (starEach (e :: es) X.env)).all (fun x => !x.1) && (backToKw cpos (keywordEach [] X.env)).all (fun x => x.1.isSome)
      && decide ((e :: es).length + ([] : List Keyword).length + (if ([] : List Keyword).isEmpty then 0 else 1) < 30)) = true := by rfl)
    (hline : (apos.endLine == cpos.line) = true := by rfl) (hs : starEach (e :: es) X.env = (false, eval e X.env) :: starEach es X.env := by rfl) (hplain : (backTo cpos (starEach es X.env)).any (·.1) = false := by rfl) :
    DE X G0 (.Call (.Attribute o name apos) (e :: es) [] cpos) (dLM r' to ta) :=
  PE.imp (pe_bm PySem.F.plainAttrs_list slot hty hm ho ha hbase hfew hline hs hplain) fun σ H Q ⟨ρ, S, P, st, t, oo⟩ =>
    ⟨ρ, S, _, st, t, fun d S1 v H1 t1 n1 r1 => ⟨ty_list n1 r1 t1.1, ρ, S1, _, st.next n1, t1.2, fun ds S2 vs H2 t2 n2 r2 =>
      hl d ds v vs _ S2 H2 P Q n2 (r1.mono n2.st) r2 t2 fun d S' v H' a b c => oo _ _ _ _ a (n1.trans (n2.trans b)) c⟩⟩
theorem de_lm0 (slot : Slot "list" name id) (hty : typeOf (.builtin id) = pure (.type "method_descriptor")) (hm : MtR X id r) (hl : LiftM X.K r r') (ho : DE X G0 o to)
    (hbase : attributeBase o name X.env (eval o X.env) = eval o X.env := by rfl) (hline : (apos.endLine == cpos.line) = true := by rfl) : DE X G0 (.Call (.Attribute o name apos) [] [] cpos) (dLM0 r' to) :=
  PE.imp (pe_bm0 PySem.F.plainAttrs_list slot hty hm ho hbase hline) fun σ H Q ⟨ρ, S, P, st, t, oo⟩ =>
    ⟨ρ, S, _, st, t, fun d S1 v H1 t1 n1 r1 => ⟨ty_list n1 r1 t1.1, hl d [] v [] _ S1 H1 P Q n1 r1 Reps.nil t1.2 fun d S' v H' a b c => oo _ _ _ _ a (n1.trans b) c⟩⟩
end
def cellL (S : Sto) : D → Option (Addr × List D)
  | .ref p => match S p with
    | some (.ml xs) => some (p, xs)
    | _ => none
  | _ => none
theorem cellL_ok {S : Sto} {d : D} {p : Addr} {xs : List D} (e : cellL S d = some (p, xs)) : d = .ref p ∧ S p = some (.ml xs) := by
  cases d with
  | ref q =>
    simp only [cellL] at e
    cases h : S q with
    | none => rw [h] at e; cases e
    | some c =>
      rw [h] at e
      cases c with
      | ml ys => cases e; exact ⟨rfl, h⟩
      | dI _ => cases e
      | dS _ => cases e
      | ins _ _ => cases e
  | _ => cases e
def onCell (S : Sto) (d : D) (k : Addr → List D → Prop) : Prop := match cellL S d with
  | some (p, xs) => k p xs
  | none => False
theorem onCell_ok {S : Sto} {d : D} {k : Addr → List D → Prop} (t : onCell S d k) : ∃ p xs, d = .ref p ∧ S p = some (.ml xs) ∧ k p xs := by
  unfold onCell at t
  cases e : cellL S d with
  | none => rw [e] at t; exact t.elim
  | some z =>
    obtain ⟨p, xs⟩ := z
    rw [e] at t
    obtain ⟨h1, h2⟩ := cellL_ok e
    exact ⟨p, xs, h1, h2, t⟩
theorem onCell_ml {S : Sto} {p : Addr} {xs : List D} {k : Addr → List D → Prop} (h : S p = some (.ml xs)) : onCell S (.ref p) k = k p xs := by
  simp only [onCell, cellL, h]
theorem wr_list {K : PySem.W.Frag} {G H : Hp} {S : Sto} {p : Addr} {xs : List D} {vs : List V} (n : Nx K G S H) {c0 : Cl} (h : S p = some c0) (r : Reps K (wo H S) xs vs) : Nx K (wo H S) (su S p (.ml xs)) (upd H p (.lst vs)) :=
  n.write h ⟨vs, upd_same, r⟩
def appendD : RMD := fun x ys S P => match ys with
  | [y] => onCell S x fun p xs => xs.length < sizeLine ∧ P .non (su S p (.ml (xs ++ [y])))
  | _ => False
theorem lift_append {K : PySem.W.Frag} : LiftM K rAppend appendD := by
  intro x ys v vs G S H P Q n rx ry t o
  match ys, t with
  | [], t => exact t.elim
  | _ :: _ :: _, t => exact t.elim
  | [y], t =>
    obtain ⟨u, rfl, ru⟩ := ry.one
    obtain ⟨p, xs, rfl, h, hl, t⟩ := onCell_ok t
    simp only [Rep] at rx
    obtain ⟨us, q, r⟩ := n.ok p _ h
    have n2 := wr_list n h (r.app (Reps.cons ru Reps.nil))
    exact ⟨p, us, u, rx, rfl, q, by rw [← r.len]; exact hl, o _ _ _ _ t n2 (by simp only [Rep])⟩
def popAtD : RMD := fun x ys S P => match ys with
  | [.int i] => onCell S x fun p xs => -(2 ^ 63) ≤ i ∧ i < 2 ^ 63 ∧ match seqIndex? i xs.length with
    | some k => match xs[k]? with
      | some d => P d (su S p (.ml (xs.eraseIdx k)))
      | none => False
    | none => False
  | _ => False
theorem Reps.eraseIdx {K : PySem.W.Frag} {G : Hp} : ∀ {ds : List D} {vs : List V} (k : Nat), Reps K G ds vs → Reps K G (ds.eraseIdx k) (vs.eraseIdx k)
  | [], vs, k, h => by simp only [Reps] at h; subst h; simpa using Reps.nil
  | d :: ds, vs, 0, h => by
    simp only [Reps] at h
    obtain ⟨v, r, rfl, q, s⟩ := h
    exact s
  | d :: ds, vs, k + 1, h => by
    simp only [Reps] at h
    obtain ⟨v, r, rfl, q, s⟩ := h
    exact Reps.cons q (Reps.eraseIdx k s)
theorem lift_popAt {K : PySem.W.Frag} : LiftM K rPopAt popAtD := by
  intro x ys v vs G S H P Q n rx ry t o
  unfold popAtD at t
  split at t
  · rename_i i
    obtain ⟨u, rfl, ru⟩ := ry.one
    obtain ⟨p, xs, rfl, h, h1, h2, t⟩ := onCell_ok t
    simp only [Rep] at rx ru
    subst ru
    obtain ⟨us, q, r⟩ := n.ok p _ h
    cases e : seqIndex? i xs.length with
    | none => rw [e] at t; exact t.elim
    | some k =>
      rw [e] at t
      dsimp only at t
      cases e2 : xs[k]? with
      | none => rw [e2] at t; exact t.elim
      | some d =>
        rw [e2] at t
        obtain ⟨w, hw, rw'⟩ := r.get e2
        have n2 := wr_list n h (r.eraseIdx k)
        exact ⟨p, us, i, k, w, rx, rfl, q, h1, h2, by rw [← r.len]; exact e, hw, o _ _ _ _ t n2 (rw'.mono n2.st)⟩
  · exact t.elim
def rev0D : RMD := fun x ys S P => match ys with
  | [] => onCell S x fun p xs => P .non (su S p (.ml xs.reverse))
  | _ => False
theorem lift_reverse {K : PySem.W.Frag} : LiftM K rReverse rev0D := by
  intro x ys v vs G S H P Q n rx ry t o
  match ys, t with
  | [], t =>
    simp only [Reps] at ry
    obtain ⟨p, xs, rfl, h, t⟩ := onCell_ok t
    simp only [Rep] at rx
    obtain ⟨us, q, r⟩ := n.ok p _ h
    exact ⟨p, us, rx, ry, q, o _ _ _ _ t (wr_list n h r.rev) (by simp only [Rep])⟩
  | _ :: _, t => exact t.elim
def clearD : RMD := fun x ys S P => match ys with
  | [] => onCell S x fun p xs => P .non (su S p (.ml []))
  | _ => False
theorem lift_clear {K : PySem.W.Frag} : LiftM K rClear clearD := by
  intro x ys v vs G S H P Q n rx ry t o
  match ys, t with
  | [], t =>
    simp only [Reps] at ry
    obtain ⟨p, xs, rfl, h, t⟩ := onCell_ok t
    simp only [Rep] at rx
    obtain ⟨us, q, r⟩ := n.ok p _ h
    exact ⟨p, us, rx, ry, q, o _ _ _ _ t (wr_list n h Reps.nil) (by simp only [Rep])⟩
  | _ :: _, t => exact t.elim
def isDS (S : Sto) : D → Bool
  | .ref p => match S p with
    | some (.dI _) => true
    | some (.dS _) => true
    | _ => false
  | _ => false
theorem isDS_ok {K : PySem.W.Frag} {G H : Hp} {S : Sto} {d : D} {v : V} (n : Nx K G S H) (r : Rep K (wo H S) d v) (h : isDS S d = true) : ∃ a, v = .ref a ∧ IsD H a := by
  cases d with
  | ref p =>
    simp only [Rep] at r
    simp only [isDS] at h
    cases e : S p with
    | none => rw [e] at h; cases h
    | some c =>
      rw [e] at h
      cases c with
      | dI _ => obtain ⟨_, z, _⟩ := n.ok p _ e; exact ⟨p, r, .inr ⟨_, .inl z⟩⟩
      | dS _ => obtain ⟨_, z, _⟩ := n.ok p _ e; exact ⟨p, r, .inl ⟨_, .inl z⟩⟩
      | ml _ => cases h
      | ins _ _ => cases h
  | _ => cases h
def getK (o : Option (Option D)) (z : D) (S : Sto) (P : D → Sto → Prop) : Prop := match o with
  | some o => P (o.getD z) S
  | none => False
def dGet1 (td ty : TDE) : TDE := fun ρ S P => td ρ S fun x S1 => isDS S1 x = true ∧ ty ρ S1 fun y S2 => getK (dgetS S2 x y) .non S2 P
def dGet2 (td ty tx : TDE) : TDE := fun ρ S P => td ρ S fun x S1 => isDS S1 x = true ∧ ty ρ S1 fun y S2 => tx ρ S2 fun z S3 => getK (dgetS S3 x y) z S3 P
section
variable {X : Cx} {G0 : Hp} {o e f : Expr} {td ty tx : TDE} {apos cpos : Pos} {k : Nat}
theorem de_get1 (hr : Room k X.A) (ho : DE X G0 o td) (he : DE X G0 e ty) (m : M1 X o "get" apos e cpos := by exact ⟨rfl, rfl, rfl, rfl⟩) : DE X G0 (.Call (.Attribute o "get" apos) [e] [] cpos) (dGet1 td ty) :=
  PE.imp (pe_dget1 (hu_of hr) ho he m) fun σ H Q ⟨ρ, S, P, st, t, oo⟩ => ⟨ρ, S, _, st, t, fun x S1 v H1 t1 n1 r1 => by
    obtain ⟨a, rfl, hi⟩ := isDS_ok n1 r1 t1.1
    refine ⟨a, rfl, hi, ρ, S1, _, st.next n1, t1.2, fun y S2 u H2 t2 n2 r2 => ?_⟩
    cases e : dgetS S2 x y with
    | none => rw [e] at t2; exact t2.elim
    | some z =>
      rw [e] at t2
      obtain ⟨b, ov, eb, g, _, r⟩ := dgetS_ok n2 (r1.mono n2.st) r2 e
      cases eb
      exact ⟨ov, g, oo _ _ _ _ t2 (n1.trans n2) (r.getD (by simp only [Rep]))⟩⟩
theorem de_get2 (hr : Room k X.A) (ho : DE X G0 o td) (he : DE X G0 e ty) (hf : DE X G0 f tx) (m : M2 X o "get" apos e f cpos := by exact ⟨rfl, rfl, rfl, rfl⟩) : DE X G0 (.Call (.Attribute o "get" apos) [e, f] [] cpos) (dGet2 td ty tx) :=
  PE.imp (pe_dget2 (hu_of hr) ho he hf m) fun σ H Q ⟨ρ, S, P, st, t, oo⟩ => ⟨ρ, S, _, st, t, fun x S1 v H1 t1 n1 r1 => by
    obtain ⟨a, rfl, hi⟩ := isDS_ok n1 r1 t1.1
    refine ⟨a, rfl, hi, ρ, S1, _, st.next n1, t1.2, fun y S2 u H2 t2 n2 r2 => ⟨ρ, S2, _, (st.next n1).next n2, t2, fun z S3 w H3 t3 n3 r3 => ?_⟩⟩
    cases e : dgetS S3 x y with
    | none => rw [e] at t3; exact t3.elim
    | some z' =>
      rw [e] at t3
      obtain ⟨b, ov, eb, g, _, r⟩ := dgetS_ok n3 (r1.mono (n2.trans n3).st) (r2.mono n3.st) e
      cases eb
      exact ⟨ov, g, oo _ _ _ _ t3 (n1.trans (n2.trans n3)) (r.getD r3)⟩⟩
end
theorem lookup_zip {K : PySem.W.Frag} {G : Hp} (f : Str) : ∀ {fs : List (Str × D)} {vs : List V}, Reps K G (fs.map (·.2)) vs → ORep K G (fs.lookup f) (((fs.map (·.1)).zip vs).lookup f)
  | [], vs, r => True.intro
  | (g, d) :: fs, vs, r => by
    simp only [List.map_cons, Reps] at r
    obtain ⟨v, t, rfl, q, s⟩ := r
    simp only [List.map_cons, List.zip_cons_cons, List.lookup_cons]
    cases h : f == g with
    | true => exact q
    | false => exact lookup_zip f s
def onIns (C : Addr) (S : Sto) (d : D) (k : Addr → List (Str × D) → Prop) : Prop := match d with
  | .ref p => match S p with
    | some (.ins C' fs) => C' = C ∧ k p fs
    | _ => False
  | _ => False
theorem onIns_ok {C : Addr} {S : Sto} {d : D} {k : Addr → List (Str × D) → Prop} (t : onIns C S d k) : ∃ p fs, d = .ref p ∧ S p = some (.ins C fs) ∧ k p fs := by
  unfold onIns at t
  split at t
  · rename_i p
    split at t
    · rename_i e
      obtain ⟨rfl, t⟩ := t
      exact ⟨p, _, rfl, e, t⟩
    · exact t.elim
  · exact t.elim
theorem onIns_at {C : Addr} {S : Sto} {p : Addr} {fs : List (Str × D)} {k : Addr → List (Str × D) → Prop} (h : S p = some (.ins C fs)) : onIns C S (.ref p) k = k p fs := by
  simp only [onIns, h, true_and]
def getF (o : Option D) (S : Sto) (P : D → Sto → Prop) : Prop := match o with
  | some d => P d S
  | none => False
def dFld (C : Addr) (f : Str) (te : TDE) : TDE := fun ρ S P => te ρ S fun x S1 => onIns C S1 x fun _ fs => getF (fs.lookup f) S1 P
def putFD (f : Str) (v : D) : List (Str × D) → List (Str × D)
  | [] => [(f, v)]
  | (g, u) :: r => if g = f then (g, v) :: r else (g, u) :: putFD f v r
def dSetFld (C : Addr) (f : Str) (to te : TDE) : TDS := fun D ρ S => te ρ S fun y S1 => to ρ S1 fun x S2 => onIns C S2 x fun p fs => fs.length < 1000 ∧ D.nx ρ (su S2 p (.ins C (putFD f y fs)))
end DL
namespace DL
open PySem L2

section
variable {X : Cx} {G0 : Hp} {o e value : Expr} {f : Str} {pos pos' : Pos} {to te : TDE} {C : Addr}
theorem de_fld (c : Cls X.K C) (na : NoAttr X.K C f) (he : DE X G0 e te) (hb : attributeBase e f X.env (eval e X.env) = eval e X.env := by rfl) : DE X G0 (.Attribute e f pos) (dFld C f te) :=
  PE.imp (pe_fld he hb) fun σ H Q ⟨ρ, S, P, st, t, oo⟩ => ⟨ρ, S, _, st, t, fun x S1 v H1 t1 n1 r1 => by
    obtain ⟨p, fs, rfl, h, t1⟩ := onIns_ok t1
    simp only [Rep] at r1
    obtain ⟨dx, vs, q, r⟩ := n1.ok p _ h
    cases e : fs.lookup f with
    | none => rw [e] at t1; exact t1.elim
    | some d =>
      rw [e] at t1
      have l := lookup_zip f r
      rw [e] at l
      obtain ⟨w, hw, rw'⟩ := l.some_of
      exact ⟨p, C, dx, _, w, r1, q, c, na, hw, oo _ _ _ _ t1 n1 rw'⟩⟩
theorem putF_zip {K : PySem.W.Frag} {G : Hp} {f : Str} {d : D} {v : V} (q : Rep K G d v) : ∀ {fs : List (Str × D)} {vs : List V}, Reps K G (fs.map (·.2)) vs →
    ∃ us, putF f v ((fs.map (·.1)).zip vs) = ((putFD f d fs).map (·.1)).zip us ∧ Reps K G ((putFD f d fs).map (·.2)) us
  | [], vs, r => by
    simp only [List.map_nil, Reps] at r; subst r
    exact ⟨[v], rfl, Reps.cons q Reps.nil⟩
  | (g, u) :: fs, vs, r => by
    simp only [List.map_cons, Reps] at r
    obtain ⟨w, t, rfl, q', s⟩ := r
    by_cases e : g = f
    · refine ⟨v :: t, ?_, ?_⟩
      · simp only [putFD, putF, List.map_cons, List.zip_cons_cons, if_pos e]
      · simp only [putFD, if_pos e, List.map_cons]; exact Reps.cons q s
    · obtain ⟨us, e1, r1⟩ := putF_zip (f := f) q s
      refine ⟨w :: us, ?_, ?_⟩
      · simp only [putFD, putF, List.map_cons, List.zip_cons_cons, if_neg e, e1]
      · simp only [putFD, if_neg e, List.map_cons]; exact Reps.cons q' r1
theorem ds_fld (c : Cls X.K C) (na : NoAttr X.K C f) (ho : DE X G0 o to) (hv : DE X G0 value te) (hs : swapsWith value (some (.Attribute o f pos')) pos.line X.env = pure false := by rfl) : DS X G0 (.Assign [.Attribute o f pos'] value pos) (dSetFld C f to te) :=
  PS.imp (ps_fld ho hv hs) fun D σ H ⟨ρ, S, dD, st, t, oo⟩ => ⟨ρ, S, _, st, t, fun y S1 v H1 t1 n1 r1 => ⟨ρ, S1, _, st.next n1, t1, fun x S2 u H2 t2 n2 r2 => by
    obtain ⟨p, fs, rfl, h, hl, t2⟩ := onIns_ok t2
    simp only [Rep] at r2
    obtain ⟨dx, vs, q, r⟩ := n2.ok p _ h
    obtain ⟨us, e1, r3⟩ := putF_zip (f := f) (r1.mono n2.st) r
    have hl2 : ((fs.map (·.1)).zip vs).length < 1000 := by rw [List.length_zip, List.length_map]; omega
    refine ⟨p, C, dx, _, r2, q, c, na, hl2, oo.nx _ _ _ _ t2 ?_⟩
    rw [e1]
    exact ((st.next n1).next n2).next (n2.write h ⟨dx, us, upd_same, r3⟩)⟩⟩
end
abbrev DSp := List D → Sto → (D → Sto → Prop) → (Addr → Sto → Prop) → Prop
def upSp (K : PySem.W.Frag) (p : DSp) : Sp := fun vs H Q E => ∃ ds S P dE, Nx K (wo H S) S H ∧ Reps K (wo H S) ds vs ∧ p ds S P dE ∧ Owe K S H P Q ∧
  ∀ C S' H', dE C S' → Nx K (wo H S) S' H' → E (.ref C) none H'
def dCall (sp : DSp) (W : WD) (ta : TDA) : TDE := fun ρ S P => ta ρ S fun ds S1 => sp ds S1 P fun C S' => W C ρ S'
def dMeth (C : Addr) (m : Str) (sp : DSp) (W : WD) (to : TDE) (ta : TDA) : TDE := fun ρ S P => to ρ S fun x S1 => onIns C S1 x fun _ fs => (fs.lookup m).isNone = true ∧ ta ρ S1 fun ds S2 => sp (x :: ds) S2 P fun C S' => W C ρ S'
def dMake (C : Addr) (sp : DSp) (W : WD) (ta : TDA) : TDE := fun ρ S P => ta ρ S fun ds S1 => ∀ x, S1 x = none → sp (.ref x :: ds) (su S1 x (.ins C [])) (fun d S2 => d = .non ∧ P (.ref x) S2) fun C S' => W C ρ S'
section
variable {X : Cx} {G0 : Hp} {k : Nat} {f C : Addr} {fd : FuncData} {ps : List Str} {sp : DSp} {W : WD} {x m : Str} {p pos apos : Pos} {e o : Expr} {es : List Expr} {ta : TDA} {to : TDE}
theorem de_call (F : FnOk X.prog X.w X.K X.mg X.base (L2.CX X.prog X.w) k f fd ps (upSp X.K sp)) (hr : Room k X.A) (hm : X.mg x = some (.ref f)) (hk : PySem.W.keepIn X.K (.ref f) = true) (hb : Binds X.K fd ps []) (tk : Takes X (upW X.K G0 W))
    (ha : DA X G0 (e :: es) ta) (hg : Gl X x := by rfl) (hdb : (x == ("__debug__" : Str)) = false := by decide) (he : starEach (e :: es) X.env = (false, eval e X.env) :: starEach es X.env := by rfl) (hpl : (backTo pos (starEach es X.env)).any (·.1) = false := by rfl) :
    DE X G0 (.Call (.Name x p) (e :: es) [] pos) (dCall sp W ta) :=
  PE.imp (pe_callS (E := WE (upW X.K G0 W)) F hr hg hm hk hb (passAt tk) ha hdb he hpl) fun σ H Q ⟨ρ, S, P, st, t, oo⟩ => ⟨ρ, S, _, st, t, fun ds S1 vs H1 t1 n1 r1 =>
    ⟨ds, S1, P, _, n1.refl, r1, t1, fun d S' v H' a b c => oo _ _ _ _ a (n1.trans b) c, fun C' S' H' w n2 => ⟨ρ, S', C', rfl, rfl, (st.next n1).next n2, w⟩⟩⟩
theorem pe_methE {sp : Sp} {E : St → XK} {pl : Sem Bool} {ta : TE} {t : TA} (he : PE X o ta) (c : Cls X.K C) (hm : Meth X.K C m f) (F : FnOk X.prog X.w X.K X.mg X.base (L2.CX X.prog X.w) k f fd ps sp) (hr : Room k X.A) (hb : Binds X.K fd ps []) (hx : ∀ σ, PassesAt (L2.CX X.prog X.w) X σ (E σ)) (ha : PA X (e :: es) t)
    (hst : starEach (e :: es) X.env = (false, eval e X.env) :: starEach es X.env := by rfl) (hpl : (backTo pos (starEach es X.env)).any (·.1) = false := by rfl)
    (ht : eval (.Call (.Attribute o m apos) (e :: es) [] pos) X.env = (do
      let ov ← eval o X.env
      standAt apos.atName
      let (f, first) ← holding [ov] (getMethod ov m pl)
      callWith pos f first (backTo pos (starEach (e :: es) X.env)) (backToKw pos (keywordEach [] X.env))) := by rfl) :
    PE X (.Call (.Attribute o m apos) (e :: es) [] pos) (fun σ H Q => ta σ H fun x H1 => ∃ a dx fs, x = .ref a ∧ H1 a = some (.ins C dx fs) ∧ fs.lookup m = none ∧ t σ H1 fun vs H2 => sp (x :: vs) H2 Q (E σ)) := by
  refine ⟨fun pins s σ H Q I h => ?_⟩
  refine PySem.W.methodCall_KW (pl := pl) (thn (he.run pins s σ H _ I h) fun u s1 ⟨x, H1, I1, rx, a, dx, fs, ex, ea, l, q⟩ => ?_) ht
  subst ex
  obtain rfl : u = Value.ref a := rx
  refine getmeth_ok I1 ea c hm l ?_
  refine PySem.W.callWith_K (first := [.ref a]) (h₀ := X.base) I.ok.mod.kin hm.kp (thn (ha.run pos pins s1 σ H1 _ I1 q) fun us s2 ⟨vs, H2, I2, r, q2⟩ => ⟨I2.kIn, ?_⟩) hst hpl
  exact run_fnS (us := .ref a :: us) (vs := .ref a :: vs) F hr hb (hx σ) I2 (.cons rfl r) q2
theorem pe_methE0 {sp : Sp} {E : St → XK} {pl : Sem Bool} {ta : TE} (he : PE X o ta) (c : Cls X.K C) (hm : Meth X.K C m f) (F : FnOk X.prog X.w X.K X.mg X.base (L2.CX X.prog X.w) k f fd ps sp) (hr : Room k X.A) (hb : Binds X.K fd ps []) (hx : ∀ σ, PassesAt (L2.CX X.prog X.w) X σ (E σ))
    (ht : eval (.Call (.Attribute o m apos) [] [] pos) X.env = (do
      let ov ← eval o X.env
      standAt apos.atName
      let (f, first) ← holding [ov] (getMethod ov m pl)
      callWith pos f first (backTo pos (starEach [] X.env)) (backToKw pos (keywordEach [] X.env))) := by rfl) :
    PE X (.Call (.Attribute o m apos) [] [] pos) (fun σ H Q => ta σ H fun x H1 => ∃ a dx fs, x = .ref a ∧ H1 a = some (.ins C dx fs) ∧ fs.lookup m = none ∧ sp [x] H1 Q (E σ)) := by
  refine ⟨fun pins s σ H Q I h => ?_⟩
  refine PySem.W.methodCall_KW (pl := pl) (thn (he.run pins s σ H _ I h) fun u s1 ⟨x, H1, I1, rx, a, dx, fs, ex, ea, l, q⟩ => ?_) ht
  subst ex
  obtain rfl : u = Value.ref a := rx
  refine getmeth_ok I1 ea c hm l ?_
  exact PySem.W.callWith_K0 (first := [.ref a]) I1.kIn hm.kp (run_fnS (us := [.ref a]) (vs := [.ref a]) F hr hb (hx σ) I1 (.cons rfl .nil) q)
theorem lookup_none {K : PySem.W.Frag} {G : Hp} {fs : List (Str × D)} {vs : List V} (r : Reps K G (fs.map (·.2)) vs) (h : (fs.lookup m).isNone = true) : ((fs.map (·.1)).zip vs).lookup m = none := by
  have l := lookup_zip m r
  cases e : fs.lookup m with
  | some d => rw [e] at h; cases h
  | none =>
    rw [e] at l
    cases e2 : ((fs.map (·.1)).zip vs).lookup m with
    | none => rfl
    | some v => rw [e2] at l; exact l.elim
theorem de_meth {pl : Sem Bool} (F : FnOk X.prog X.w X.K X.mg X.base (L2.CX X.prog X.w) k f fd ps (upSp X.K sp)) (hr : Room k X.A) (c : Cls X.K C) (hm : Meth X.K C m f) (hb : Binds X.K fd ps []) (tk : Takes X (upW X.K G0 W)) (ho : DE X G0 o to) (ha : DA X G0 (e :: es) ta)
    (hst : starEach (e :: es) X.env = (false, eval e X.env) :: starEach es X.env := by rfl) (hpl : (backTo pos (starEach es X.env)).any (·.1) = false := by rfl)
    (ht : eval (.Call (.Attribute o m apos) (e :: es) [] pos) X.env = (do
      let ov ← eval o X.env
      standAt apos.atName
      let (f, first) ← holding [ov] (getMethod ov m pl)
      callWith pos f first (backTo pos (starEach (e :: es) X.env)) (backToKw pos (keywordEach [] X.env))) := by rfl) :
    DE X G0 (.Call (.Attribute o m apos) (e :: es) [] pos) (dMeth C m sp W to ta) :=
  PE.imp (pe_methE (E := WE (upW X.K G0 W)) (pl := pl) ho c hm F hr hb (passAt tk) ha hst hpl ht) fun σ H Q ⟨ρ, S, P, st, t, oo⟩ => ⟨ρ, S, _, st, t, fun d S1 v H1 t1 n1 r1 => by
    obtain ⟨a, fs, rfl, h, hl, t1⟩ := onIns_ok t1
    simp only [Rep] at r1
    obtain ⟨dx, vs, q, r⟩ := n1.ok a _ h
    refine ⟨a, dx, _, r1, q, lookup_none r hl, ρ, S1, _, st.next n1, t1, fun ds S2 us H2 t2 n2 r2 => ?_⟩
    exact ⟨_, S2, P, _, n2.refl, Reps.cons (by simp only [Rep]; exact r1) r2, t2, fun d S' v H' a b c => oo _ _ _ _ a (n1.trans (n2.trans b)) c, fun C' S' H' w n3 => ⟨ρ, S', C', rfl, rfl, ((st.next n1).next n2).next n3, w⟩⟩⟩
theorem de_meth0 {pl : Sem Bool} (F : FnOk X.prog X.w X.K X.mg X.base (L2.CX X.prog X.w) k f fd ps (upSp X.K sp)) (hr : Room k X.A) (c : Cls X.K C) (hm : Meth X.K C m f) (hb : Binds X.K fd ps []) (tk : Takes X (upW X.K G0 W)) (ho : DE X G0 o to)
    (ht : eval (.Call (.Attribute o m apos) [] [] pos) X.env = (do
      let ov ← eval o X.env
      standAt apos.atName
      let (f, first) ← holding [ov] (getMethod ov m pl)
      callWith pos f first (backTo pos (starEach [] X.env)) (backToKw pos (keywordEach [] X.env))) := by rfl) :
    DE X G0 (.Call (.Attribute o m apos) [] [] pos) (dMeth C m sp W to dNil) :=
  PE.imp (pe_methE0 (E := WE (upW X.K G0 W)) (pl := pl) ho c hm F hr hb (passAt tk) ht) fun σ H Q ⟨ρ, S, P, st, t, oo⟩ => ⟨ρ, S, _, st, t, fun d S1 v H1 t1 n1 r1 => by
    obtain ⟨a, fs, rfl, h, hl, t1⟩ := onIns_ok t1
    simp only [Rep] at r1
    obtain ⟨dx, vs, q, r⟩ := n1.ok a _ h
    refine ⟨a, dx, _, r1, q, lookup_none r hl, ?_⟩
    exact ⟨_, S1, P, _, n1.refl, Reps.cons (by simp only [Rep]; exact r1) Reps.nil, t1, fun d S' v H' a b c => oo _ _ _ _ a (n1.trans b) c, fun C' S' H' w n3 => ⟨ρ, S', C', rfl, rfl, (st.next n1).next n3, w⟩⟩⟩
theorem run_makeE {sp : Sp} {E : St → XK} {pins : List (Addr × Obj)} {σ : St} {H : Hp} {s : Shared} {Q : VK} {us : List Value} {vs : List V} (M : Mk X.K C f) (F : FnOk X.prog X.w X.K X.mg X.base (L2.CX X.prog X.w) k f fd ps sp) (hr : Room (k + 1) X.A) (hb : Binds X.K fd ps [])
    (hx : PassesAt (L2.CX X.prog X.w) X σ (E σ)) (I : Inv X pins σ H s) (r : Vals vs us)
    (h : ∀ x dx, H x = none → H dx = none → dx ≠ x → sp (.ref x :: vs) (upd (upd H dx (.own x)) x (.ins C dx [])) (fun v H2 => v = .non ∧ Q (.ref x) H2) (E σ)) :
    wpAny (model X.prog X.w) X.A (call (.ref C) us) (EP X pins σ Q) X.xe s := by
  have hq := h (s.heap.objs.size + 1) s.heap.objs.size (I.hok.fresh (Nat.le_succ _)) (I.hok.fresh (Nat.le_refl _)) (Nat.ne_of_lt (Nat.lt_succ_self _))
  have I2 := Inv.made (C := C) I
  have r2 : Vals (V.ref (s.heap.objs.size + 1) :: vs) (Value.ref (s.heap.objs.size + 1) :: us) := .cons rfl r
  have hl : (Value.ref (s.heap.objs.size + 1) :: us ++ []).length = ps.length := by
    have e := r2.length
    rw [F.len _ _ _ _ hq] at e
    rw [List.append_nil]
    exact e.symm
  have b := hb _ (Value.ref (s.heap.objs.size + 1) :: us) I2.kIn hl
  rw [List.append_nil] at b
  refine wpAny_call (make_map (f := f) I.kIn M.makes M.init (beq_iff_eq.mp M.fn) (codeAny_mono (F.run _ X.stack _ _ ⟨Value.ref (s.heap.objs.size + 1) :: us, []⟩ (Value.ref (s.heap.objs.size + 1) :: us) _ _ (E σ) (hr.make C us [])
    (I2.env0.make C us []) b r2 hq) fun r s' hq' => ?_))
  cases r with
  | error e => exact hx pins _ _ e s' I2 hq'
  | ok fl =>
    cases fl with
    | ret u =>
      obtain ⟨v, H', I3, rv, ev, q3⟩ := I2.after hq'
      subst ev
      exact ⟨rv, ⟨V.ref (s.heap.objs.size + 1), H', I3, rfl, q3⟩⟩
    | next => exact False.elim hq'
    | brk => exact False.elim hq'
    | cont => exact False.elim hq'
theorem de_make (M : Mk X.K C f) (F : FnOk X.prog X.w X.K X.mg X.base (L2.CX X.prog X.w) k f fd ps (upSp X.K sp)) (hr : Room (k + 1) X.A) (hm : X.mg x = some (.ref C)) (hb : Binds X.K fd ps []) (tk : Takes X (upW X.K G0 W))
    (ha : DA X G0 (e :: es) ta) (hg : Gl X x := by rfl) (hdb : (x == ("__debug__" : Str)) = false := by decide) (he : starEach (e :: es) X.env = (false, eval e X.env) :: starEach es X.env := by rfl) (hpl : (backTo pos (starEach es X.env)).any (·.1) = false := by rfl) :
    DE X G0 (.Call (.Name x p) (e :: es) [] pos) (dMake C sp W ta) := by
  refine ⟨fun pins s σ H Q I h => ?_⟩
  obtain ⟨ρ, S, P, st, t, oo⟩ := h
  refine wpAny_Call_Name_kw (ld_glob I hg hm ?_ hdb)
  refine PySem.W.callWith_K (h₀ := X.base) I.ok.mod.kin M.kp (thn (ha.run pos pins s σ H (fun vs H1 => ∃ ds S1, Nx X.K (wo H S) S1 H1 ∧ Reps X.K (wo H1 S1) ds vs ∧ ∀ x, S1 x = none → sp (.ref x :: ds) (su S1 x (.ins C [])) (fun d S2 => d = .non ∧ P (.ref x) S2) fun C S' => W C ρ S') I
    ⟨ρ, S, _, st, t, fun ds S1 vs H1 t1 n1 r1 => ⟨ds, S1, n1, r1, t1⟩⟩) fun us s1 ⟨vs, H1, I1, r, ds, S1, n1, r1, t1⟩ => ⟨I1.kIn, ?_⟩) he hpl
  refine run_makeE (E := WE (upW X.K G0 W)) M F hr hb (passAt tk σ) I1 r fun x dx hx hdx hne => ?_
  have nA : Nx X.K (wo H1 S1) S1 (upd H1 dx (.own x)) := n1.alloc hdx
  have hx2 : upd H1 dx (.own x) x = none := by rw [upd_ne (Ne.symm hne)]; exact hx
  have nB : Nx X.K (wo (upd H1 dx (.own x)) S1) (su S1 x (.ins C [])) (upd (upd H1 dx (.own x)) x (.ins C dx [])) := nA.cell hx2 fun G' s => ⟨dx, [], upd_same, Reps.nil⟩
  have n2 := nA.trans nB
  refine ⟨_, _, _, _, n2.refl, Reps.cons (by simp only [Rep]) (r1.mono n2.st), t1 x (n1.free hx), fun d S' v H' a b c => ?_, fun C' S' H' w n3 => ⟨ρ, S', C', rfl, rfl, ((st.next n1).next n2).next n3, w⟩⟩
  obtain ⟨rfl, a⟩ := a
  simp only [Rep] at c
  exact ⟨c, oo _ _ _ _ a (n1.trans (n2.trans b)) (by simp only [Rep])⟩
end
def dAndT (t u : TDT) : TDT := fun ρ S P => t ρ S fun c S1 => if c = true then u ρ S1 P else P false S1
def dOrT (t u : TDT) : TDT := fun ρ S P => t ρ S fun c S1 => if c = true then P true S1 else u ρ S1 P
def dNotT (t : TDT) : TDT := fun ρ S P => t ρ S fun c S1 => P (!c) S1
def dAndV (ta tb : TDE) : TDE := fun ρ S P => ta ρ S fun x S1 => match x with
  | .bl c => if c = true then tb ρ S1 P else P (.bl false) S1
  | _ => False
def dOrV (ta tb : TDE) : TDE := fun ρ S P => ta ρ S fun x S1 => match x with
  | .bl c => if c = true then P (.bl true) S1 else tb ρ S1 P
  | _ => False
def dNotV (ta : TDE) : TDE := fun ρ S P => ta ρ S fun x S1 => match x with
  | .bl c => P (.bl (!c)) S1
  | _ => False
def dIf (t : TDT) (ta tb : TDE) : TDE := fun ρ S P => t ρ S fun c S1 => if c = true then ta ρ S1 P else tb ρ S1 P
section
variable {X : Cx} {G0 : Hp} {a b : Expr} {rest : List Expr} {ta tb : TDE} {tA tB : TDT} {pos : Pos}
theorem bl_rep {K : PySem.W.Frag} {G : Hp} {d : D} {v : V} {P : Bool → Prop} (t : match d with | .bl c => P c | _ => False) (r : Rep K G d v) : ∃ c, v = .bl c ∧ P c := by
  cases d with
  | bl c => simp only [Rep] at r; exact ⟨c, r, t⟩
  | _ => exact t.elim
theorem dt_val (h : DE X G0 a ta) (he : ∀ whole, isTrue a X.env whole = (do let v ← whole; standAt a.pos; holding [v] (truthy v)) := by intro _; rfl) : DT X G0 a (dB ta) :=
  PT.imp (pt_val h he) fun σ H Q ⟨ρ, S, P, st, t, o⟩ => ⟨ρ, S, _, st, t, fun d S1 v H1 t1 n1 r1 => by
    cases d with
    | bl c => simp only [Rep] at r1; exact ⟨c, r1, o _ _ _ t1 n1⟩
    | _ => exact t1.elim⟩
theorem up_and (σ : St) (H : Hp) (Q : Bool → Hp → Prop) (h : upT X.K G0 (dAndT tA tB) σ H Q) : tAnd (upT X.K G0 tA) (upT X.K G0 tB) σ H Q := by
  obtain ⟨ρ, S, P, st, t, o⟩ := h
  refine ⟨ρ, S, _, st, t, fun c S1 H1 t1 n1 => ?_⟩
  cases c with
  | true => exact ⟨ρ, S1, _, st.next n1, t1, fun b S' H' p n => o _ _ _ p (n1.trans n)⟩
  | false => exact o _ _ _ t1 n1
theorem up_or (σ : St) (H : Hp) (Q : Bool → Hp → Prop) (h : upT X.K G0 (dOrT tA tB) σ H Q) : tOr (upT X.K G0 tA) (upT X.K G0 tB) σ H Q := by
  obtain ⟨ρ, S, P, st, t, o⟩ := h
  refine ⟨ρ, S, _, st, t, fun c S1 H1 t1 n1 => ?_⟩
  cases c with
  | true => exact o _ _ _ t1 n1
  | false => exact ⟨ρ, S1, _, st.next n1, t1, fun b S' H' p n => o _ _ _ p (n1.trans n)⟩
theorem dw_and1 (ha : DT X G0 a tA) : DW X G0 (.BoolOp .And [a] pos) tA := pw_and1 ha
theorem dw_or1 (ha : DT X G0 a tA) : DW X G0 (.BoolOp .Or [a] pos) tA := pw_or1 ha
theorem dw_and (ha : DT X G0 a tA) (hb : DW X G0 (.BoolOp .And (b :: rest) pos) tB) : DW X G0 (.BoolOp .And (a :: b :: rest) pos) (dAndT tA tB) := PW.imp (pw_and ha hb) up_and
theorem dw_or (ha : DT X G0 a tA) (hb : DW X G0 (.BoolOp .Or (b :: rest) pos) tB) : DW X G0 (.BoolOp .Or (a :: b :: rest) pos) (dOrT tA tB) := PW.imp (pw_or ha hb) up_or
theorem dt_w {e : Expr} (h : DW X G0 e tA) : DT X G0 e tA := PW.pt h
theorem dt_not (ha : DT X G0 a tA) : DT X G0 (.UnaryOp .Not a pos) (dNotT tA) := PT.imp (pt_not ha) fun σ H Q ⟨ρ, S, P, st, t, o⟩ => ⟨ρ, S, _, st, t, fun c S1 H1 t1 n1 => o _ _ _ t1 n1⟩
theorem de_one {op} (h : DE X G0 a ta) : DE X G0 (.BoolOp op [a] pos) ta := pe_one h
theorem de_and (ha : DE X G0 a ta) (hb : DE X G0 (.BoolOp .And (b :: rest) pos) tb) : DE X G0 (.BoolOp .And (a :: b :: rest) pos) (dAndV ta tb) :=
  PE.imp (pe_and ha hb) fun σ H Q ⟨ρ, S, P, st, t, o⟩ => ⟨ρ, S, _, st, t, fun d S1 v H1 t1 n1 r1 => by
    cases d with
    | bl c =>
      simp only [Rep] at r1
      refine ⟨c, r1, ?_⟩
      cases c with
      | true => exact ⟨ρ, S1, _, st.next n1, t1, fun d S' v H' p n r => o _ _ _ _ p (n1.trans n) r⟩
      | false => exact o _ _ _ _ t1 n1 (by simp only [Rep])
    | _ => exact t1.elim⟩
theorem de_or (ha : DE X G0 a ta) (hb : DE X G0 (.BoolOp .Or (b :: rest) pos) tb) : DE X G0 (.BoolOp .Or (a :: b :: rest) pos) (dOrV ta tb) :=
  PE.imp (pe_or ha hb) fun σ H Q ⟨ρ, S, P, st, t, o⟩ => ⟨ρ, S, _, st, t, fun d S1 v H1 t1 n1 r1 => by
    cases d with
    | bl c =>
      simp only [Rep] at r1
      refine ⟨c, r1, ?_⟩
      cases c with
      | true => exact o _ _ _ _ t1 n1 (by simp only [Rep])
      | false => exact ⟨ρ, S1, _, st.next n1, t1, fun d S' v H' p n r => o _ _ _ _ p (n1.trans n) r⟩
    | _ => exact t1.elim⟩
theorem de_not (ha : DE X G0 a ta) : DE X G0 (.UnaryOp .Not a pos) (dNotV ta) :=
  PE.imp (pe_not ha) fun σ H Q ⟨ρ, S, P, st, t, o⟩ => ⟨ρ, S, _, st, t, fun d S1 v H1 t1 n1 r1 => by
    cases d with
    | bl c => simp only [Rep] at r1; exact ⟨c, r1, o _ _ _ _ t1 n1 (by simp only [Rep])⟩
    | _ => exact t1.elim⟩
theorem de_if {c : Expr} (hc : DT X G0 c tA) (ha : DE X G0 a ta) (hb : DE X G0 b tb) : DE X G0 (.IfExp c a b pos) (dIf tA ta tb) :=
  PE.imp (pe_ifExp hc ha hb) fun σ H Q ⟨ρ, S, P, st, t, o⟩ => ⟨ρ, S, _, st, t, fun c S1 H1 t1 n1 => by
    cases c with
    | true => exact ⟨ρ, S1, _, st.next n1, t1, fun d S' v H' p n r => o _ _ _ _ p (n1.trans n) r⟩
    | false => exact ⟨ρ, S1, _, st.next n1, t1, fun d S' v H' p n r => o _ _ _ _ p (n1.trans n) r⟩⟩
end
end DL
namespace DL
open PySem L2
def dNext : TDS := fun D ρ S => D.nx ρ S
def dSeq (t u : TDS) : TDS := fun D ρ S => t { D with nx := u D } ρ S
def dDrop (te : TDE) : TDS := fun D ρ S => te ρ S fun _ S1 => D.nx ρ S1
def dRet (te : TDE) : TDS := fun D ρ S => te ρ S D.rt
def dRetN : TDS := fun D _ S => D.rt .non S
def dIfS (c : TDT) (t u : TDS) : TDS := fun D ρ S => c ρ S fun b S1 => if b = true then t D ρ S1 else u D ρ S1
def dCont : TDS := fun D ρ S => D.ct ρ S
abbrev TDG := D → Env' → Sto → (Env' → Sto → Prop) → Prop
def dgN (i : Nat) : TDG := fun d ρ S P => P (ρ.set i (some d)) S
def dgSeq : List Nat → List D → Env' → Option Env'
  | [], [], ρ => some ρ
  | i :: is, d :: ds, ρ => dgSeq is ds (ρ.set i (some d))
  | _, _, _ => none
def dgT (is : List Nat) : TDG := fun d ρ S P => match d with
  | .tup ds => match dgSeq is ds ρ with
    | some ρ' => P ρ' S
    | none => False
  | _ => False
def dAsg (te : TDE) (g : TDG) : TDS := fun D ρ S => te ρ S fun d S1 => g d ρ S1 D.nx
def setD (o i d : D) (S : Sto) (P : Sto → Prop) : Prop := match o with
  | .ref p => match S p with
    | some (.ml xs) => match i with
      | .int k => match ixN xs.length k with
        | some j => P (su S p (.ml (xs.set j d)))
        | none => False
      | _ => False
    | some (.dI kvs) => match kI i with
      | some k => kvs.length < sizeLine ∧ P (su S p (.dI (dput kvs k d)))
      | none => False
    | some (.dS kvs) => match i with
      | .str z => kvs.length < sizeLine ∧ P (su S p (.dS (dput kvs z d)))
      | _ => False
    | _ => False
  | _ => False
def dSetIx (to ti te : TDE) : TDS := fun D ρ S => te ρ S fun d S1 => to ρ S1 fun o S2 => ti ρ S2 fun i S3 => setD o i d S3 fun S4 => D.nx ρ S4

section
variable {X : Cx} {G0 : Hp} {st : Stmt} {rest : List Stmt} {t u : TDS} {pos : Pos} {e : Expr} {te : TDE}
theorem EndsUp.nx' {K : PySem.W.Frag} {dD : DEnds} {D : Ends} (x : EndsUp K G0 dD D) {n' : Env' → Sto → Prop} {n : St → Hp → Prop} (h : ∀ ρ S σ H, n' ρ S → Stt K G0 ρ S σ H → n σ H) : EndsUp K G0 { dD with nx := n' } { D with nx := n } :=
  ⟨h, x.rt, x.bk, x.ct⟩
theorem dss_nil : DSs X G0 [] dNext := PSs.imp pss_nil fun D σ H ⟨ρ, S, dD, s, t, o⟩ => o.nx _ _ _ _ t s
theorem dss_cons (h1 : DS X G0 st t) (h2 : DSs X G0 rest u) : DSs X G0 (st :: rest) (dSeq t u) := PSs.imp (pss_cons h1 h2) fun D σ H ⟨ρ, S, dD, s, t, o⟩ =>
  ⟨ρ, S, _, s, t, o.nx' fun ρ S σ H x s' => ⟨ρ, S, dD, s', x, o⟩⟩
theorem dss_one (h1 : DS X G0 st t) : DSs X G0 [st] t := pss_one h1
theorem ds_pass : DS X G0 (.Pass pos) dNext := PS.imp ps_pass fun D σ H ⟨ρ, S, dD, s, t, o⟩ => o.nx _ _ _ _ t s
theorem ds_cont : DS X G0 (.Continue pos) dCont := PS.imp ps_continue fun D σ H ⟨ρ, S, dD, s, t, o⟩ => o.ct _ _ _ _ t s
theorem ds_doc {x j pos pos'} : DS X G0 (.Expr (.Constant (.str x) j pos) pos') dNext := PS.imp ps_doc fun D σ H ⟨ρ, S, dD, s, t, o⟩ => o.nx _ _ _ _ t s
theorem ds_expr (he : DE X G0 e te) (hs : swapsWith e none pos.line X.env = pure false := by rfl) : DS X G0 (.Expr e pos) (dDrop te) := PS.imp (ps_expr he hs) fun D σ H ⟨ρ, S, dD, s, t, o⟩ =>
  ⟨ρ, S, _, s, t, fun d S' v H' a b c => o.nx _ _ _ _ a (s.next b)⟩
theorem ds_ret (he : DE X G0 e te) : DS X G0 (.Return (some e) pos) (dRet te) := PS.imp (ps_ret he) fun D σ H ⟨ρ, S, dD, s, t, o⟩ =>
  ⟨ρ, S, _, s, t, fun d S' v H' a b c => o.rt _ _ _ _ a (s.nx.trans b) c⟩
theorem ds_retN : DS X G0 (.Return none pos) dRetN := PS.imp ps_retN fun D σ H ⟨ρ, S, dD, s, t, o⟩ => o.rt _ _ _ _ t s.nx (by simp only [Rep])
theorem ds_if {c : Expr} {a b : List Stmt} {tc : TDT} (hc : DT X G0 c tc) (ha : DSs X G0 a t) (hb : DSs X G0 b u) : DS X G0 (.If c a b pos) (dIfS tc t u) := PS.imp (ps_if hc ha hb) fun D σ H ⟨ρ, S, dD, s, t, o⟩ =>
  ⟨ρ, S, _, s, t, fun c S1 H1 t1 n1 => by
    cases c with
    | true => exact ⟨ρ, S1, dD, s.next n1, t1, o⟩
    | false => exact ⟨ρ, S1, dD, s.next n1, t1, o⟩⟩
def LiftG (K : PySem.W.Frag) (g : TG) (g' : TDG) : Prop := ∀ G0 d v ρ S σ H P Q, Stt K G0 ρ S σ H → Rep K (wo H S) d v → g' d ρ S P → (∀ ρ' σ', P ρ' S → Stt K G0 ρ' S σ' H → Q σ' H) → g v σ H Q
theorem lift_gN {K : PySem.W.Frag} {i : Nat} : LiftG K (gName i) (dgN i) := fun G0 d v ρ S σ H P Q s r t o => o _ _ t ⟨s.env.set r, s.nx⟩
theorem lift_gSeq {K : PySem.W.Frag} {tg : TGs} : ∀ {is : List Nat}, tg = (is.foldr (fun i t => gCons (gName i) t) gNil) → ∀ {G0 : Hp} {ds : List D} {vs : List V} {ρ ρ' : Env'} {S : Sto} {σ : St} {H : Hp} {Q : St → Hp → Prop},
    Stt K G0 ρ S σ H → Reps K (wo H S) ds vs → dgSeq is ds ρ = some ρ' → (∀ σ', Stt K G0 ρ' S σ' H → Q σ' H) → tg vs σ H Q
  | [], e, G0, ds, vs, ρ, ρ', S, σ, H, Q, s, r, h, o => by
    subst e
    cases ds with
    | nil =>
      simp only [Reps] at r
      cases h
      exact ⟨r, o _ s⟩
    | cons _ _ => cases h
  | i :: is, e, G0, ds, vs, ρ, ρ', S, σ, H, Q, s, r, h, o => by
    subst e
    cases ds with
    | nil => cases h
    | cons d ds =>
      simp only [Reps] at r
      obtain ⟨v, t, rfl, q, r⟩ := r
      exact ⟨v, t, rfl, lift_gSeq rfl (ρ := ρ.set i (some d)) (σ := σ.set i (some v)) ⟨s.env.set q, s.nx⟩ r h o⟩
theorem dgSeq_len : ∀ {is : List Nat} {ds : List D} {ρ ρ' : Env'}, dgSeq is ds ρ = some ρ' → ds.length = is.length
  | [], [], _, _, _ => rfl
  | _ :: is, _ :: ds, ρ, ρ', h => by rw [List.length_cons, List.length_cons, dgSeq_len (is := is) (ds := ds) h]
  | [], _ :: _, _, _, h => by cases h
  | _ :: _, [], _, _, h => by cases h
theorem lift_gT {K : PySem.W.Frag} {is : List Nat} {n : Nat} (hn : n = is.length) : LiftG K (gTup K n (is.foldr (fun i t => gCons (gName i) t) gNil)) (dgT is) := fun G0 d v ρ S σ H P Q s r t o => by
  cases d with
  | tup ds =>
    simp only [dgT] at t
    cases e : dgSeq is ds ρ with
    | none => rw [e] at t; exact t.elim
    | some ρ' =>
      rw [e] at t
      simp only [Rep] at r
      obtain ⟨a, vs, rfl, q, r⟩ := r
      exact ⟨a, vs, rfl, SqT.of (wo_le _ _ _ _ q), by rw [← r.len, dgSeq_len e, hn], lift_gSeq rfl s r e fun σ' s' => o _ _ t s'⟩
  | _ => exact t.elim
theorem ds_asg {tg : Expr} {g : TG} {g' : TDG} (he : DE X G0 e te) (hg : PG X tg g) (hl : LiftG X.K g g') (hs : swapsWithSole [tg] e pos.line X.env = pure false := by rfl) (hw : swappedStores [tg] e X.env = pure none := by rfl)
    (h1 : (assignEach [tg] X.env).map (·.2) = [assign tg X.env] := by rfl) : DS X G0 (.Assign [tg] e pos) (dAsg te g') :=
  PS.imp (ps_asg he hg hs hw h1) fun D σ H ⟨ρ, S, dD, s, t, o⟩ => ⟨ρ, S, _, s, t, fun d S' v H' a b c => hl _ _ _ _ _ _ _ _ _ (s.next b) c a fun ρ' σ' p s' => o.nx _ _ _ _ p s'⟩
theorem ds_set (i : Nat) {x : Str} {pos' : Pos} (hN : X.N.Nodup) (he : DE X G0 e te) (hi : X.N[i]? = some x := by rfl) (hx : Loc X.env.scope x := by first | exact Or.inl rfl | exact Or.inr rfl) (hs : swapsWith e (some (.Name x pos')) pos.line X.env = pure false := by rfl)
    (hf : X.fn x = true ∨ X.env.scope.names.lookup x = some .local := by first | exact .inr rfl | exact .inl rfl) : DS X G0 (.Assign [.Name x pos'] e pos) (dAsg te (dgN i)) :=
  PS.imp (ps_set hN hi hx he hs hf) fun D σ H ⟨ρ, S, dD, s, t, o⟩ => ⟨ρ, S, _, s, t, fun d S' v H' a b c => lift_gN _ _ _ _ _ _ _ _ _ (s.next b) c a fun ρ' σ' p s' => o.nx _ _ _ _ p s'⟩
theorem setD_ok {K : PySem.W.Frag} {G H : Hp} {S : Sto} {o i d : D} {ov iv v : V} {P : Sto → Prop} {Q : Hp → Prop} (n : Nx K G S H) (ro : Rep K (wo H S) o ov) (ri : Rep K (wo H S) i iv) (rd : Rep K (wo H S) d v) (t : setD o i d S P)
    (oo : ∀ S' H', P S' → Nx K (wo H S) S' H' → Q H') : rSetL ov iv v H Q ∨ ∃ a H', ov = .ref a ∧ DPut H a iv v H' ∧ Q H' := by
  cases o with
  | ref p =>
    simp only [Rep] at ro
    simp only [setD] at t
    cases h : S p with
    | none => rw [h] at t; exact t.elim
    | some c =>
      rw [h] at t
      cases c with
      | ml xs =>
        cases i with
        | int k =>
          dsimp only at t
          cases e : ixN xs.length k with
          | none => rw [e] at t; exact t.elim
          | some j =>
            rw [e] at t
            simp only [Rep] at ri
            obtain ⟨us, q, r⟩ := n.ok p _ h
            exact .inl ⟨p, us, k, j, ro, ri, q, by rw [← r.len]; exact e, oo _ _ t (n.write h ⟨_, upd_same, r.set rd j⟩)⟩
        | _ => exact t.elim
      | dI kvs =>
        dsimp only at t
        cases e : kI i with
        | none => rw [e] at t; exact t.elim
        | some k =>
          rw [e] at t
          obtain ⟨us, q, r⟩ := n.ok p _ h
          obtain ⟨b, rfl, hb⟩ := kI_rep (wo_le H S) ri e
          obtain ⟨ws, e2, r2⟩ := zip_put (f := fun k : List Int => (k.map Sum.inl : List Key)) inl_inj k rd r
          refine .inr ⟨p, _, ro, DPut.t (v := v) q hb ?_, oo _ _ t.2 (n.write h ⟨ws, ?_, r2⟩)⟩
          · rw [List.length_zip, List.length_map]; have := t.1; omega
          · rw [upd_same]; exact congrArg (fun z => some (HO.dT z)) e2
      | dS kvs =>
        cases i with
        | str z =>
          dsimp only at t
          simp only [Rep] at ri
          subst ri
          obtain ⟨us, q, r⟩ := n.ok p _ h
          obtain ⟨ws, e2, r2⟩ := zip_put (f := fun k : Str => (Sum.inr k : Key)) inr_inj z rd r
          refine .inr ⟨p, _, ro, DPut.k (k := Sum.inr z) (v := v) q ?_, oo _ _ t.2 (n.write h ⟨ws, ?_, r2⟩)⟩
          · rw [List.length_zip, List.length_map]; have := t.1; omega
          · rw [upd_same]; exact congrArg (fun z => some (HO.dK z)) e2
        | _ => exact t.elim
      | ins _ _ => exact t.elim
  | _ => exact t.elim
theorem ds_setIx {k : Nat} {o i : Expr} {pos' : Pos} {to ti : TDE} (hr : Room k X.A) (ho : DE X G0 o to) (hi : DE X G0 i ti) (he : DE X G0 e te)
    (ha : ∀ v, assign (.Subscript o i pos') X.env v = (do
      let ov ← holding [v] (eval o X.env)
      let iv ← holding [v, ov] (eval i X.env)
      standAt pos'
      holding [v, ov, iv] (setItem ov iv v)
      release [v, ov, iv] []) := by intro _; rfl)
    (hs : swapsWithSole [.Subscript o i pos'] e pos.line X.env = pure false := by rfl) (hw : swappedStores [.Subscript o i pos'] e X.env = pure none := by rfl)
    (h1 : (assignEach [.Subscript o i pos'] X.env).map (·.2) = [assign (.Subscript o i pos') X.env] := by rfl) : DS X G0 (.Assign [.Subscript o i pos'] e pos) (dSetIx to ti te) :=
  PS.imp (ps_asg he (pg_sub ho hi (PSet.or set_list (set_dict (hu_of hr))) ha) hs hw h1) fun D σ H ⟨ρ, S, dD, s, t, oo⟩ => ⟨ρ, S, _, s, t, fun d S1 v H1 t1 n1 r1 => ⟨ρ, S1, _, s.next n1, t1, fun o S2 ov H2 t2 n2 r2 => ⟨ρ, S2, _, (s.next n1).next n2, t2, fun i S3 iv H3 t3 n3 r3 =>
    setD_ok n3 (r2.mono n3.st) r3 (r1.mono (n2.trans n3).st) t3 fun S' H' p n => oo.nx _ _ _ _ p ((((s.next n1).next n2).next n3).next n)⟩⟩⟩
end
def dGo (still : Sto → Prop) (g : TDG) (tb : TDS) (E : DEnds) : List D → Env' → Sto → Prop
  | [], ρ, S => still S ∧ E.nx ρ S
  | x :: r, ρ, S => still S ∧ g x ρ S fun ρ' S' => tb { nx := dGo still g tb E r, ct := dGo still g tb E r, bk := E.nx, rt := E.rt } ρ' S'
def dForK (o : Option (List D)) (d : D) (g : TDG) (tb : TDS) (E : DEnds) (ρ : Env') (S : Sto) : Prop := match o with
  | some xs => dGo (fun S' => vl S' d = some xs) g tb E xs ρ S
  | none => False
def dFor (te : TDE) (g : TDG) (tb : TDS) : TDS := fun E ρ S => te ρ S fun d S1 => dForK (vl S1 d) d g tb E ρ S1
def intsD (lo : Int) (n : Nat) : List D := (List.range n).map fun i => .int (lo + (i : Nat))
def rng1 (k : Int → Nat → Sto → Prop) : List D → Sto → Prop := fun xs S1 => match xs with
  | [.int j] => (-(2 ^ 62) ≤ j ∧ j < 2 ^ 62) ∧ k 0 j.toNat S1
  | _ => False
def rng2 (k : Int → Nat → Sto → Prop) : List D → Sto → Prop := fun xs S1 => match xs with
  | [.int i, .int j] => (-(2 ^ 62) ≤ i ∧ i < 2 ^ 62 ∧ -(2 ^ 62) ≤ j ∧ j < 2 ^ 62) ∧ k i (j - i).toNat S1
  | _ => False
def dFor1 (ta : TDA) (g : TDG) (tb : TDS) : TDS := fun E ρ S => ta ρ S fun xs S1 => rng1 (fun lo n S1 => dGo (fun _ => True) g tb E (intsD lo n) ρ S1) xs S1
def dFor2 (ta : TDA) (g : TDG) (tb : TDS) : TDS := fun E ρ S => ta ρ S fun xs S1 => rng2 (fun lo n S1 => dGo (fun _ => True) g tb E (intsD lo n) ρ S1) xs S1
def dWh (c : TDT) (tb : TDS) (E : DEnds) : Nat → Env' → Sto → Prop
  | 0, _, _ => False
  | n + 1, ρ, S => c ρ S fun b S1 => if b = true then tb { nx := dWh c tb E n, ct := dWh c tb E n, bk := E.nx, rt := E.rt } ρ S1 else E.nx ρ S1
def dWhile (c : TDT) (tb : TDS) : TDS := fun E ρ S => ∃ n, dWh c tb E n ρ S
section
variable {X : Cx} {G0 : Hp} {pos : Pos} {te : TDE} {W : WD}
theorem dGo_still {still : Sto → Prop} {g : TDG} {tb : TDS} {E : DEnds} {xs : List D} {ρ : Env'} {S : Sto} (h : dGo still g tb E xs ρ S) : still S := by
  cases xs with
  | nil => exact h.1
  | cons _ _ => exact h.1
theorem intsD_len {lo : Int} {n : Nat} : (intsD lo n).length = n := by simp [intsD]
theorem intsD_get {lo : Int} {n i : Nat} (h : i < (intsD lo n).length) : (intsD lo n)[i] = .int (lo + (i : Nat)) := by
  simp [intsD]
theorem Stt.le {K : PySem.W.Frag} {G G' H : Hp} {ρ : Env'} {S : Sto} {σ : St} (x : Stt K G' ρ S σ H) (h : Same G G') : Stt K G ρ S σ H := ⟨x.env, x.nx.le h⟩
theorem Takes.le {K : PySem.W.Frag} {G G' : Hp} (tk : Takes X (upW K G W)) (h : Same G G') : Takes X (upW K G' W) := tk.imp fun c d σ H ⟨ρ, S, C, e1, e2, s, w⟩ => ⟨ρ, S, C, e1, e2, s.le h, w⟩
theorem EndsUp.loop {K : PySem.W.Frag} {G G' : Hp} {dD : DEnds} {D : Ends} (x : EndsUp K G dD D) (le : Same G G') {n' : Env' → Sto → Prop} {n : St → Hp → Prop} (h : ∀ ρ S σ H, n' ρ S → Stt K G' ρ S σ H → n σ H) :
    EndsUp K G' { nx := n', ct := n', bk := dD.nx, rt := dD.rt } { D with nx := n, ct := n, bk := D.nx } := ⟨h, fun d S v H a b c => x.rt d S v H a (b.le le) c, fun ρ S σ H a b => x.nx ρ S σ H a (b.le le), h⟩
theorem ds_for {iter tg : Expr} {body : List Stmt} {g : TG} {g' : TDG} {tb : TDS} (hp : PassesOwn (model X.prog X.w) X.A X.env X.xe) (hc : X.calm = true) (tk : Takes X (upW X.K G0 W)) (hi : DE X G0 iter te) (hg : PG X tg g) (hl : LiftG X.K g g')
    (hb : ∀ G1, Takes X (upW X.K G1 W) → DSs X G1 body tb) (hs : ∀ x, foldedSetIterable iter X.env x = pure x := by intro _; rfl) : DS X G0 (.For tg iter body [] pos) (dFor te g' tb) := by
  have key : PS X (.For tg iter body [] pos) (tFor (iList X.K (upE X.K G0 te)) g (fun D σ H => ∃ G1, Takes X (upW X.K G1 W) ∧ upS X.K G1 tb D σ H)) :=
    ps_for hp hc (pi_list hi) hg (tb := fun D σ H => ∃ G1, Takes X (upW X.K G1 W) ∧ upS X.K G1 tb D σ H) ⟨fun pins s σ H D I ⟨G1, tk1, h⟩ => (hb G1 tk1).run pins s σ H D I h⟩ hs
  refine PS.imp key fun E σ H ⟨ρ, S, dD, s, t, o⟩ => ⟨ρ, S, _, s, t, fun d S1 v H1 t1 n1 r1 => ?_⟩
  cases e : vl S1 d with
  | none => rw [e] at t1; exact t1.elim
  | some xs =>
    rw [e] at t1
    simp only [dForK] at t1
    obtain ⟨a, vs, ev, q, r⟩ := vl_rep n1 r1 e
    refine ⟨a, ev, ⟨vs, q⟩, fun i m σ H => m = xs.length - i ∧ i ≤ xs.length ∧ ∃ ρ' S', Stt X.K G0 ρ' S' σ H ∧ Rep X.K (wo H S') d v ∧ dGo (fun S' => vl S' d = some xs) g' tb dD (xs.drop i) ρ' S', ⟨_, rfl, Nat.zero_le _, ρ, S1, s.next n1, r1, t1⟩, ?_⟩
    rintro i m σ2 H2 ⟨rfl, hi', ρ2, S2, s2, rd, go⟩
    have st := dGo_still go
    obtain ⟨a', vs', ev', q', r'⟩ := vl_rep s2.nx.refl rd st
    have ea : a' = a := by rw [ev] at ev'; exact (V.ref.inj ev').symm
    subst ea
    by_cases hlt : i < xs.length
    · rw [List.drop_eq_getElem_cons hlt] at go
      refine .inr ⟨⟨vs', vs'[i]'(by rw [← r'.len]; exact hlt), q', by simp⟩, fun σ3 H3 => i + 1 ≤ xs.length ∧ ∃ ρ' S', Stt X.K G0 ρ' S' σ3 H3 ∧ Rep X.K (wo H3 S') d v ∧ dGo (fun S' => vl S' d = some xs) g' tb dD (xs.drop (i + 1)) ρ' S',
        fun σ3 H3 z => ⟨xs.length - (i + 1), by omega, rfl, z.1, z.2⟩, fun x H3 y => ?_⟩
      obtain ⟨e3, y⟩ := y
      cases e3
      have hx := y vs' q'
      obtain ⟨w, hw, rw'⟩ := r'.get (i := i) (d := xs[i]) (by simp [hlt])
      have ew : x = w := by rw [hx] at hw; exact Option.some.inj hw
      subst ew
      refine hl (wo H2 S2) _ _ _ _ _ _ _ _ ⟨s2.env, s2.nx.refl⟩ rw' go.2 fun ρ3 σ3 p s3 => ?_
      exact ⟨wo H2 S2, Takes.le tk s2.nx.st, ρ3, S2, _, s3, p, o.loop s2.nx.st fun ρ4 S4 σ4 H4 z s4 => ⟨hlt, ρ4, S4, s4.le s2.nx.st, rd.mono s4.nx.st, z⟩⟩
    · have e' : i = xs.length := by omega
      subst e'
      rw [List.drop_length] at go
      exact .inl ⟨⟨vs', q', by rw [← r'.len]; exact Nat.le_refl _⟩, o.nx _ _ _ _ go.2 s2⟩
theorem go_rng {body : List Stmt} {g : TG} {g' : TDG} {tb : TDS} {lo : Int} {n : Nat} (tk : Takes X (upW X.K G0 W)) (hl : LiftG X.K g g') {dD : DEnds} {E : Ends} (o : EndsUp X.K G0 dD E) {ρ : Env'} {S : Sto} {σ : St} {H : Hp} (s : Stt X.K G0 ρ S σ H)
    (t : dGo (fun _ => True) g' tb dD (intsD lo n) ρ S) : ∃ Wi : Nat → Nat → St → Hp → Prop, (∃ m, Wi 0 m σ H) ∧ ∀ i m σ H, Wi i m σ H →
      ((Itr lo n).stop i H ∧ E.nx σ H) ∨ ((Itr lo n).go i H ∧ ∃ N : St → Hp → Prop, (∀ σ' H', N σ' H' → ∃ m', m' < m ∧ Wi (i + 1) m' σ' H') ∧ ∀ x H', (Itr lo n).yld i H x H' → g x σ H' fun σ2 H2 => (fun D σ H => ∃ G1, Takes X (upW X.K G1 W) ∧ upS X.K G1 tb D σ H) { E with nx := N, ct := N, bk := E.nx } σ2 H2) := by
  refine ⟨fun i m σ H => m = n - i ∧ i ≤ n ∧ ∃ ρ' S', Stt X.K G0 ρ' S' σ H ∧ dGo (fun _ => True) g' tb dD ((intsD lo n).drop i) ρ' S', ⟨_, rfl, Nat.zero_le _, ρ, S, s, t⟩, ?_⟩
  rintro i m σ2 H2 ⟨rfl, hi', ρ2, S2, s2, go⟩
  by_cases hlt : i < n
  · have hlt' : i < (intsD lo n).length := by rw [intsD_len]; exact hlt
    rw [List.drop_eq_getElem_cons hlt', intsD_get hlt'] at go
    refine .inr ⟨hlt, fun σ3 H3 => i + 1 ≤ n ∧ ∃ ρ' S', Stt X.K G0 ρ' S' σ3 H3 ∧ dGo (fun _ => True) g' tb dD ((intsD lo n).drop (i + 1)) ρ' S', fun σ3 H3 z => ⟨n - (i + 1), by omega, rfl, z.1, z.2⟩, fun x H3 y => ?_⟩
    obtain ⟨e3, e4⟩ := y
    cases e3
    cases e4
    refine hl G0 (.int (lo + (i : Nat))) _ _ _ _ _ _ _ s2 (by simp only [Rep]) go.2 fun ρ3 σ3 p s3 => ?_
    exact ⟨G0, tk, ρ3, S2, _, s3, p, o.loop (Same.refl _) fun ρ4 S4 σ4 H4 z s4 => ⟨hlt, ρ4, S4, s4, z⟩⟩
  · have e' : i = n := by omega
    subst e'
    rw [List.drop_of_length_le (by rw [intsD_len]; exact Nat.le_refl _)] at go
    exact .inl ⟨Nat.le_refl _, o.nx _ _ _ _ go.2 s2⟩
theorem rng1_ok {k : Int → Nat → Sto → Prop} {xs : List D} {S : Sto} (t : rng1 k xs S) : ∃ j : Int, xs = [.int j] ∧ (-(2 ^ 62) ≤ j ∧ j < 2 ^ 62) ∧ k 0 j.toNat S := by
  unfold rng1 at t
  split at t
  · exact ⟨_, rfl, t⟩
  · exact t.elim
theorem rng2_ok {k : Int → Nat → Sto → Prop} {xs : List D} {S : Sto} (t : rng2 k xs S) : ∃ i j : Int, xs = [.int i, .int j] ∧ (-(2 ^ 62) ≤ i ∧ i < 2 ^ 62 ∧ -(2 ^ 62) ≤ j ∧ j < 2 ^ 62) ∧ k i (j - i).toNat S := by
  unfold rng2 at t
  split at t
  · exact ⟨_, _, rfl, t⟩
  · exact t.elim
theorem ds_for1 {a tg : Expr} {ta : TDA} {body : List Stmt} {g : TG} {g' : TDG} {tb : TDS} {p pos2 : Pos} (hp : PassesOwn (model X.prog X.w) X.A X.env X.xe) (hc : X.calm = true) (tk : Takes X (upW X.K G0 W)) (hm : X.mg "range" = none) (ha : DA X G0 [a] ta) (hg : PG X tg g) (hl : LiftG X.K g g')
    (hb : ∀ G1, Takes X (upW X.K G1 W) → DSs X G1 body tb) (hgl : Gl X "range" := by rfl) (hse : starEach [a] X.env = [(false, eval a X.env)] := by rfl)
    (hs : ∀ x, foldedSetIterable (.Call (.Name "range" p) [a] [] pos2) X.env x = pure x := by intro _; rfl) : DS X G0 (.For tg (.Call (.Name "range" p) [a] [] pos2) body [] pos) (dFor1 ta g' tb) := by
  have key : PS X (.For tg (.Call (.Name "range" p) [a] [] pos2) body [] pos) (tFor (iRng1 (upA X.K G0 ta)) g (fun D σ H => ∃ G1, Takes X (upW X.K G1 W) ∧ upS X.K G1 tb D σ H)) :=
    ps_for hp hc (pi_range1 hgl hm ha hse) hg (tb := fun D σ H => ∃ G1, Takes X (upW X.K G1 W) ∧ upS X.K G1 tb D σ H) ⟨fun pins s σ H D I ⟨G1, tk1, h⟩ => (hb G1 tk1).run pins s σ H D I h⟩ hs
  refine PS.imp key fun E σ H ⟨ρ, S, dD, s, t, o⟩ => ⟨ρ, S, _, s, t, fun xs S1 vs H1 t1 n1 r1 => ?_⟩
  obtain ⟨j, rfl, hj, t1⟩ := rng1_ok t1
  obtain ⟨v, rfl, r⟩ := r1.one
  simp only [Rep] at r
  subst r
  exact ⟨j, rfl, hj.1, hj.2, go_rng (body := body) tk hl o (s.next n1) t1⟩
theorem ds_for2 {a b tg : Expr} {ta : TDA} {body : List Stmt} {g : TG} {g' : TDG} {tb : TDS} {p pos2 : Pos} (hp : PassesOwn (model X.prog X.w) X.A X.env X.xe) (hc : X.calm = true) (tk : Takes X (upW X.K G0 W)) (hm : X.mg "range" = none) (ha : DA X G0 [a, b] ta) (hg : PG X tg g) (hl : LiftG X.K g g')
    (hb : ∀ G1, Takes X (upW X.K G1 W) → DSs X G1 body tb) (hgl : Gl X "range" := by rfl) (hse : starEach [a, b] X.env = [(false, eval a X.env), (false, eval b X.env)] := by rfl) (hse2 : starEach [b] X.env = [(false, eval b X.env)] := by rfl)
    (hs : ∀ x, foldedSetIterable (.Call (.Name "range" p) [a, b] [] pos2) X.env x = pure x := by intro _; rfl) : DS X G0 (.For tg (.Call (.Name "range" p) [a, b] [] pos2) body [] pos) (dFor2 ta g' tb) := by
  have key : PS X (.For tg (.Call (.Name "range" p) [a, b] [] pos2) body [] pos) (tFor (iRng2 (upA X.K G0 ta)) g (fun D σ H => ∃ G1, Takes X (upW X.K G1 W) ∧ upS X.K G1 tb D σ H)) :=
    ps_for hp hc (pi_range2 hgl hm ha hse hse2) hg (tb := fun D σ H => ∃ G1, Takes X (upW X.K G1 W) ∧ upS X.K G1 tb D σ H) ⟨fun pins s σ H D I ⟨G1, tk1, h⟩ => (hb G1 tk1).run pins s σ H D I h⟩ hs
  refine PS.imp key fun E σ H ⟨ρ, S, dD, s, t, o⟩ => ⟨ρ, S, _, s, t, fun xs S1 vs H1 t1 n1 r1 => ?_⟩
  obtain ⟨i, j, rfl, hj, t1⟩ := rng2_ok t1
  obtain ⟨v, u, rfl, r, r'⟩ := r1.two
  simp only [Rep] at r r'
  subst r r'
  exact ⟨i, j, rfl, hj, go_rng (body := body) tk hl o (s.next n1) t1⟩
theorem ds_while {c : Expr} {body : List Stmt} {tc : TDT} {tb : TDS} (hp : PassesOwn (model X.prog X.w) X.A X.env X.xe) (hc : DT X G0 c tc) (hb : DSs X G0 body tb) : DS X G0 (.While c body [] pos) (dWhile tc tb) :=
  PS.imp (ps_while hp hc hb) fun E σ H ⟨ρ, S, dD, s, ⟨n, t⟩, o⟩ => by
    refine ⟨fun m σ H => ∃ ρ' S', Stt X.K G0 ρ' S' σ H ∧ dWh tc tb dD m ρ' S', ⟨n, ρ, S, s, t⟩, ?_⟩
    rintro m σ2 H2 ⟨ρ2, S2, s2, t2⟩
    cases m with
    | zero => exact t2.elim
    | succ m =>
      refine ⟨ρ2, S2, _, s2, t2, fun b S3 H3 t3 n3 => ?_⟩
      cases b with
      | true =>
        refine ⟨fun σ4 H4 => ∃ ρ' S', Stt X.K G0 ρ' S' σ4 H4 ∧ dWh tc tb dD m ρ' S', fun σ4 H4 z => ⟨m, Nat.lt_succ_self m, z⟩, ρ2, S3, _, s2.next n3, t3, o.loop (Same.refl _) fun ρ4 S4 σ4 H4 z s4 => ⟨ρ4, S4, s4, z⟩⟩
      | false => exact o.nx _ _ _ _ t3 (s2.next n3)
def dRaise (C : Addr) (W : WD) : TDS := fun _ ρ S => W C ρ S
theorem ds_raise {e : Expr} {C : Addr} (hc : X.calm = true) (tk : Takes X (upW X.K G0 W)) (he : PMk X e (fun _ H Q => Q (.ref C) none H)) : DS X G0 (.Raise (some e) none pos) (dRaise C W) :=
  PS.imp (ps_raise hc tk he) fun E σ H ⟨ρ, S, dD, s, t, o⟩ => ⟨ρ, S, C, rfl, rfl, s, t⟩
end
def SLe (S S' : Sto) : Prop := ∀ a c, S a = some c → S' a = some c
theorem SLe.refl (S : Sto) : SLe S S := fun _ _ h => h
theorem SLe.trans {S S' S'' : Sto} (a : SLe S S') (b : SLe S' S'') : SLe S S'' := fun c o h => b c o (a c o h)
theorem SLe.su {S : Sto} {p : Addr} {c : Cl} (h : S p = none) : SLe S (su S p c) := fun a o e => by
  rw [su_ne (fun z => by rw [z, h] at e; cases e)]; exact e
def dstart (N : List Str) (ds : List D) : Env' := ds.map some ++ List.replicate (N.length - ds.length) none
theorem start_env {K : PySem.W.Frag} {G : Hp} {N : List Str} {ds : List D} {vs : List V} (r : Reps K G ds vs) : REnv K G (dstart N ds) (L2.start N vs) := by
  unfold dstart L2.start
  have hl := r.len
  refine ⟨by simp [hl], fun i d e => ?_⟩
  rw [List.getElem?_append] at e ⊢
  rw [List.length_map] at e ⊢
  by_cases h : i < ds.length
  · rw [if_pos h] at e
    rw [if_pos (by rw [← hl]; exact h)]
    rw [List.getElem?_map] at e ⊢
    cases q : ds[i]? with
    | none => rw [q] at e; cases e
    | some d' =>
      rw [q] at e
      have : d' = d := by simpa using e
      subst this
      obtain ⟨v, hv, rv⟩ := r.get q
      exact ⟨v, by rw [hv]; rfl, rv⟩
  · rw [if_neg h] at e
    rw [List.getElem?_replicate] at e
    split at e <;> cases e
section
variable {P : Program} {w : World} {K : PySem.W.Frag} {mg : Str → Option Value} {base : Heap}
def endsOf (Q : D → Sto → Prop) : DEnds := { nx := fun _ S' => ∃ S'', SLe S'' S' ∧ Q .non S'', rt := fun d S' => ∃ S'', SLe S'' S' ∧ Q d S'' }
def wishOf (E : Addr → Sto → Prop) : WD := fun C _ S' => ∃ S'', SLe S'' S' ∧ E C S''
theorem def_ok {x qual : Str} {st : Stmt} {f : Addr} {fd : FuncData} {N ps : List Str} {k : Nat} {sp : DSp} {t : WD → TDS} (F : Fun K x qual st f fd) (S : FnScope N ps (defScope st)) (len : ∀ ds S Q E, sp ds S Q E → ds.length = ps.length)
    (body : ∀ (cdv : Value) (A : Around) (outer : List Env) (s : Shared) (H : Hp) (E : XK) (G0 : Hp) (W : WD), Room k (A.deeper (PyProof.Rows.envOfC qual (defScope st) s.heap.objs.size f cdv)) →
      Takes (cxOf (L2.CX P w) P w K mg base N qual (defScope st) f cdv A outer s H E) (upW K G0 W) → PassesOwn (model P w) (A.deeper (PyProof.Rows.envOfC qual (defScope st) s.heap.objs.size f cdv)) (cxOf (L2.CX P w) P w K mg base N qual (defScope st) f cdv A outer s H E).env (cxOf (L2.CX P w) P w K mg base N qual (defScope st) f cdv A outer s H E).xe →
      DSs (cxOf (L2.CX P w) P w K mg base N qual (defScope st) f cdv A outer s H E) G0 (defBody st) (t W))
    (read : ∀ ds S Q E, sp ds S Q E → t (wishOf E) (endsOf Q) (dstart N ds) S) : FnOk P w K mg base (L2.CX P w) (k + 1) f fd ps (upSp K sp) := by
  refine F.okX S (fun vs H Q E ⟨ds, S, P, dE, _, r, h, _⟩ => by rw [← r.len]; exact len _ _ _ _ h) fun cdv A outer s H vs Q E hr ⟨ds, S0, P0, dE, n, r, h, oo, ox⟩ => ?_
  have tk : Takes (cxOf (L2.CX P w) P w K mg base N qual (defScope st) f cdv A outer s H E) (upW K (wo H S0) (wishOf dE)) :=
    (takes_of (X := cxOf (L2.CX P w) P w K mg base N qual (defScope st) f cdv A outer s H E) (E := E) rfl rfl rfl rfl).imp fun c d σ H' ⟨ρ, S', C, e1, e2, s', S'', le, w'⟩ => by
      subst e1 e2
      exact ox _ _ _ w' (s'.nx.trans (s'.nx.refl.less le))
  refine ⟨_, body cdv A outer s H E (wo H S0) (wishOf dE) hr tk (passes_of rfl), dstart N ds, S0, endsOf P0, ⟨start_env r, n⟩, read ds S0 P0 dE h, ⟨fun ρ S' σ H' ⟨S'', le, p⟩ s' => ?_, fun d S' v H' ⟨S'', le, p⟩ n' r' => ?_, fun _ _ _ _ z _ => z.elim, fun _ _ _ _ z _ => z.elim⟩⟩
  · exact oo _ _ _ _ p (s'.nx.trans (s'.nx.refl.less le)) (by simp only [Rep])
  · have n2 := n'.refl.less le
    exact oo _ _ _ _ p (n'.trans n2) (r'.mono n2.st)
end
end DL
namespace DL
open PySem L2
abbrev TDI := Env' → Sto → (List D → (Sto → Prop) → Sto → Prop) → Prop
structure Serves (K : PySem.W.Frag) (J : It) (xs : List D) (still : Sto → Prop) (S1 : Sto) (H1 : Hp) : Prop where
  ex : ∃ I : Sto → Hp → Prop, I S1 H1 ∧ (∀ S H S' H', I S H → Nx K (wo H S) S' H' → I S' H') ∧
    (∀ S H i (h : i < xs.length), I S H → Nx K (wo H S) S H → still S → J.go i H ∧ ∀ x H', J.yld i H x H' → H' = H ∧ Rep K (wo H S) xs[i] x) ∧
    (∀ S H, I S H → Nx K (wo H S) S H → still S → J.stop xs.length H)
def LiftI (K : PySem.W.Frag) (G0 : Hp) (wi : TI) (ti : TDI) : Prop := ∀ σ H (R : It → Hp → Prop) ρ S P, Stt K G0 ρ S σ H → ti ρ S P →
  (∀ xs still S1 H1 J, P xs still S1 → Nx K (wo H S) S1 H1 → Serves K J xs still S1 H1 → R J H1) → wi σ H R
def diLk (o : Option (List D)) (d : D) (S1 : Sto) (P : List D → (Sto → Prop) → Sto → Prop) : Prop := match o with
  | some xs => P xs (fun S' => vl S' d = some xs) S1
  | none => False
def diL (te : TDE) : TDI := fun ρ S P => te ρ S fun d S1 => diLk (vl S1 d) d S1 P
def diR1 (ta : TDA) : TDI := fun ρ S P => ta ρ S fun xs S1 => rng1 (fun lo n S1 => P (intsD lo n) (fun _ => True) S1) xs S1
def diR2 (ta : TDA) : TDI := fun ρ S P => ta ρ S fun xs S1 => rng2 (fun lo n S1 => P (intsD lo n) (fun _ => True) S1) xs S1
section
variable {K : PySem.W.Frag} {G0 : Hp}
theorem serves_list {K : PySem.W.Frag} {G H1 : Hp} {S1 : Sto} {d : D} {v : V} {a : Addr} {xs : List D} (r1 : Rep K (wo H1 S1) d v) (ev : v = .ref a) : Serves K (Itl K a) xs (fun S' => vl S' d = some xs) S1 H1 := by
  subst ev
  refine ⟨fun S H => Rep K (wo H S) d (.ref a), r1, fun S H S' H' r n => r.mono n.st, fun S H i h r n st => ?_, fun S H r n st => ?_⟩
  · obtain ⟨a', vs, ev, q, rr⟩ := vl_rep n r st
    cases ev
    refine ⟨⟨vs, vs[i]'(by rw [← rr.len]; exact h), q, by simp⟩, fun x H' y => ?_⟩
    obtain ⟨e, y⟩ := y
    have hx := y vs q
    obtain ⟨w, hw, rw'⟩ := rr.get (i := i) (d := xs[i]) (by simp [h])
    have ew : x = w := by rw [hx] at hw; exact Option.some.inj hw
    subst ew
    exact ⟨e, rw'⟩
  · obtain ⟨a', vs, ev, q, rr⟩ := vl_rep n r st
    cases ev
    exact ⟨vs, q, by rw [← rr.len]; exact Nat.le_refl _⟩
theorem lift_iL {te : TDE} : LiftI K G0 (iList K (upE K G0 te)) (diL te) := fun σ H R ρ S P s t o => ⟨ρ, S, _, s, t, fun d S1 v H1 t1 n1 r1 => by
  cases e : vl S1 d with
  | none => rw [e] at t1; exact t1.elim
  | some xs =>
    rw [e] at t1
    obtain ⟨a, vs, ev, q, r⟩ := vl_rep n1 r1 e
    exact ⟨a, ev, ⟨vs, q⟩, o xs _ S1 H1 _ t1 n1 (serves_list (G := G0) r1 ev)⟩⟩
theorem serves_rng {lo : Int} {n : Nat} {S1 : Sto} {H1 : Hp} : Serves K (Itr lo n) (intsD lo n) (fun _ => True) S1 H1 :=
  ⟨fun _ _ => True, trivial, fun _ _ _ _ _ _ => trivial, fun S H i h _ _ _ => ⟨by rw [intsD_len] at h; exact h, fun x H' y => ⟨y.1, by rw [intsD_get h, y.2]; simp only [Rep]⟩⟩, fun S H _ _ _ => by rw [intsD_len]; exact Nat.le_refl _⟩
theorem lift_iR1 {ta : TDA} : LiftI K G0 (iRng1 (upA K G0 ta)) (diR1 ta) := fun σ H R ρ S P s t o => ⟨ρ, S, _, s, t, fun xs S1 vs H1 t1 n1 r1 => by
  obtain ⟨j, rfl, hj, t1⟩ := rng1_ok t1
  obtain ⟨v, rfl, r⟩ := r1.one
  simp only [Rep] at r
  subst r
  exact ⟨j, rfl, hj.1, hj.2, o _ _ S1 H1 _ t1 n1 serves_rng⟩⟩
theorem lift_iR2 {ta : TDA} : LiftI K G0 (iRng2 (upA K G0 ta)) (diR2 ta) := fun σ H R ρ S P s t o => ⟨ρ, S, _, s, t, fun xs S1 vs H1 t1 n1 r1 => by
  obtain ⟨i, j, rfl, hj, t1⟩ := rng2_ok t1
  obtain ⟨v, u, rfl, r, r'⟩ := r1.two
  simp only [Rep] at r r'
  subst r r'
  exact ⟨i, j, rfl, hj, o _ _ S1 H1 _ t1 n1 serves_rng⟩⟩
end
def wipeD (ρ : Env') : List Nat → Env'
  | [] => ρ
  | v :: vs => (wipeD ρ vs).set v none
theorem wipe_env {K : PySem.W.Frag} {G : Hp} {ρ : Env'} {σ : St} (x : REnv K G ρ σ) : ∀ vs : List Nat, REnv K G (wipeD ρ vs) (wipe σ vs)
  | [] => x
  | v :: vs => (wipe_env x vs).wipe v
theorem wipe_get (σ : St) (j : Nat) : ∀ vs : List Nat, (wipe σ vs)[j]? = if j ∈ vs then σ[j]?.map (fun _ => none) else σ[j]?
  | [] => by rw [if_neg (by simp)]; rfl
  | v :: vs => by
    show ((wipe σ vs).set v none)[j]? = _
    rw [List.getElem?_set, wipe_length]
    have ih := wipe_get σ j vs
    by_cases e : v = j
    · subst e
      rw [if_pos rfl, if_pos List.mem_cons_self]
      by_cases h : v < σ.length
      · rw [if_pos h, List.getElem?_eq_getElem h]; rfl
      · rw [if_neg h, List.getElem?_eq_none (by omega)]; rfl
    · rw [if_neg e, ih]
      have : (j ∈ v :: vs) ↔ j ∈ vs := by simp [Ne.symm e]
      simp only [this]
theorem wipe_wipe (σ : St) (vs : List Nat) : wipe (wipe σ vs) vs = wipe σ vs := by
  apply List.ext_getElem?
  intro j
  rw [wipe_get, wipe_get]
  by_cases e : j ∈ vs
  · rw [if_pos e, if_pos e]; cases σ[j]? <;> rfl
  · rw [if_neg e, if_neg e]
def WipeG (g : TG) (vs : List Nat) : Prop := ∀ (x : V) (σ : St) (H : Hp) (Q : St → Hp → Prop), g x σ H Q → g x σ H fun σ2 H2 => wipe σ2 vs = wipe σ vs ∧ Q σ2 H2
theorem wipe_set {σ : St} {i : Nat} {x : Option V} {vs : List Nat} (h : i ∈ vs) : wipe (σ.set i x) vs = wipe σ vs := by
  apply List.ext_getElem?
  intro j
  rw [wipe_get, wipe_get, List.getElem?_set]
  by_cases e : j ∈ vs
  · rw [if_pos e, if_pos e]
    by_cases q : i = j
    · subst q
      rw [if_pos rfl]
      by_cases l : i < σ.length
      · rw [if_pos l, List.getElem?_eq_getElem l]; rfl
      · rw [if_neg l, List.getElem?_eq_none (by omega)]
    · rw [if_neg q]
  · have q : i ≠ j := fun z => e (z ▸ h)
    rw [if_neg e, if_neg e, if_neg q]
theorem wipeG_name {i : Nat} : WipeG (gName i) [i] := fun x σ H Q h => ⟨wipe_set (by simp), h⟩
theorem wipeG_seq {vs : List Nat} : ∀ (is : List Nat), (∀ i ∈ is, i ∈ vs) → ∀ (xs : List V) (σ : St) (H : Hp) (Q : St → Hp → Prop), (is.foldr (fun i t => gCons (gName i) t) gNil) xs σ H Q →
    (is.foldr (fun i t => gCons (gName i) t) gNil) xs σ H fun σ2 H2 => wipe σ2 vs = wipe σ vs ∧ Q σ2 H2
  | [], _, xs, σ, H, Q, h => ⟨h.1, rfl, h.2⟩
  | i :: is, hs, xs, σ, H, Q, h => by
    obtain ⟨v, r, e, h⟩ := h
    refine ⟨v, r, e, ?_⟩
    have ih := wipeG_seq is (fun j hj => hs j (List.mem_cons_of_mem _ hj)) r (σ.set i (some v)) H Q h
    rw [wipe_set (hs i List.mem_cons_self)] at ih
    exact ih
theorem wipeG_tup {K : PySem.W.Frag} {n : Nat} {is : List Nat} : WipeG (gTup K n (is.foldr (fun i t => gCons (gName i) t) gNil)) is := fun x σ H Q h => by
  obtain ⟨a, xs, e, q, hl, h⟩ := h
  exact ⟨a, xs, e, q, hl, wipeG_seq is (fun _ h => h) xs σ H Q h⟩
def lcAdd (o : Option Cl) (y : D) (k : List D → Prop) : Prop := match o with
  | some (.ml acc) => acc.length < sizeLine ∧ k (acc ++ [y])
  | _ => False
def lcFin (m : Bool) (p : Addr) (P : D → Sto → Prop) (S : Sto) : Prop := match S p with
  | some (.ml xs) => match m with
    | true => P (.ref p) S
    | false => P (.lst xs) (sd S p)
  | _ => False
def lcGo (still : Sto → Prop) (g : TDG) (tt : TDT) (te : TDE) (ρ0 : Env') (p : Addr) (F : Sto → Prop) : List D → Sto → Prop
  | [], S => still S ∧ F S
  | x :: r, S => still S ∧ g x ρ0 S fun ρ2 S2 => tt ρ2 S2 fun b S3 => if b = true then te ρ2 S3 fun y S4 => lcAdd (S4 p) y fun acc => lcGo still g tt te ρ0 p F r (su S4 p (.ml acc)) else lcGo still g tt te ρ0 p F r S3
def dLc (m : Bool) (ti : TDI) (g : TDG) (tt : TDT) (te : TDE) (vs : List Nat) : TDE := fun ρ S P => ti ρ S fun xs still S1 => ∀ p, S1 p = none → lcGo still g tt te (wipeD ρ vs) p (lcFin m p P) xs (su S1 p (.ml []))
def dYes : TDT := fun _ S P => P true S
abbrev W0 : WD := fun _ _ _ => False
theorem takesB {X : Cx} {G1 : Hp} (h : ∀ u s', X.xe u s' → X.xe u s' := fun _ _ x => x) : Takes X (upW X.K G1 W0) := takes0.imp fun c d σ H ⟨_, _, _, _, _, _, w⟩ => w
theorem lcGo_still {still : Sto → Prop} {g : TDG} {tt : TDT} {te : TDE} {ρ0 : Env'} {p : Addr} {F : Sto → Prop} {xs : List D} {S : Sto} (h : lcGo still g tt te ρ0 p F xs S) : still S := by
  cases xs with
  | nil => exact h.1
  | cons _ _ => exact h.1
theorem lc_up {K : PySem.W.Frag} {G0 : Hp} {m : Bool} {wi : TI} {ti : TDI} {g : TG} {g' : TDG} {tt : TDT} {te : TDE} {vs : List Nat} (hi : LiftI K G0 wi ti) (hl : LiftG K g g') (hw : WipeG g vs) (σ : St) (H : Hp) (Q : VK)
    (h : upE K G0 (dLc m ti g' tt te vs) σ H Q) : tLc wi g (fun σ H Q => ∃ G1, upT K G1 tt σ H Q) (fun σ H Q => ∃ G1, upE K G1 te σ H Q) vs σ H Q := by
  obtain ⟨ρ, S, P, s, t, o⟩ := h
  refine hi σ H _ ρ S _ s t fun xs still S1 H1 J t1 n1 sv p hp => ?_
  obtain ⟨I, i0, ik, ig, ie⟩ := sv.ex
  have hS := n1.free hp
  have n2 : Nx K (wo H1 S1) (su S1 p (.ml [])) (upd H1 p (.lst [])) := n1.cell hp fun G' s => ⟨[], upd_same, Reps.nil⟩
  refine ⟨fun i k H => k = xs.length - i ∧ i ≤ xs.length ∧ ∃ S', Nx K (wo H1 S1) S' H ∧ I S' H ∧ lcGo still g' tt te (wipeD ρ vs) p (lcFin m p P) (xs.drop i) S', ⟨_, rfl, Nat.zero_le _, _, n2, ik _ _ _ _ i0 n2, t1 p hS⟩, ?_⟩
  rintro i k H2 ⟨rfl, hi', S2, n3, i2, go⟩
  have st := lcGo_still go
  by_cases hlt : i < xs.length
  · rw [List.drop_eq_getElem_cons hlt] at go
    obtain ⟨g1, g2⟩ := ig S2 H2 i hlt i2 n3.refl st
    refine .inr ⟨g1, fun H3 => i + 1 ≤ xs.length ∧ ∃ S', Nx K (wo H1 S1) S' H3 ∧ I S' H3 ∧ lcGo still g' tt te (wipeD ρ vs) p (lcFin m p P) (xs.drop (i + 1)) S', fun H3 z => ⟨xs.length - (i + 1), by omega, rfl, z.1, z.2⟩, fun x H3 y => ?_⟩
    obtain ⟨e3, rx⟩ := g2 x H3 y
    subst e3
    have env : REnv K (wo H3 S2) (wipeD ρ vs) (wipe σ vs) := (wipe_env (s.env.mono (n1.st.trans n3.st)) vs)
    have z := hw x (wipe σ vs) H3 (fun σ2 H2 => ∃ G1, upT K G1 tt σ2 H2 fun b H3 => if b = true then ∃ G1, upE K G1 te σ2 H3 fun y H4 => ∃ acc, H4 p = some (.lst acc) ∧ acc.length < sizeLine ∧ (i + 1 ≤ xs.length ∧ ∃ S', Nx K (wo H1 S1) S' (upd H4 p (.lst (acc ++ [y]))) ∧ I S' (upd H4 p (.lst (acc ++ [y]))) ∧ lcGo still g' tt te (wipeD ρ vs) p (lcFin m p P) (xs.drop (i + 1)) S') else (i + 1 ≤ xs.length ∧ ∃ S', Nx K (wo H1 S1) S' H3 ∧ I S' H3 ∧ lcGo still g' tt te (wipeD ρ vs) p (lcFin m p P) (xs.drop (i + 1)) S')) ?_
    · rw [wipe_wipe] at z
      exact z
    · refine hl (wo H3 S2) _ _ _ _ _ _ _ _ ⟨env, n3.refl⟩ rx go.2 fun ρ3 σ3 q s3 => ?_
      refine ⟨wo H3 S2, ρ3, S2, _, s3, q, fun b S4 H4 t4 n4 => ?_⟩
      cases b with
      | false => exact ⟨hlt, S4, n3.trans n4, ik _ _ _ _ i2 n4, t4⟩
      | true =>
        refine ⟨wo H3 S2, ρ3, S4, _, s3.next n4, t4, fun y S5 u H5 t5 n5 r5 => ?_⟩
        cases e : S5 p with
        | none => rw [e] at t5; exact t5.elim
        | some c =>
          rw [e] at t5
          cases c with
          | ml acc =>
            obtain ⟨us, q5, r6⟩ := n5.ok p _ e
            have n6 : Nx K (wo H5 S5) (su S5 p (.ml (acc ++ [y]))) (upd H5 p (.lst (us ++ [u]))) := n5.write e ⟨_, upd_same, r6.app (Reps.cons r5 Reps.nil)⟩
            exact ⟨us, q5, by rw [← r6.len]; exact t5.1, hlt, _, ((n3.trans n4).trans n5).trans n6, ik _ _ _ _ (ik _ _ _ _ (ik _ _ _ _ i2 n4) n5) n6, t5.2⟩
          | dI _ => exact t5.elim
          | dS _ => exact t5.elim
          | ins _ _ => exact t5.elim
  · have e' : i = xs.length := by omega
    subst e'
    rw [List.drop_length] at go
    refine .inl ⟨ie S2 H2 i2 n3.refl st, ?_⟩
    have f := go.2
    unfold lcFin at f
    cases e : S2 p with
    | none => rw [e] at f; exact f.elim
    | some c =>
      rw [e] at f
      cases c with
      | ml ys =>
        cases m with
        | true => exact o _ _ _ _ f (n1.trans n3) (by simp only [Rep])
        | false =>
          obtain ⟨n4, r4⟩ := n3.refl.frz e
          exact o _ _ _ _ f ((n1.trans n3).trans n4) r4
      | dI _ => exact f.elim
      | dS _ => exact f.elim
      | ins _ _ => exact f.elim
section
variable {X : Cx} {G0 : Hp}
def DTs (X : Cx) (G0 : Hp) (ifs : List Expr) (t : TDT) : Prop := PTs X ifs (upT X.K G0 t)
theorem dts_nil : DTs X G0 [] dYes := ⟨fun pins s σ H Q I ⟨ρ, S, P, st, t, o⟩ => pts_nil.run pins s σ H Q I (o _ _ _ t st.refl)⟩
theorem dts_one {c : Expr} {t : TDT} (h : DT X G0 c t) : DTs X G0 [c] t := pts_one h
theorem de_lc (m : Bool) {elt tg iter : Expr} {ifs : List Expr} {scope : Scope} {own : List (Str × Nat)} {pos : Pos} {wi : TI} {ti : TDI} {g : TG} {g' : TDG} {tt : TDT} {te : TDE} (hc : X.calm = true) (hN : X.N.Nodup) (hi : PI X tg iter wi) (hli : LiftI X.K G0 wi ti) (hl : LiftG X.K g g') (hw : WipeG g (own.map (·.2)))
    (ok : BlkOk X.N X.env.scope scope own)
    (hg : ∀ (s : Shared) (H : Hp) (C : Addr) (cl : List (Str × Addr)) (fp : List Addr), PG (X.blk s H scope (compEnvC scope cl C X.env) fp) tg g)
    (ht : ∀ (s : Shared) (H : Hp) (C : Addr) (cl : List (Str × Addr)) (fp : List Addr) (G1 : Hp), Takes (X.blk s H scope (compEnvC scope cl C X.env) fp) (upW X.K G1 W0) → DTs (X.blk s H scope (compEnvC scope cl C X.env) fp) G1 ifs tt)
    (he : ∀ (s : Shared) (H : Hp) (C : Addr) (cl : List (Str × Addr)) (fp : List Addr) (G1 : Hp), Takes (X.blk s H scope (compEnvC scope cl C X.env) fp) (upW X.K G1 W0) → DE (X.blk s H scope (compEnvC scope cl C X.env) fp) G1 elt te)
    (hs : ∀ x, foldedSetIterable iter X.env x = pure x := by intro _; rfl) :
    DE X G0 (.ListComp elt [⟨tg, iter, ifs, 0⟩] scope pos) (dLc m ti g' tt te (own.map (·.2))) :=
  PE.imp (pe_lc (tt := fun σ H Q => ∃ G1, upT X.K G1 tt σ H Q) (te := fun σ H Q => ∃ G1, upE X.K G1 te σ H Q) hc hN hi ok hg
    (fun s H C cl fp => ⟨fun pins s1 σ H1 Q I ⟨G1, h⟩ => (ht s H C cl fp G1 (takesB (X := X.blk s H scope (compEnvC scope cl C X.env) fp))).run pins s1 σ H1 Q I h⟩)
    (fun s H C cl fp => ⟨fun pins s1 σ H1 Q I ⟨G1, h⟩ => (he s H C cl fp G1 (takesB (X := X.blk s H scope (compEnvC scope cl C X.env) fp))).run pins s1 σ H1 Q I h⟩) hs) (lc_up hli hl hw)
theorem ds_setLc (i : Nat) (m : Bool) {y : Str} {py : Pos} {elt tg iter : Expr} {ifs : List Expr} {scope : Scope} {own : List (Str × Nat)} {pos spos : Pos} {wi : TI} {ti : TDI} {g : TG} {g' : TDG} {tt : TDT} {te : TDE} (hc : X.calm = true) (hN : X.N.Nodup) (hy : X.N[i]? = some y) (hyl : X.env.scope.names.lookup y = some .local)
    (hsw : swapsWith (.ListComp elt [⟨tg, iter, ifs, 0⟩] scope pos) (some (.Name y py)) spos.line X.env = pure true) (hi : PI X tg iter wi) (hli : LiftI X.K G0 wi ti) (hl : LiftG X.K g g') (hw : WipeG g (own.map (·.2)))
    (ok : BlkOk X.N X.env.scope scope own)
    (hg : ∀ (s : Shared) (H : Hp) (C : Addr) (cl : List (Str × Addr)) (fp : List Addr), PG (X.blk s H scope (compEnvC scope cl C X.env) fp) tg g)
    (ht : ∀ (s : Shared) (H : Hp) (C : Addr) (cl : List (Str × Addr)) (fp : List Addr) (G1 : Hp), Takes (X.blk s H scope (compEnvC scope cl C X.env) fp) (upW X.K G1 W0) → DTs (X.blk s H scope (compEnvC scope cl C X.env) fp) G1 ifs tt)
    (he : ∀ (s : Shared) (H : Hp) (C : Addr) (cl : List (Str × Addr)) (fp : List Addr) (G1 : Hp), Takes (X.blk s H scope (compEnvC scope cl C X.env) fp) (upW X.K G1 W0) → DE (X.blk s H scope (compEnvC scope cl C X.env) fp) G1 elt te)
    (hs : ∀ x, foldedSetIterable iter X.env x = pure x := by intro _; rfl) :
    DS X G0 (.Assign [.Name y py] (.ListComp elt [⟨tg, iter, ifs, 0⟩] scope pos) spos) (dAsg (dLc m ti g' tt te (own.map (·.2))) (dgN i)) :=
  PS.imp (ps_setLc (tt := fun σ H Q => ∃ G1, upT X.K G1 tt σ H Q) (te := fun σ H Q => ∃ G1, upE X.K G1 te σ H Q) hc hN hy hyl hsw hi ok hg
    (fun s H C cl fp => ⟨fun pins s1 σ H1 Q I ⟨G1, h⟩ => (ht s H C cl fp G1 (takesB (X := X.blk s H scope (compEnvC scope cl C X.env) fp))).run pins s1 σ H1 Q I h⟩)
    (fun s H C cl fp => ⟨fun pins s1 σ H1 Q I ⟨G1, h⟩ => (he s H C cl fp G1 (takesB (X := X.blk s H scope (compEnvC scope cl C X.env) fp))).run pins s1 σ H1 Q I h⟩) hs)
    fun E σ H ⟨ρ, S, dD, s, t, o⟩ => lc_up hli hl hw σ H _ ⟨ρ, S, _, s, t, fun d S' v H' a b c => lift_gN _ _ _ _ _ _ _ _ _ (s.next b) c a fun ρ' σ' p s' => o.nx _ _ _ _ p s'⟩
end
end DL
namespace DL
open PySem L2
def tyS (S : Sto) : D → Option String
  | .non => some "NoneType"
  | .bl _ => some "bool"
  | .int _ => some "int"
  | .str _ => some "str"
  | .lst _ => some "list"
  | .scr _ => none
  | .tup _ => some "tuple"
  | .ref p => match S p with
    | some (.ml _) => some "list"
    | _ => none
  | .ty _ => none
def instB (T n : String) : Bool := T == n || (T == "bool" && n == "int")
theorem kit_inst : ∀ T ∈ ["NoneType", "bool", "int", "str", "list", "tuple"], ∀ n ∈ ["bool", "int", "str", "list", "tuple"], kitB T n = some (instB T n) := by decide +kernel
def isiK (o : Option String) (n : String) (S : Sto) (P : D → Sto → Prop) : Prop := match o with
  | some T => P (.bl (instB T n)) S
  | none => False
def dIsi (n : String) (te : TDE) : TDE := fun ρ S P => te ρ S fun x S1 => isiK (tyS S1 x) n S1 P
theorem tyS_mem {S : Sto} {d : D} {T : String} (e : tyS S d = some T) : T ∈ ["NoneType", "bool", "int", "str", "list", "tuple"] := by
  cases d with
  | ref p =>
    simp only [tyS] at e
    split at e
    · cases e; decide
    · cases e
  | scr _ => cases e
  | ty _ => cases e
  | _ => cases e; decide

theorem tyS_ok {K : PySem.W.Frag} {G H : Hp} {S : Sto} {d : D} {v : V} {T : String} (n : Nx K G S H) (r : Rep K (wo H S) d v) (e : tyS S d = some T) : TyOf K H v (.type T) := by
  cases d with
  | non => simp only [Rep] at r; subst r; cases e; exact .non
  | bl b => simp only [Rep] at r; subst r; cases e; exact .bl b
  | int i => simp only [Rep] at r; subst r; cases e; exact .int i
  | str x => simp only [Rep] at r; subst r; cases e; exact .str x
  | lst xs =>
    simp only [Rep] at r
    obtain ⟨a, vs, rfl, q, _⟩ := r
    cases e
    exact .lst (wo_le _ _ _ _ q)
  | tup xs =>
    simp only [Rep] at r
    obtain ⟨a, vs, rfl, q, _⟩ := r
    cases e
    exact .tup (wo_le _ _ _ _ q)
  | ref p =>
    simp only [Rep] at r
    subst r
    simp only [tyS] at e
    split at e
    · rename_i xs h
      cases e
      obtain ⟨vs, q, _⟩ := n.ok p _ h
      exact .lst q
    · cases e
  | scr _ => cases e
  | ty _ => cases e
section
variable {X : Cx} {G0 : Hp} {pos p p2 : Pos} {e : Expr} {te : TDE}
theorem de_isi (n : String) {x2 : Str} (hmem : n ∈ ["bool", "int", "str", "list", "tuple"]) (hm : X.mg "isinstance" = none) (hm2 : X.mg x2 = none) (he : DE X G0 e te) (hv2 : bootBuiltins x2 = some (.type n)) (hg : Gl X "isinstance" := by rfl) (hg2 : Gl X x2 := by rfl)
    (hn2 : x2 ≠ "__name__" := by decide) (hd2 : (x2 == ("__debug__" : Str)) = false := by decide)
    (hs : starEach [e, .Name x2 p2] X.env = (false, eval e X.env) :: starEach [.Name x2 p2] X.env := by rfl) (hs2 : starEach [.Name x2 p2] X.env = (false, eval (.Name x2 p2) X.env) :: starEach [] X.env := by rfl) (hpl : (backTo pos (starEach [.Name x2 p2] X.env)).any (·.1) = false := by rfl) :
    DE X G0 (.Call (.Name "isinstance" p) [e, .Name x2 p2] [] pos) (dIsi n te) :=
  PE.imp (pe_callB call_isi hg hm (by decide +kernel) (pa_cons he (pa_cons (pe_bltn (v := .ty n) (r := rfl) hg2 hm2 hv2 hn2 hd2) pa_nil hs2) hs) (he := hs) (hpl := hpl)) fun σ H Q ⟨ρ, S, P, st, t, o⟩ =>
    ⟨ρ, S, _, st, t, fun d S1 v H1 t1 n1 r1 => by
      cases e : tyS S1 d with
      | none => rw [e] at t1; exact t1.elim
      | some T =>
        rw [e] at t1
        exact ⟨v, .ty n, .type T, .type n, _, rfl, .ty n, .base (tyS_ok n1 r1 e), kit_ty (kit_inst T (tyS_mem e) n hmem), o _ _ _ _ t1 n1 (by simp only [Rep])⟩⟩
end
def isEK (o : Option Bool) (S : Sto) (P : D → Sto → Prop) : Prop := match o with
  | some b => P (.bl b) S
  | none => False
def isED (K : PySem.W.Frag) (C a : Addr) : RCD := fun xs S P => ExcC K C ∧ match xs with
  | [.ref a', .ref D] => a' = a ∧ isEK (PySem.W.kitOne K (.ref C) (.ref D)) S P
  | [.ref a', .ty n] => a' = a ∧ isEK (PySem.W.kitOne K (.ref C) (.type n)) S P
  | _ => False
theorem isEK_ok {o : Option Bool} {S : Sto} {P : D → Sto → Prop} (t : isEK o S P) : ∃ b, o = some b ∧ P (.bl b) S := by
  cases o with
  | none => exact t.elim
  | some b => exact ⟨b, rfl, t⟩
theorem lift_isE {K : PySem.W.Frag} {C a : Addr} : LiftC K (fun xs H Q => ExcC K C ∧ rIsE K C a xs H Q) (isED K C a) := by
  intro xs vs G S H P Q n r t o
  obtain ⟨c, t⟩ := t
  refine ⟨c, ?_⟩
  split at t
  · obtain ⟨v, u, rfl, r1, r2⟩ := r.two
    simp only [Rep] at r1 r2
    subst r1 r2
    obtain ⟨rfl, t⟩ := t
    obtain ⟨b, e, t⟩ := isEK_ok t
    exact ⟨_, _, b, rfl, fun u h => h, e, o.now n t (by simp only [Rep])⟩
  · obtain ⟨v, u, rfl, r1, r2⟩ := r.two
    simp only [Rep] at r1 r2
    subst r1 r2
    obtain ⟨rfl, t⟩ := t
    obtain ⟨b, e, t⟩ := isEK_ok t
    exact ⟨_, _, b, rfl, fun u h => h, e, o.now n t (by simp only [Rep])⟩
  · exact t.elim
section
variable {X : Cx} {G1 : Hp} {pos p : Pos} {e e2 : Expr} {ta : TDA} {a C : Addr} {oe : Obj} {pn : List (Addr × Obj)}
theorem de_isE (hz : Zc (.ref C) none oe) (hf : ∃ vs, oe.data = .fields vs) (hm : X.mg "isinstance" = none) (ha : DA (X.suite a ((a, oe) :: pn)) G1 [e, e2] ta) (hg : Gl X "isinstance" := by rfl)
    (he : starEach [e, e2] X.env = (false, eval e X.env) :: starEach [e2] X.env := by rfl) (hpl : (backTo pos (starEach [e2] X.env)).any (·.1) = false := by rfl) :
    DE (X.suite a ((a, oe) :: pn)) G1 (.Call (.Name "isinstance" p) [e, e2] [] pos) (dCB (isED X.K C a) ta) :=
  de_callB (X := X.suite a ((a, oe) :: pn)) (r := fun xs H Q => ExcC X.K C ∧ rIsE X.K C a xs H Q) (fun pins s σ H xs us Q I r h => call_isE h.1 hz hf pins s σ H xs us Q I r h.2) lift_isE hg hm (by decide +kernel) ha (he := he) (hpl := hpl)
end
def tryW (K : PySem.W.Frag) (c : Value) (ts : Addr → Addr → TDS) (i : Option Nat) (W : WD) (E : DEnds) : WD := fun C ρ' S' => ∃ b, PySem.W.exmOne K (.ref C) c = some b ∧
  (b = true → ∀ a, S' a = none → match i with
    | some i => ts C a { nx := fun ρ S => E.nx (ρ.set i none) S, rt := E.rt, bk := fun ρ S => E.bk (ρ.set i none) S, ct := fun ρ S => E.ct (ρ.set i none) S } (ρ'.set i (some (.ref a))) S'
    | none => ts C a E ρ' S') ∧ (b = false → W C ρ' S')
def dTry (K : PySem.W.Frag) (c : Value) (i : Option Nat) (tb : WD → TDS) (ts : Addr → Addr → TDS) (W : WD) : TDS := fun E ρ S => tb (tryW K c ts i W E) E ρ S
section
variable {X : Cx} {G0 : Hp} {x n : Str} {c : Value} {i : Nat} {body suite : List Stmt} {b₀ : Stmt} {np pos pos' : Pos} {tb : WD → TDS} {ts : Addr → Addr → TDS} {W : WD}
theorem ds_try_as (i : Nat) (hs : X.stack = X.env :: X.outer) (hf : X.env.frame = some X.env.locals) (hN : X.N.Nodup) (hi : X.N[i]? = some n) (hln : X.env.kindOf n = some .local) (hc : Names X x c) (tk : Takes X (upW X.K G0 W))
    (hb : ∀ (W1 : WD) (pn : List (Addr × Obj)) (xe : Value → Shared → Prop), Takes (X.tr pn xe) (upW X.K G0 W1) → PassesOwn (model X.prog X.w) X.A X.env xe → DSs (X.tr pn xe) G0 body (tb W1))
    (hsu : ∀ (a : Addr) (oe : Obj) (C : Addr) (pn : List (Addr × Obj)), Zc (.ref C) none oe → (∃ vs, oe.data = .fields vs) → DSs (X.suite a ((a, oe) :: pn)) G0 (b₀ :: suite) (ts C a)) :
    DS X G0 (.Try body [.ExceptHandler (some (.Name x np)) (some n) (b₀ :: suite) pos'] [] [] pos) (dTry X.K c (some i) tb ts W) :=
  PS.imp (ps_try_as (tb := fun Wx D σ H => ∃ W1 : WD, (∀ cls d σ H, upW X.K G0 W1 cls d σ H → Wx cls d σ H) ∧ upS X.K G0 (tb W1) D σ H) (ts := fun a cls d D σ H => ∃ C, cls = .ref C ∧ d = none ∧ upS X.K G0 (ts C a) D σ H) hs hf hN hi hln hc tk
    (fun Wx pn xe tk1 po => ⟨fun pins s σ H D I ⟨W1, h1, h2⟩ => (hb W1 pn xe (tk1.imp h1) po).run pins s σ H D I h2⟩)
    (fun a oe cls d pn hz hf => ⟨fun pins s σ H D I ⟨C, e1, e2, h2⟩ => by subst e1 e2; exact (hsu a oe C pn hz hf).run pins s σ H D I h2⟩))
    fun E σ H ⟨ρ, S, dD, s, t, o⟩ => ⟨tryW X.K c ts (some i) W dD, fun cls d σ1 H1 ⟨ρ1, S1, C, e1, e2, s1, b, hb1, hy, hn⟩ => ⟨b, by rw [e1]; exact hb1, fun h a ha => ⟨C, e1, e2, ρ1.set i (some (.ref a)), S1, _, ⟨s1.env.set (by simp only [Rep]), s1.nx⟩, hy h a (s1.nx.free ha),
      ⟨fun ρ S σ H z s => o.nx _ _ _ _ z ⟨s.env.wipe i, s.nx⟩, o.rt, fun ρ S σ H z s => o.bk _ _ _ _ z ⟨s.env.wipe i, s.nx⟩, fun ρ S σ H z s => o.ct _ _ _ _ z ⟨s.env.wipe i, s.nx⟩⟩⟩, fun h => ⟨ρ1, S1, C, e1, e2, s1, hn h⟩⟩, ρ, S, dD, s, t, o⟩
theorem ds_try_only (hs : X.stack = X.env :: X.outer) (hf : X.env.frame = some X.env.locals) (hc : Names X x c) (tk : Takes X (upW X.K G0 W))
    (hb : ∀ (W1 : WD) (pn : List (Addr × Obj)) (xe : Value → Shared → Prop), Takes (X.tr pn xe) (upW X.K G0 W1) → PassesOwn (model X.prog X.w) X.A X.env xe → DSs (X.tr pn xe) G0 body (tb W1))
    (hsu : ∀ (a : Addr) (oe : Obj) (C : Addr) (pn : List (Addr × Obj)), Zc (.ref C) none oe → (∃ vs, oe.data = .fields vs) → DSs (X.suite a ((a, oe) :: pn)) G0 (b₀ :: suite) (ts C a)) :
    DS X G0 (.Try body [.ExceptHandler (some (.Name x np)) none (b₀ :: suite) pos'] [] [] pos) (dTry X.K c none tb ts W) :=
  PS.imp (ps_try_only (tb := fun Wx D σ H => ∃ W1 : WD, (∀ cls d σ H, upW X.K G0 W1 cls d σ H → Wx cls d σ H) ∧ upS X.K G0 (tb W1) D σ H) (ts := fun a cls d D σ H => ∃ C, cls = .ref C ∧ d = none ∧ upS X.K G0 (ts C a) D σ H) hs hf hc tk
    (fun Wx pn xe tk1 po => ⟨fun pins s σ H D I ⟨W1, h1, h2⟩ => (hb W1 pn xe (tk1.imp h1) po).run pins s σ H D I h2⟩)
    (fun a oe cls d pn hz hf => ⟨fun pins s σ H D I ⟨C, e1, e2, h2⟩ => by subst e1 e2; exact (hsu a oe C pn hz hf).run pins s σ H D I h2⟩))
    fun E σ H ⟨ρ, S, dD, s, t, o⟩ => ⟨tryW X.K c ts none W dD, fun cls d σ1 H1 ⟨ρ1, S1, C, e1, e2, s1, b, hb1, hy, hn⟩ => ⟨b, by rw [e1]; exact hb1, fun h a ha => ⟨C, e1, e2, ρ1, S1, dD, s1, hy h a (s1.nx.free ha), o⟩, fun h => ⟨ρ1, S1, C, e1, e2, s1, hn h⟩⟩, ρ, S, dD, s, t, o⟩
end
end DL
namespace DL
open PySem L2
structure CA where
  (Guild Post GuildError NoHouse NoWay WayThere NoRoad NoLetter TooMany BadNote : Addr)
structure DefT (K : PySem.W.Frag) (mg : Str → Option Value) (x : Str) (st : Stmt) (ps : List Str) (f : Addr) (fd : FuncData) : Prop where
  F : Fun K x x st f fd
  g : mg x = some (.ref f)
  b : Binds K fd ps []
structure MethT (K : PySem.W.Frag) (C : Addr) (x qual : Str) (st : Stmt) (ps : List Str) (f : Addr) (fd : FuncData) : Prop where
  F : Fun K x qual st f fd
  m : Meth K C x f
  b : Binds K fd ps []
structure ExcT (K : PySem.W.Frag) (mg : Str → Option Value) (x : Str) (C : Addr) : Prop where
  g : mg x = some (.ref C)
  xi : PySem.W.excIn K C [.type "ValueError", .type "Exception", .type "BaseException", .type "object"] "ValueError.__new__" = true
  k : PySem.W.keepIn K (.ref C) = true
  b : PySem.W.subIn K (.ref C) (.type "BaseException") = some true
  t : PySem.W.typeIn K (.ref C) = some (.type "type")
theorem ExcT.mk' {X : Cx} {x m : Str} {C : Addr} {j : Nat} {p p2 pos : Pos} (T : ExcT X.K X.mg x C) (hg : Gl X x) (hdb : (x == ("__debug__" : Str)) = false := by decide) : PMk X (.Call (.Name x p) [.Constant (.str m) j p2] [] pos) (fun _ H Q => Q (.ref C) none H) :=
  pmk_own PySem.F.excBase_ValueError T.xi T.g T.k (raises_own T.b T.t) hg hdb
def spTop (K : PySem.W.Frag) : Sp := fun vs H Q _ => ∃ (a : Addr) (ns : List Int), vs = [.ref a] ∧ SqL K H a (ns.map V.int) ∧ ns.length ≤ 63 ∧ ∀ H', Q (.bl true) H'
theorem top_up {K : PySem.W.Frag} {sp : DSp} (len : ∀ ds S Q E, sp ds S Q E → ds.length = ["script"].length) (h : ∀ ns : List Int, ns.length ≤ 63 → ∀ (P : D → Sto → Prop) (E : Addr → Sto → Prop), P (.bl true) (fun _ => none) → sp [.scr ns] (fun _ => none) P E)
    (vs : List V) (H : Hp) (Q : VK) (E : XK) (t : spTop K vs H Q E) : upSp K sp vs H Q E := by
  obtain ⟨a, ns, rfl, q, hl, k⟩ := t
  have e : wo H (fun _ => none) = H := rfl
  refine ⟨[.scr ns], fun _ => none, fun d _ => d = .bl true, fun _ _ => False, ⟨Same.refl _, fun a c z => by cases z⟩, Reps.cons ?_ Reps.nil, h ns hl _ _ rfl, fun d S' v H' z _ r => ?_, fun _ _ _ z => z.elim⟩
  · simp only [Rep]; exact ⟨a, rfl, q⟩
  · subst z
    simp only [Rep] at r
    subst r
    exact k H'
end DL
namespace DL
open PySem L2
structure Enc {α : Type} [DecidableEq α] (f : α → D) (n : Nat) : Prop where
  pu : ∀ x, pureD (f x) = true
  ly : ∀ x, (toP (f x)).canLay0 = true
  dp : ∀ x, (toP (f x)).depth ≤ n
  eq : ∀ x y, dEq (f x) (f y) = decide (x = y)
  no : ∀ x, PyData.eqv .none (toP (f x)) = false ∧ PyData.eqv (toP (f x)) .none = false
def eO {α : Type} (f : α → D) : Option α → D
  | none => .non
  | some x => f x
def eL {α : Type} (f : α → D) (xs : List α) : D := .lst (xs.map f)
def eT {α : Type} (f : α → D) (xs : List α) : D := .tup (xs.map f)
def eP {α β : Type} (f : α → D) (g : β → D) (p : α × β) : D := .tup [f p.1, g p.2]
def e3 {α β γ : Type} (f : α → D) (g : β → D) (h : γ → D) (p : α × β × γ) : D := .tup [f p.1, g p.2.1, h p.2.2]
abbrev eR : List Int → D := eL .int
section
variable {α β γ : Type} [DecidableEq α] [DecidableEq β] [DecidableEq γ] {f : α → D} {g : β → D} {h : γ → D} {n m k : Nat}
theorem Enc.int : Enc D.int 0 := ⟨fun _ => rfl, fun _ => rfl, fun _ => Nat.le_refl _, fun x y => by simp only [dEq, toP, PyData.eqv]; exact Bool.beq_eq_decide_eq x y, fun _ => ⟨rfl, rfl⟩⟩
theorem Enc.bl : Enc D.bl 0 := ⟨fun _ => rfl, fun _ => rfl, fun _ => Nat.le_refl _, fun x y => by simp only [dEq, toP, PyData.eqv]; exact Bool.beq_eq_decide_eq x y, fun _ => ⟨rfl, rfl⟩⟩
theorem pureDs_map (e : Enc f n) : ∀ xs : List α, pureDs (xs.map f) = true
  | [] => rfl
  | x :: xs => by simp only [List.map_cons, pureDs, e.pu x, pureDs_map e xs, Bool.and_self]
theorem lays_map (e : Enc f n) : ∀ xs : List α, PyData.canLayAll0 (toPs (xs.map f)) = true
  | [] => rfl
  | x :: xs => by simp only [List.map_cons, toPs, PyData.canLayAll0, e.ly x, lays_map e xs, Bool.and_self]
theorem depths_map (e : Enc f n) : ∀ xs : List α, PyData.depthAll (toPs (xs.map f)) ≤ n
  | [] => Nat.zero_le _
  | x :: xs => by
    simp only [List.map_cons, toPs, PyData.depthAll]
    have h1 := e.dp x
    have h2 := depths_map e xs
    omega
theorem eqs_map (e : Enc f n) : ∀ xs ys : List α, PyData.eqvAll (toPs (xs.map f)) (toPs (ys.map f)) = decide (xs = ys)
  | [], [] => rfl
  | [], y :: ys => rfl
  | x :: xs, [] => rfl
  | x :: xs, y :: ys => by
    simp only [List.map_cons, toPs, PyData.eqvAll]
    have h1 := e.eq x y
    unfold dEq at h1
    rw [h1, eqs_map e xs ys]
    by_cases q : x = y
    · subst q; by_cases r : xs = ys
      · subst r; simp
      · simp [r]
    · simp [q]
theorem Enc.lst (e : Enc f n) : Enc (eL f) (n + 1) := ⟨fun x => by simp only [eL, pureD]; exact pureDs_map e x, fun x => by simp only [eL, toP, PyData.canLay0]; exact lays_map e x,
  fun x => by simp only [eL, toP, PyData.depth]; have := depths_map e x; omega, fun x y => by simp only [eL, dEq, toP, PyData.eqv]; exact eqs_map e x y, fun x => ⟨rfl, rfl⟩⟩
theorem Enc.tup (e : Enc f n) : Enc (eT f) (n + 1) := ⟨fun x => by simp only [eT, pureD]; exact pureDs_map e x, fun x => by simp only [eT, toP, PyData.canLay0]; exact lays_map e x,
  fun x => by simp only [eT, toP, PyData.depth]; have := depths_map e x; omega, fun x y => by simp only [eT, dEq, toP, PyData.eqv]; exact eqs_map e x y, fun x => ⟨rfl, rfl⟩⟩
theorem Enc.opt' (e : Enc f n) : (∀ x, pureD (eO f x) = true) ∧ (∀ x, (toP (eO f x)).canLay0 = true) ∧ (∀ x, (toP (eO f x)).depth ≤ n) ∧ ∀ x y, dEq (eO f x) (eO f y) = decide (x = y) := by
  refine ⟨fun x => by cases x with | none => rfl | some x => exact e.pu x, fun x => by cases x with | none => rfl | some x => exact e.ly x, fun x => by cases x with | none => exact Nat.zero_le _ | some x => exact e.dp x, fun x y => ?_⟩
  cases x with
  | none =>
    cases y with
    | none => rfl
    | some y => exact (e.no y).1
  | some x =>
    cases y with
    | none => exact (e.no x).2
    | some y =>
      have := e.eq x y
      simp only [eO, this, Option.some.injEq]
theorem Enc.pair (e : Enc f n) (e' : Enc g m) : Enc (eP f g) (max n m + 1) := ⟨fun x => by simp only [eP, pureD, pureDs, e.pu, e'.pu, Bool.and_self], fun x => by simp only [eP, toP, toPs, PyData.canLay0, PyData.canLayAll0, e.ly, e'.ly, Bool.and_self],
  fun x => by simp only [eP, toP, toPs, PyData.depth, PyData.depthAll]; have h1 := e.dp x.1; have h2 := e'.dp x.2; omega, fun x y => by
    obtain ⟨a, b⟩ := x
    obtain ⟨c, d⟩ := y
    have h1 := e.eq a c
    have h2 := e'.eq b d
    unfold dEq at h1 h2
    simp only [eP, dEq, toP, toPs, PyData.eqv, PyData.eqvAll, h1, h2, Bool.and_true]
    by_cases q : a = c <;> by_cases r : b = d <;> simp [q, r], fun x => ⟨rfl, rfl⟩⟩
structure EncO {α : Type} [DecidableEq α] (f : α → D) (n : Nat) : Prop where
  pu : ∀ x, pureD (f x) = true
  ly : ∀ x, (toP (f x)).canLay0 = true
  dp : ∀ x, (toP (f x)).depth ≤ n
  eq : ∀ x y, dEq (f x) (f y) = decide (x = y)
theorem Enc.o (e : Enc f n) : EncO f n := ⟨e.pu, e.ly, e.dp, e.eq⟩
theorem Enc.opt (e : Enc f n) : EncO (eO f) n := let ⟨a, b, c, d⟩ := e.opt'; ⟨a, b, c, d⟩
theorem EncO.lst (e : EncO f n) : Enc (eL f) (n + 1) := by
  have p : ∀ xs : List α, pureDs (xs.map f) = true := fun xs => by
    induction xs with
    | nil => rfl
    | cons x xs ih => simp only [List.map_cons, pureDs, e.pu x, ih, Bool.and_self]
  have l : ∀ xs : List α, PyData.canLayAll0 (toPs (xs.map f)) = true := fun xs => by
    induction xs with
    | nil => rfl
    | cons x xs ih => simp only [List.map_cons, toPs, PyData.canLayAll0, e.ly x, ih, Bool.and_self]
  have d : ∀ xs : List α, PyData.depthAll (toPs (xs.map f)) ≤ n := fun xs => by
    induction xs with
    | nil => exact Nat.zero_le _
    | cons x xs ih =>
      simp only [List.map_cons, toPs, PyData.depthAll]
      have h1 := e.dp x
      omega
  have q : ∀ xs ys : List α, PyData.eqvAll (toPs (xs.map f)) (toPs (ys.map f)) = decide (xs = ys) := fun xs => by
    induction xs with
    | nil => intro ys; cases ys <;> rfl
    | cons x xs ih =>
      intro ys
      cases ys with
      | nil => rfl
      | cons y ys =>
        simp only [List.map_cons, toPs, PyData.eqvAll]
        have h1 := e.eq x y
        unfold dEq at h1
        rw [h1, ih ys]
        by_cases q : x = y
        · subst q; by_cases r : xs = ys
          · subst r; simp
          · simp [r]
        · simp [q]
  exact ⟨fun x => by simp only [eL, pureD]; exact p x, fun x => by simp only [eL, toP, PyData.canLay0]; exact l x, fun x => by simp only [eL, toP, PyData.depth]; have := d x; omega, fun x y => by simp only [eL, dEq, toP, PyData.eqv]; exact q x y, fun x => ⟨rfl, rfl⟩⟩
theorem EncO.triple (e : EncO f n) (e' : EncO g m) (e'' : EncO h k) : Enc (e3 f g h) (max n (max m k) + 1) := ⟨fun x => by simp only [e3, pureD, pureDs, e.pu, e'.pu, e''.pu, Bool.and_self], fun x => by simp only [e3, toP, toPs, PyData.canLay0, PyData.canLayAll0, e.ly, e'.ly, e''.ly, Bool.and_self],
  fun x => by simp only [e3, toP, toPs, PyData.depth, PyData.depthAll]; have h1 := e.dp x.1; have h2 := e'.dp x.2.1; have h3 := e''.dp x.2.2; omega, fun x y => by
    obtain ⟨a, b, c⟩ := x
    obtain ⟨a', b', c'⟩ := y
    have h1 := e.eq a a'
    have h2 := e'.eq b b'
    have h3 := e''.eq c c'
    unfold dEq at h1 h2 h3
    simp only [e3, dEq, toP, toPs, PyData.eqv, PyData.eqvAll, h1, h2, h3, Bool.and_true]
    by_cases q : a = a' <;> by_cases r : b = b' <;> by_cases t : c = c' <;> simp [q, r, t], fun x => ⟨rfl, rfl⟩⟩
theorem EncO.ok (e : EncO f n) (hn : n ≤ 64) (x : α) : okD (f x) = true := by
  unfold okD SeqAt.shaped
  rw [e.pu x, e.ly x, decide_eq_true (Nat.le_trans (e.dp x) hn)]; rfl
theorem EncO.any (e : EncO f n) (x : α) : ∀ ys : List α, ((ys.map f).any fun z => dEq z (f x)) = decide (x ∈ ys)
  | [] => rfl
  | y :: ys => by
    rw [List.map_cons, List.any_cons, e.eq y x, EncO.any e x ys]
    by_cases q : y = x
    · subst q; simp
    · simp [q, Ne.symm q]
end
theorem encR : Enc eR 1 := Enc.int.lst
theorem encOR : EncO (eO eR) 1 := encR.opt
theorem encTab : Enc (eL (eO eR)) 2 := encOR.lst
abbrev eII : Int × Int → D := eP .int .int
theorem encII : Enc eII 1 := Enc.int.pair Enc.int
theorem dEq_int (i j : Int) : dEq (.int i) (.int j) = decide (i = j) := Enc.int.eq i j
theorem dEq_bl (i j : Bool) : dEq (.bl i) (.bl j) = decide (i = j) := Enc.bl.eq i j
theorem okD_int (i : Int) : okD (.int i) = true := Enc.int.o.ok (by decide) i
theorem okD_bl (i : Bool) : okD (.bl i) = true := Enc.bl.o.ok (by decide) i
theorem okD_non : okD .non = true := by decide
theorem dEq_R (x y : List Int) : dEq (.lst (x.map .int)) (.lst (y.map .int)) = decide (x = y) := encR.eq x y
theorem okD_R (x : List Int) : okD (.lst (x.map .int)) = true := encR.o.ok (by decide) x
theorem atI_map {α : Type} (f : α → D) (xs : List α) (k : Int) : atI (xs.map f) k = (atI xs k).map f := by
  unfold atI
  rw [List.length_map]
  cases ixN xs.length k with
  | none => rfl
  | some j => simp
theorem atI_pos {α : Type} {xs : List α} {k : Int} (h0 : 0 ≤ k) (h1 : k < xs.length) : atI xs k = some (xs[k.toNat]'(by omega)) := by
  unfold atI ixN
  rw [if_pos h0, if_pos h1]
  simp
theorem atI_last {α : Type} {xs : List α} (h : xs ≠ []) : atI xs (-1) = some (xs.getLast h) := by
  have hl : 0 < xs.length := List.length_pos_iff.mpr h
  unfold atI ixN
  rw [if_neg (by decide), if_pos (by omega)]
  have e : ((-1 : Int) + (xs.length : Nat)).toNat = xs.length - 1 := by omega
  rw [e, Option.bind_some, List.getLast_eq_getElem]
  simp [hl]
theorem ixN_pos {n : Nat} {k : Int} (h0 : 0 ≤ k) (h1 : k < n) : ixN n k = some k.toNat := by
  unfold ixN; rw [if_pos h0, if_pos h1]
theorem seqIx_pos {n : Nat} {k : Int} (h0 : 0 ≤ k) (h1 : k < n) : seqIndex? k n = some k.toNat := (ixN_seq (ixN_pos h0 h1)).1
theorem dGo_ind {still : Sto → Prop} {g : TDG} {tb : TDS} {E : DEnds} (I : List D → Env' → Sto → Prop) (hd : ∀ ρ S, I [] ρ S → still S ∧ E.nx ρ S)
    (hs : ∀ x r ρ S (N : Env' → Sto → Prop), I (x :: r) ρ S → (∀ ρ S, I r ρ S → N ρ S) → still S ∧ g x ρ S fun ρ' S' => tb { nx := N, ct := N, bk := E.nx, rt := E.rt } ρ' S') :
    ∀ (xs : List D) (ρ : Env') (S : Sto), I xs ρ S → dGo still g tb E xs ρ S
  | [], ρ, S, h => hd ρ S h
  | x :: r, ρ, S, h => hs x r ρ S _ h fun ρ S h => dGo_ind I hd hs r ρ S h
theorem dGo_map {α : Type} {f : α → D} {still : Sto → Prop} {g : TDG} {tb : TDS} {E : DEnds} (I : List α → Env' → Sto → Prop) (hd : ∀ ρ S, I [] ρ S → still S ∧ E.nx ρ S)
    (hs : ∀ x r ρ S (N : Env' → Sto → Prop), I (x :: r) ρ S → (∀ ρ S, I r ρ S → N ρ S) → still S ∧ g (f x) ρ S fun ρ' S' => tb { nx := N, ct := N, bk := E.nx, rt := E.rt } ρ' S') :
    ∀ (xs : List α) (ρ : Env') (S : Sto), I xs ρ S → dGo still g tb E (xs.map f) ρ S
  | [], ρ, S, h => hd ρ S h
  | x :: r, ρ, S, h => hs x r ρ S _ h fun ρ S h => dGo_map I hd hs r ρ S h
theorem dGo_rng {lo : Int} {n : Nat} {g : TDG} {tb : TDS} {E : DEnds} (I : Nat → Env' → Sto → Prop) (hd : ∀ ρ S, I n ρ S → E.nx ρ S)
    (hs : ∀ k ρ S (N : Env' → Sto → Prop), k < n → I k ρ S → (∀ ρ S, I (k + 1) ρ S → N ρ S) → g (.int (lo + (k : Nat))) ρ S fun ρ' S' => tb { nx := N, ct := N, bk := E.nx, rt := E.rt } ρ' S')
    (ρ : Env') (S : Sto) (h : I 0 ρ S) : dGo (fun _ => True) g tb E (intsD lo n) ρ S := by
  have main : ∀ (j k : Nat) (ρ : Env') (S : Sto), k + j = n → I k ρ S → dGo (fun _ => True) g tb E ((List.range' k j).map fun i => .int (lo + (i : Nat))) ρ S := by
    intro j
    induction j with
    | zero => intro k ρ S e h; have : k = n := by omega
              subst this; exact ⟨trivial, hd ρ S h⟩
    | succ j ih =>
      intro k ρ S e h
      rw [List.range'_succ, List.map_cons]
      exact ⟨trivial, hs k ρ S _ (by omega) h fun ρ S h => ih (k + 1) ρ S (by omega) h⟩
  have := main n 0 ρ S (by omega) h
  unfold intsD
  rw [List.range_eq_range']
  exact this
theorem dWh_ind {c : TDT} {tb : TDS} {E : DEnds} (I : Env' → Sto → Prop) (μ : Env' → Sto → Nat)
    (hs : ∀ ρ S (N : Env' → Sto → Prop), I ρ S → (∀ ρ' S', I ρ' S' → μ ρ' S' < μ ρ S → N ρ' S') → c ρ S fun b S1 => if b = true then tb { nx := N, ct := N, bk := E.nx, rt := E.rt } ρ S1 else E.nx ρ S1) (ρ : Env') (S : Sto) (h : I ρ S) : ∃ n, dWh c tb E n ρ S := by
  have main : ∀ (n : Nat) (ρ : Env') (S : Sto), μ ρ S < n → I ρ S → dWh c tb E n ρ S := by
    intro n
    induction n with
    | zero => intro ρ S h; omega
    | succ n ih => intro ρ S hl h; exact hs ρ S _ h fun ρ' S' h' l => ih ρ' S' (by omega) h'
  exact ⟨_, main (μ ρ S + 1) ρ S (Nat.lt_succ_self _) h⟩
theorem lc_pure {m : Bool} {g : TDG} {tt : TDT} {te : TDE} {ρ0 : Env'} {still : Sto → Prop} {S1 : Sto} {P : D → Sto → Prop} (p : D → Bool) (f : D → D) {xs : List D} (hl : xs.length ≤ sizeLine) (hst : ∀ S', SLe S1 S' → still S')
    (hs : ∀ x ∈ xs, ∀ (S' : Sto) (N : Sto → Prop) (Y : D → Sto → Prop), SLe S1 S' → (p x = false → N S') → (p x = true → Y (f x) S') → g x ρ0 S' fun ρ2 S2 => tt ρ2 S2 fun b S3 => if b = true then te ρ2 S3 Y else N S3)
    (h : newL m ((xs.filter p).map f) S1 P) : ∀ q, S1 q = none → lcGo still g tt te ρ0 q (lcFin m q P) xs (su S1 q (.ml [])) := by
  intro q hq
  have main : ∀ (r : List D) (acc : List D), (∀ x ∈ r, x ∈ xs) → acc.length + r.length ≤ sizeLine → newL m (acc ++ (r.filter p).map f) S1 P → lcGo still g tt te ρ0 q (lcFin m q P) r (su S1 q (.ml acc)) := by
    intro r
    induction r with
    | nil =>
      intro acc _ _ h
      refine ⟨hst _ (SLe.su hq), ?_⟩
      unfold lcFin
      rw [su_same]
      simp only [List.filter_nil, List.map_nil, List.append_nil] at h
      cases m with
      | true => exact h q hq
      | false =>
        show P _ (sd (su S1 q (.ml acc)) q)
        rw [sd_su hq]
        exact h
    | cons x r ih =>
      intro acc hm hl h
      refine ⟨hst _ (SLe.su hq), hs x (hm x List.mem_cons_self) _ _ _ (SLe.su hq) (fun hp => ?_) fun hp => ?_⟩
      · refine ih acc (fun y hy => hm y (List.mem_cons_of_mem _ hy)) (by simp only [List.length_cons] at hl; omega) ?_
        rw [List.filter_cons_of_neg (by simp [hp])] at h
        exact h
      · unfold lcAdd
        rw [su_same]
        refine ⟨by simp only [List.length_cons] at hl; omega, ?_⟩
        show lcGo still g tt te ρ0 q (lcFin m q P) r (su (su S1 q (.ml acc)) q (.ml (acc ++ [f x])))
        rw [su_su]
        refine ih _ (fun y hy => hm y (List.mem_cons_of_mem _ hy)) (by simp only [List.length_append, List.length_cons, List.length_nil] at hl ⊢; omega) ?_
        rw [List.filter_cons_of_pos hp, List.map_cons] at h
        rw [List.append_assoc]
        exact h
  exact main xs [] (fun _ h => h) (by simpa using hl) (by simpa using h)
theorem lc_map {α : Type} {m : Bool} {g : TDG} {tt : TDT} {te : TDE} {ρ0 : Env'} {still : Sto → Prop} {S1 : Sto} {P : D → Sto → Prop} (w : α → D) (p : α → Bool) (f : α → D) {xs : List α} (hl : xs.length ≤ sizeLine) (hst : ∀ S', SLe S1 S' → still S')
    (hs : ∀ x ∈ xs, ∀ (S' : Sto) (N : Sto → Prop) (Y : D → Sto → Prop), SLe S1 S' → (p x = false → N S') → (p x = true → Y (f x) S') → g (w x) ρ0 S' fun ρ2 S2 => tt ρ2 S2 fun b S3 => if b = true then te ρ2 S3 Y else N S3)
    (h : newL m ((xs.filter p).map f) S1 P) : ∀ q, S1 q = none → lcGo still g tt te ρ0 q (lcFin m q P) (xs.map w) (su S1 q (.ml [])) := by
  intro q hq
  have main : ∀ (r : List α) (acc : List D), (∀ x ∈ r, x ∈ xs) → acc.length + r.length ≤ sizeLine → newL m (acc ++ (r.filter p).map f) S1 P → lcGo still g tt te ρ0 q (lcFin m q P) (r.map w) (su S1 q (.ml acc)) := by
    intro r
    induction r with
    | nil =>
      intro acc _ _ h
      refine ⟨hst _ (SLe.su hq), ?_⟩
      unfold lcFin
      rw [su_same]
      simp only [List.filter_nil, List.map_nil, List.append_nil] at h
      cases m with
      | true => exact h q hq
      | false =>
        show P _ (sd (su S1 q (.ml acc)) q)
        rw [sd_su hq]
        exact h
    | cons x r ih =>
      intro acc hm hl h
      refine ⟨hst _ (SLe.su hq), hs x (hm x List.mem_cons_self) _ _ _ (SLe.su hq) (fun hp => ?_) fun hp => ?_⟩
      · refine ih acc (fun y hy => hm y (List.mem_cons_of_mem _ hy)) (by simp only [List.length_cons] at hl; omega) ?_
        rw [List.filter_cons_of_neg (by simp [hp])] at h
        exact h
      · unfold lcAdd
        rw [su_same]
        refine ⟨by simp only [List.length_cons] at hl; omega, ?_⟩
        show lcGo still g tt te ρ0 q (lcFin m q P) (r.map w) (su (su S1 q (.ml acc)) q (.ml (acc ++ [f x])))
        rw [su_su]
        refine ih _ (fun y hy => hm y (List.mem_cons_of_mem _ hy)) (by simp only [List.length_append, List.length_cons, List.length_nil] at hl ⊢; omega) ?_
        rw [List.filter_cons_of_pos hp, List.map_cons] at h
        rw [List.append_assoc]
        exact h
  exact main xs [] (fun _ h => h) (by simpa using hl) (by simpa using h)
theorem lc_all {α : Type} {m : Bool} {g : TDG} {te : TDE} {ρ0 : Env'} {still : Sto → Prop} {S1 : Sto} {P : D → Sto → Prop} (w : α → D) (f : α → D) {xs : List α} (hl : xs.length ≤ sizeLine) (hst : ∀ S', SLe S1 S' → still S')
    (hs : ∀ x ∈ xs, ∀ (S' : Sto) (Y : D → Sto → Prop), SLe S1 S' → Y (f x) S' → g (w x) ρ0 S' fun ρ2 S2 => te ρ2 S2 Y)
    (h : newL m (xs.map f) S1 P) : ∀ q, S1 q = none → lcGo still g dYes te ρ0 q (lcFin m q P) (xs.map w) (su S1 q (.ml [])) :=
  lc_map (m := m) (P := P) w (fun _ => true) f hl hst (fun x hx S' N Y hS _ y => by simp only [dYes, ↓reduceIte]; exact hs x hx S' Y hS (y rfl)) (by rw [List.filter_eq_self.mpr (fun _ _ => rfl)]; exact h)
theorem su_two {S : Sto} {p q : Addr} {a b c : Cl} (h : p ≠ q) : su (su (su S p a) q b) p c = su (su S p c) q b := by rw [su_comm (S := su S p a) (Ne.symm h), su_su]
theorem inst_NoneType_bool : instB "NoneType" "bool" = false := rfl
theorem inst_NoneType_int : instB "NoneType" "int" = false := rfl
theorem inst_NoneType_str : instB "NoneType" "str" = false := rfl
theorem inst_NoneType_list : instB "NoneType" "list" = false := rfl
theorem inst_NoneType_tuple : instB "NoneType" "tuple" = false := rfl
theorem inst_bool_bool : instB "bool" "bool" = true := rfl
theorem inst_bool_int : instB "bool" "int" = true := rfl
theorem inst_bool_str : instB "bool" "str" = false := rfl
theorem inst_bool_list : instB "bool" "list" = false := rfl
theorem inst_bool_tuple : instB "bool" "tuple" = false := rfl
theorem inst_int_bool : instB "int" "bool" = false := rfl
theorem inst_int_int : instB "int" "int" = true := rfl
theorem inst_int_str : instB "int" "str" = false := rfl
theorem inst_int_list : instB "int" "list" = false := rfl
theorem inst_int_tuple : instB "int" "tuple" = false := rfl
theorem inst_str_bool : instB "str" "bool" = false := rfl
theorem inst_str_int : instB "str" "int" = false := rfl
theorem inst_str_str : instB "str" "str" = true := rfl
theorem inst_str_list : instB "str" "list" = false := rfl
theorem inst_str_tuple : instB "str" "tuple" = false := rfl
theorem inst_list_bool : instB "list" "bool" = false := rfl
theorem inst_list_int : instB "list" "int" = false := rfl
theorem inst_list_str : instB "list" "str" = false := rfl
theorem inst_list_list : instB "list" "list" = true := rfl
theorem inst_list_tuple : instB "list" "tuple" = false := rfl
theorem inst_tuple_bool : instB "tuple" "bool" = false := rfl
theorem inst_tuple_int : instB "tuple" "int" = false := rfl
theorem inst_tuple_str : instB "tuple" "str" = false := rfl
theorem inst_tuple_list : instB "tuple" "list" = false := rfl
theorem inst_tuple_tuple : instB "tuple" "tuple" = true := rfl
theorem at_0 {x : D} {l : List D} : atI (x :: l) 0 = some x := by rw [atI_pos (by decide) (by simp)]; rfl
theorem at_1 {x y : D} {l : List D} : atI (x :: y :: l) 1 = some y := by rw [atI_pos (by decide) (by simp; omega)]; rfl
theorem at_2 {x y z : D} {l : List D} : atI (x :: y :: z :: l) 2 = some z := by rw [atI_pos (by decide) (by simp; omega)]; rfl
theorem cast0 : ((0 : Nat) : Int) = 0 := rfl
theorem cast1 : ((1 : Nat) : Int) = 1 := rfl
theorem cast2 : ((2 : Nat) : Int) = 2 := rfl
theorem cast3 : ((3 : Nat) : Int) = 3 := rfl
theorem rt_of {Q : D → Sto → Prop} {d : D} {S : Sto} (q : Q d S) : (endsOf Q).rt d S := ⟨S, SLe.refl S, q⟩
theorem rt_le {Q : D → Sto → Prop} {d : D} {S S' : Sto} (h : SLe S S') (q : Q d S) : (endsOf Q).rt d S' := ⟨S, h, q⟩
theorem nx_of {Q : D → Sto → Prop} {ρ : Env'} {S : Sto} (q : Q .non S) : (endsOf Q).nx ρ S := ⟨S, SLe.refl S, q⟩
theorem nx_le {Q : D → Sto → Prop} {ρ : Env'} {S S' : Sto} (h : SLe S S') (q : Q .non S) : (endsOf Q).nx ρ S' := ⟨S, h, q⟩
theorem wish_of {E : Addr → Sto → Prop} {C : Addr} {ρ : Env'} {S : Sto} (q : E C S) : wishOf E C ρ S := ⟨S, SLe.refl S, q⟩
theorem wish_le {E : Addr → Sto → Prop} {C : Addr} {ρ : Env'} {S S' : Sto} (h : SLe S S') (q : E C S) : wishOf E C ρ S' := ⟨S, h, q⟩
end DL
namespace DL
open PySem L2
structure ExK (K : PySem.W.Frag) (a : CA) : Prop where
  t0 : True
  e_GuildError : ExcC K a.GuildError
  m_GuildError_GuildError : PySem.W.exmOne K (.ref a.GuildError) (.ref a.GuildError) = some true
  i_GuildError_GuildError : PySem.W.kitOne K (.ref a.GuildError) (.ref a.GuildError) = some true
  m_GuildError_NoHouse : PySem.W.exmOne K (.ref a.GuildError) (.ref a.NoHouse) = some false
  i_GuildError_NoHouse : PySem.W.kitOne K (.ref a.GuildError) (.ref a.NoHouse) = some false
  v_GuildError : PySem.W.kitOne K (.ref a.GuildError) (.type "ValueError") = some true
  e_NoHouse : ExcC K a.NoHouse
  m_NoHouse_GuildError : PySem.W.exmOne K (.ref a.NoHouse) (.ref a.GuildError) = some true
  i_NoHouse_GuildError : PySem.W.kitOne K (.ref a.NoHouse) (.ref a.GuildError) = some true
  m_NoHouse_NoHouse : PySem.W.exmOne K (.ref a.NoHouse) (.ref a.NoHouse) = some true
  i_NoHouse_NoHouse : PySem.W.kitOne K (.ref a.NoHouse) (.ref a.NoHouse) = some true
  v_NoHouse : PySem.W.kitOne K (.ref a.NoHouse) (.type "ValueError") = some true
end DL
namespace DL
open PySem L2
theorem vm_cases {S : Sto} {x : D} {xs : List D} (h : vm S x = some xs) : x = .lst xs ∨ ∃ p, x = .ref p ∧ S p = some (.ml xs) := by
  cases x with
  | lst ys => simp only [vm, Option.some.injEq] at h; exact .inl (by rw [h])
  | ref p =>
    simp only [vm] at h
    split at h
    · rename_i e; cases h; exact .inr ⟨p, rfl, e⟩
    · cases h
  | _ => simp [vm] at h
theorem vm_vl {S : Sto} {x : D} {xs : List D} (h : vm S x = some xs) : vl S x = some xs := by
  rcases vm_cases h with rfl | ⟨p, rfl, e⟩
  · rfl
  · exact h
theorem vm_rs {S : Sto} {x : D} {xs : List D} (h : vm S x = some xs) : rs S x = .lst xs := by unfold rs; rw [h]
theorem vm_ty {S : Sto} {x : D} {xs : List D} (h : vm S x = some xs) : tyS S x = some "list" := by
  rcases vm_cases h with rfl | ⟨p, rfl, e⟩
  · rfl
  · simp only [tyS, e]
theorem vm_len {S : Sto} {x : D} {xs : List D} (h : vm S x = some xs) : lenS S x = some xs.length := by
  rcases vm_cases h with rfl | ⟨p, rfl, e⟩
  · rfl
  · simp only [lenS, e]
def RdAt (S : Sto) (x : D) : Option (List Int) → Prop
  | none => x = .non
  | some l => vm S x = some (l.map .int)
theorem RdAt.rs {S : Sto} {x : D} {r : Option (List Int)} (h : RdAt S x r) : rs S x = eO eR r := by
  cases r with
  | none => rw [show x = .non from h]; rfl
  | some l => exact vm_rs h
theorem RdAt.ok {S : Sto} {x : D} {r : Option (List Int)} (h : RdAt S x r) : okD (DL.rs S x) = true := by rw [h.rs]; exact encOR.ok (by decide) r
theorem rdAt_eO (S : Sto) (r : Option (List Int)) : RdAt S (eO eR r) r := by
  cases r with
  | none => rfl
  | some l => rfl
theorem rdAt_lst (S : Sto) (r : List Int) : RdAt S (.lst (r.map .int)) (some r) := rfl
theorem rdAt_ref {S : Sto} {p : Addr} {r : List Int} (h : S p = some (.ml (r.map .int))) : RdAt S (.ref p) (some r) := by simp only [RdAt, vm, h]
theorem rdAt_cases {S : Sto} {x : D} {r : Option (List Int)} (h : RdAt S x r) : (x = .non ∧ r = none) ∨ (∃ l : List Int, x = .lst (l.map .int) ∧ r = some l) ∨ ∃ (p : Addr) (l : List Int), x = .ref p ∧ S p = some (.ml (l.map .int)) ∧ r = some l := by
  cases r with
  | none => exact .inl ⟨h, rfl⟩
  | some l =>
    rcases vm_cases h with rfl | ⟨p, rfl, e⟩
    · exact .inr (.inl ⟨l, rfl, rfl⟩)
    · exact .inr (.inr ⟨p, l, rfl, e, rfl⟩)
theorem ne_beq {n m : Nat} : (true ^^ dEq (.int n) (.int m)) = !decide (n = m) := by
  rw [dEq_int, Bool.true_xor]; congr 1; simp only [decide_eq_decide]; omega
theorem dEq_eO (x y : Option (List Int)) : dEq (eO eR x) (eO eR y) = decide (x = y) := encOR.eq x y
theorem okD_eO (x : Option (List Int)) : okD (eO eR x) = true := encOR.ok (by decide) x
theorem map_eraseIdx {α β : Type} (f : α → β) : ∀ (l : List α) (i : Nat), (l.map f).eraseIdx i = (l.eraseIdx i).map f
  | [], _ => rfl
  | _ :: _, 0 => rfl
  | x :: l, i + 1 => by simp only [List.map_cons, List.eraseIdx_cons_succ, map_eraseIdx f l i]
theorem append_at {S : Sto} {p : Addr} {xs : List D} {y : D} {P : D → Sto → Prop} (h : S p = some (.ml xs)) (hl : xs.length < sizeLine) (k : P .non (su S p (.ml (xs ++ [y])))) : appendD (.ref p) [y] S P := by
  simp only [appendD, onCell, cellL, h]; exact ⟨hl, k⟩
theorem popAt_at {α : Type} {f : α → D} {S : Sto} {p : Addr} {l : List α} {i : Int} {P : D → Sto → Prop} (h : S p = some (.ml (l.map f))) (h0 : 0 ≤ i) (h1 : i < l.length) (hb : l.length < sizeLine) (k : P (f (l[i.toNat]'(by omega))) (su S p (.ml ((l.eraseIdx i.toNat).map f)))) : popAtD (.ref p) [.int i] S P := by
  simp only [popAtD, onCell, cellL, h]
  have hs : sizeLine = 2 ^ 24 := rfl
  refine ⟨by omega, by omega, ?_⟩
  rw [List.length_map, seqIx_pos h0 h1]
  simp only [List.getElem?_map]
  rw [List.getElem?_eq_getElem (by omega)]
  simp only [Option.map_some]
  rw [map_eraseIdx]
  exact k
theorem nodup_le : ∀ (n : Nat) (l : List Int), l.Nodup → (∀ g ∈ l, 0 ≤ g ∧ g < n) → l.length ≤ n
  | 0, l, _, h => by
    cases l with
    | nil => exact Nat.le_refl _
    | cons x l => have := h x List.mem_cons_self; omega
  | n + 1, l, hd, h => by
    by_cases c : (n : Int) ∈ l
    · have h1 := nodup_le n (l.erase (n : Int)) (hd.erase _) fun g hg => by
        have h2 := (hd.mem_erase_iff).mp hg
        have h3 := h g h2.2
        have h4 := h2.1
        omega
      have h2 := List.length_erase_of_mem c
      have h3 : 0 < l.length := List.length_pos_of_mem c
      omega
    · have h1 := nodup_le n l hd fun g hg => by
        have h3 := h g hg
        have h4 : g ≠ n := fun z => c (z ▸ hg)
        omega
      omega
theorem any_int (l : List Int) (i : Int) : ((l.map D.int).any fun z => dEq z (.int i)) = decide (i ∈ l) := Enc.int.o.any i l
theorem nodup_one {α : Type} (x : α) : [x].Nodup := List.nodup_cons.mpr ⟨List.not_mem_nil, List.nodup_nil⟩
theorem dEq_str (x y : Str) : dEq (.str x) (.str y) = decide (x = y) := by simp only [dEq, toP, PyData.eqv]; exact Bool.beq_eq_decide_eq x y
theorem okD_str {x : Str} (h : PyData.strOk x = true) : okD (.str x) = true := by simp [okD, pureD, SeqAt.shaped, toP, PyData.canLay0, PyData.depth, h]
theorem getLast_snoc {α : Type} (l : List α) (x : α) : atI (l ++ [x]) (-1) = some x := by
  rw [atI_last (by simp)]; simp
theorem atI_tab {α : Type} (f : α → D) (xs : List α) {k : Int} (h0 : 0 ≤ k) (h1 : k < xs.length) : atI (xs.map f) k = some (f (xs[k.toNat]'(by omega))) := by
  rw [atI_map, atI_pos h0 h1]; rfl
theorem nodup_inj {α : Type} {l : List α} (hd : l.Nodup) {i j : Nat} (hi : i < l.length) (hj : j < l.length) (e : l[i] = l[j]) : i = j := by
  have h := List.pairwise_iff_getElem.mp hd
  rcases Nat.lt_trichotomy i j with h1 | h1 | h1
  · exact absurd e (h i j hi hj h1)
  · exact h1
  · exact absurd e.symm (h j i hj hi h1)
theorem dEq_tab (x y : List (Option (List Int))) : dEq (.lst (x.map (eO eR))) (.lst (y.map (eO eR))) = decide (x = y) := encTab.eq x y
theorem okD_tab (x : List (Option (List Int))) : okD (.lst (x.map (eO eR))) = true := encTab.o.ok (by decide) x

end DL
namespace DL
open PySem L2
def t_walk (K : PySem.W.Frag) (a : CA) (W : WD) : TDS :=
  (dSeq (dIfS (dOrT (dB (dOp ltI (dVar 1) (dC (.int 0)))) (dB (dOp geI (dVar 1) (dCB lenD (dCons (dVar 0) dNil)))))
    (dRaise a.NoHouse W)
    dNext)
  (dSeq (dAsg (dLst true (dCons (dVar 1) dNil)) (dgN 2))
  (dSeq (dWhile (dB (dOp (eqR true) (dVar 1) (dC (.int 0))))
    (dSeq (dAsg (dOp ixD (dVar 0) (dVar 1)) (dgN 3))
    (dSeq (dIfS (dB (dIsN (dVar 3)))
      (dRet (dTup (dCons (dC (.str "stops")) (dCons (dFrz (dVar 2)) dNil))))
      dNext)
    (dSeq (dAsg (dOp ixD (dVar 3) (dC (.int 1))) (dgN 1))
    (dSeq (dIfS (dB (dOp (inR false) (dVar 1) (dVar 2)))
      (dRet (dTup (dCons (dC (.str "rings")) (dCons (dFrz (dVar 2)) dNil))))
      dNext)
    (dDrop (dLM appendD (dVar 2) (dCons (dVar 1) dNil))))))))
  (dRet (dTup (dCons (dC (.str "comes")) (dCons (dFrz (dVar 2)) dNil)))))))
abbrev N_walk : List Str := ["table", "house", "gone", "road"]
def walkGo (tab : List (Option (List Int))) : Nat → List Int → Int → Str × List Int
  | 0, gone, _ => ("comes", gone)
  | n + 1, gone, h => if h = 0 then ("comes", gone) else match tab.getD h.toNat none with
    | none => ("stops", gone)
    | some r => if r.getD 1 0 ∈ gone then ("rings", gone) else walkGo tab n (gone ++ [r.getD 1 0]) (r.getD 1 0)
def Nexts (tab : List (Option (List Int))) : Prop := ∀ (i : Nat) (r : List Int), 0 < i → tab[i]? = some (some r) → 2 ≤ r.length ∧ 0 ≤ r.getD 1 0 ∧ r.getD 1 0 < tab.length
def walkOf (tab : List (Option (List Int))) (h : Int) : Str × List Int := walkGo tab (tab.length + 1) [h] h
def sp_walk (a : CA) : DSp := fun ds S P E => ∃ x tab h, ds = [x, .int h] ∧ vm S x = some (tab.map (eO eR)) ∧ Nexts tab ∧ tab.length ≤ 1000 ∧ (if 0 ≤ h ∧ h < tab.length then P (.tup [.str (walkOf tab h).1, eR (walkOf tab h).2]) S else E a.NoHouse S)
theorem len_walk (a : CA) (ds : List D) (S : Sto) (Q : D → Sto → Prop) (E : Addr → Sto → Prop) (h : sp_walk a ds S Q E) : ds.length = ["table", "house"].length := by
  obtain ⟨_, _, _, rfl, _⟩ := h; rfl
theorem read_walk (K : PySem.W.Frag) (a : CA) (ds : List D) (S : Sto) (Q : D → Sto → Prop) (E : Addr → Sto → Prop) (h : sp_walk a ds S Q E) : t_walk K a (wishOf E) (endsOf Q) (dstart N_walk ds) S := by
  obtain ⟨x, tab, h, rfl, hx, ht, hl, q⟩ := h
  have hx2 := vm_len hx
  have hx3 := vm_vl hx
  rcases vm_cases hx with rfl | ⟨p0, rfl, ex⟩
  all_goals simp only [t_walk, N_walk, dSeq, dIfS, dB, dOp, dVar, dCB, dCons, dNil, dRet, dRetN, dNext, dC, dAsg, dgN, dgT, dgSeq, dDrop, dCont, dAndT, dOrT, dNotT, dAndV, dOrV, dNotV, dIf, dIsN, dNotN, dNeg, dLst, dTup, dNewI, dCall, dMeth, dMake, dRaise, dFrz, dIsi, isiK, tyS, inst_NoneType_bool, inst_NoneType_int, inst_NoneType_str, inst_NoneType_list, inst_NoneType_tuple, inst_bool_bool, inst_bool_int, inst_bool_str, inst_bool_list, inst_bool_tuple, inst_int_bool, inst_int_int, inst_int_str, inst_int_list, inst_int_tuple, inst_str_bool, inst_str_int, inst_str_str, inst_str_list, inst_str_tuple, inst_list_bool, inst_list_int, inst_list_str, inst_list_list, inst_list_tuple, inst_tuple_bool, inst_tuple_int, inst_tuple_str, inst_tuple_list, inst_tuple_tuple, iiD, iiD0, subD, mulD, fdivD, modD, shrD, powD, ltI, leI, gtI, geI, addI, addD, catD, scatD, lenD, lenS, ixD, ixL, ixLK, ixK, vl, vm, newL, i2D, absD, tupleD, dLM, dLM0, dFld, getF, dGet1, dGet2, getK, dSetIx, rng1, rng2, dFor1, dFor2, dFor, dForK, eqR, rs, dstart, List.map_cons, List.map_nil, List.length_cons, List.length_nil, List.cons_append, List.nil_append, List.replicate, List.getElem?_cons_zero, List.getElem?_cons_succ, List.set_cons_zero, List.set_cons_succ, Option.isSome_some, Option.isNone_some, Option.isNone_none, Nat.add_one_sub_one, Nat.reduceAdd, Nat.reduceSub, Nat.sub_self, Nat.sub_zero, Bool.not_true, Bool.not_false, ↓reduceIte, Bool.false_eq_true, okD_int, okD_bl, okD_non, dEq_int, dEq_bl, Bool.true_xor, Bool.false_xor, Bool.not_eq_true', decide_eq_true_eq, decide_eq_false_iff_not, true_and, Bool.and_true, Bool.and_false, Bool.true_and, Bool.false_and, at_0, at_1, at_2, cast0, cast1, cast2, cast3, not_true_eq_false, not_false_eq_true, eL, Option.map_some, Option.map_none, *]
  all_goals
    have hlen : (tab.map (eO eR)).length = tab.length := List.length_map ..
    rw [hlen] at *
    by_cases c1 : h < 0
    · rw [if_pos c1]; rw [if_neg (by omega)] at q; exact wish_of q
    rw [if_neg c1]
    by_cases c2 : (tab.length : Int) ≤ h
    · rw [if_pos c2]; rw [if_neg (by omega)] at q; exact wish_of q
    rw [if_neg c2]; rw [if_pos (by omega)] at q
    refine ⟨by decide, fun p hp => ?_⟩
    refine dWh_ind (fun ρ S' => ∃ k gone c o, ρ = [some _, some (.int c), some (.ref p), o] ∧ S' = su S p (.ml (gone.map .int)) ∧ walkGo tab k gone c = walkOf tab h ∧ k + gone.length = tab.length + 2 ∧ gone.Nodup ∧ (∀ g ∈ gone, 0 ≤ g ∧ g < (tab.length : Int)) ∧ 0 ≤ c ∧ c < tab.length)
      (fun _ S' => tab.length + 2 - ((cellL S' (.ref p)).map (·.2.length)).getD 0) ?_ _ _ ⟨tab.length + 1, [h], h, _, rfl, rfl, rfl, rfl, nodup_one h, by simp; omega, by omega, by omega⟩
    rintro ρ S' N ⟨k, gone, c, o, rfl, rfl, hw, hk, hd, hr, h0, h1⟩ hN
    have hg := nodup_le _ _ hd hr
    try have g0 : su S p (.ml (gone.map .int)) p0 = some (.ml (tab.map (eO eR))) := by rw [su_ne (fun z => by rw [z, hp] at ex; cases ex)]; exact ex
    obtain ⟨k, rfl⟩ : ∃ j, k = j + 1 := ⟨k - 1, by omega⟩
    rw [walkGo] at hw
    have hA : atI (tab.map (eO eR)) c = some (eO eR (tab.getD c.toNat none)) := by
      rw [atI_map, atI_pos h0 h1, List.getD_eq_getElem?_getD, List.getElem?_eq_getElem (by omega)]; rfl
    have fin : ∀ R : Str × List Int, R = walkOf tab h → ∃ S'', SLe S'' (sd (su S p (.ml (gone.map .int))) p) ∧ Q (.tup [.str R.1, .lst (R.2.map .int)]) S'' := fun R z => ⟨S, by rw [sd_su hp]; exact SLe.refl S, by rw [z]; exact q⟩
    by_cases c3 : c = 0
    · rw [if_pos c3] at hw
      first | simp only [dSeq, dIfS, dB, dOp, dVar, dCB, dCons, dNil, dRet, dRetN, dNext, dC, dAsg, dgN, dgT, dgSeq, dDrop, dCont, dAndT, dOrT, dNotT, dAndV, dOrV, dNotV, dIf, dIsN, dNotN, dNeg, dLst, dTup, dNewI, dCall, dMeth, dMake, dRaise, dFrz, dIsi, isiK, tyS, inst_NoneType_bool, inst_NoneType_int, inst_NoneType_str, inst_NoneType_list, inst_NoneType_tuple, inst_bool_bool, inst_bool_int, inst_bool_str, inst_bool_list, inst_bool_tuple, inst_int_bool, inst_int_int, inst_int_str, inst_int_list, inst_int_tuple, inst_str_bool, inst_str_int, inst_str_str, inst_str_list, inst_str_tuple, inst_list_bool, inst_list_int, inst_list_str, inst_list_list, inst_list_tuple, inst_tuple_bool, inst_tuple_int, inst_tuple_str, inst_tuple_list, inst_tuple_tuple, iiD, iiD0, subD, mulD, fdivD, modD, shrD, powD, ltI, leI, gtI, geI, addI, addD, catD, scatD, lenD, lenS, ixD, ixL, ixLK, ixK, vl, vm, newL, i2D, absD, tupleD, dLM, dLM0, dFld, getF, dGet1, dGet2, getK, dSetIx, rng1, rng2, dFor1, dFor2, dFor, dForK, eqR, rs, dstart, List.map_cons, List.map_nil, List.length_cons, List.length_nil, List.cons_append, List.nil_append, List.replicate, List.getElem?_cons_zero, List.getElem?_cons_succ, List.set_cons_zero, List.set_cons_succ, Option.isSome_some, Option.isNone_some, Option.isNone_none, Nat.add_one_sub_one, Nat.reduceAdd, Nat.reduceSub, Nat.sub_self, Nat.sub_zero, Bool.not_true, Bool.not_false, ↓reduceIte, Bool.false_eq_true, okD_int, okD_bl, okD_non, dEq_int, dEq_bl, Bool.true_xor, Bool.false_xor, Bool.not_eq_true', decide_eq_true_eq, decide_eq_false_iff_not, true_and, Bool.and_true, Bool.and_false, Bool.true_and, Bool.false_and, at_0, at_1, at_2, cast0, cast1, cast2, cast3, not_true_eq_false, not_false_eq_true, eL, Option.map_some, Option.map_none, su_same, any_int, g0, c3, not_true] | simp only [dSeq, dIfS, dB, dOp, dVar, dCB, dCons, dNil, dRet, dRetN, dNext, dC, dAsg, dgN, dgT, dgSeq, dDrop, dCont, dAndT, dOrT, dNotT, dAndV, dOrV, dNotV, dIf, dIsN, dNotN, dNeg, dLst, dTup, dNewI, dCall, dMeth, dMake, dRaise, dFrz, dIsi, isiK, tyS, inst_NoneType_bool, inst_NoneType_int, inst_NoneType_str, inst_NoneType_list, inst_NoneType_tuple, inst_bool_bool, inst_bool_int, inst_bool_str, inst_bool_list, inst_bool_tuple, inst_int_bool, inst_int_int, inst_int_str, inst_int_list, inst_int_tuple, inst_str_bool, inst_str_int, inst_str_str, inst_str_list, inst_str_tuple, inst_list_bool, inst_list_int, inst_list_str, inst_list_list, inst_list_tuple, inst_tuple_bool, inst_tuple_int, inst_tuple_str, inst_tuple_list, inst_tuple_tuple, iiD, iiD0, subD, mulD, fdivD, modD, shrD, powD, ltI, leI, gtI, geI, addI, addD, catD, scatD, lenD, lenS, ixD, ixL, ixLK, ixK, vl, vm, newL, i2D, absD, tupleD, dLM, dLM0, dFld, getF, dGet1, dGet2, getK, dSetIx, rng1, rng2, dFor1, dFor2, dFor, dForK, eqR, rs, dstart, List.map_cons, List.map_nil, List.length_cons, List.length_nil, List.cons_append, List.nil_append, List.replicate, List.getElem?_cons_zero, List.getElem?_cons_succ, List.set_cons_zero, List.set_cons_succ, Option.isSome_some, Option.isNone_some, Option.isNone_none, Nat.add_one_sub_one, Nat.reduceAdd, Nat.reduceSub, Nat.sub_self, Nat.sub_zero, Bool.not_true, Bool.not_false, ↓reduceIte, Bool.false_eq_true, okD_int, okD_bl, okD_non, dEq_int, dEq_bl, Bool.true_xor, Bool.false_xor, Bool.not_eq_true', decide_eq_true_eq, decide_eq_false_iff_not, true_and, Bool.and_true, Bool.and_false, Bool.true_and, Bool.false_and, at_0, at_1, at_2, cast0, cast1, cast2, cast3, not_true_eq_false, not_false_eq_true, eL, Option.map_some, Option.map_none, su_same, any_int, c3, not_true]
      exact ⟨by decide, fin _ hw⟩
    rw [if_neg c3] at hw
    cases et : tab.getD c.toNat none with
    | none =>
      rw [et] at hA hw
      simp only [eO] at hA
      first | simp only [dSeq, dIfS, dB, dOp, dVar, dCB, dCons, dNil, dRet, dRetN, dNext, dC, dAsg, dgN, dgT, dgSeq, dDrop, dCont, dAndT, dOrT, dNotT, dAndV, dOrV, dNotV, dIf, dIsN, dNotN, dNeg, dLst, dTup, dNewI, dCall, dMeth, dMake, dRaise, dFrz, dIsi, isiK, tyS, inst_NoneType_bool, inst_NoneType_int, inst_NoneType_str, inst_NoneType_list, inst_NoneType_tuple, inst_bool_bool, inst_bool_int, inst_bool_str, inst_bool_list, inst_bool_tuple, inst_int_bool, inst_int_int, inst_int_str, inst_int_list, inst_int_tuple, inst_str_bool, inst_str_int, inst_str_str, inst_str_list, inst_str_tuple, inst_list_bool, inst_list_int, inst_list_str, inst_list_list, inst_list_tuple, inst_tuple_bool, inst_tuple_int, inst_tuple_str, inst_tuple_list, inst_tuple_tuple, iiD, iiD0, subD, mulD, fdivD, modD, shrD, powD, ltI, leI, gtI, geI, addI, addD, catD, scatD, lenD, lenS, ixD, ixL, ixLK, ixK, vl, vm, newL, i2D, absD, tupleD, dLM, dLM0, dFld, getF, dGet1, dGet2, getK, dSetIx, rng1, rng2, dFor1, dFor2, dFor, dForK, eqR, rs, dstart, List.map_cons, List.map_nil, List.length_cons, List.length_nil, List.cons_append, List.nil_append, List.replicate, List.getElem?_cons_zero, List.getElem?_cons_succ, List.set_cons_zero, List.set_cons_succ, Option.isSome_some, Option.isNone_some, Option.isNone_none, Nat.add_one_sub_one, Nat.reduceAdd, Nat.reduceSub, Nat.sub_self, Nat.sub_zero, Bool.not_true, Bool.not_false, ↓reduceIte, Bool.false_eq_true, okD_int, okD_bl, okD_non, dEq_int, dEq_bl, Bool.true_xor, Bool.false_xor, Bool.not_eq_true', decide_eq_true_eq, decide_eq_false_iff_not, true_and, Bool.and_true, Bool.and_false, Bool.true_and, Bool.false_and, at_0, at_1, at_2, cast0, cast1, cast2, cast3, not_true_eq_false, not_false_eq_true, eL, Option.map_some, Option.map_none, su_same, any_int, g0, c3, hA, not_false_eq_true] | simp only [dSeq, dIfS, dB, dOp, dVar, dCB, dCons, dNil, dRet, dRetN, dNext, dC, dAsg, dgN, dgT, dgSeq, dDrop, dCont, dAndT, dOrT, dNotT, dAndV, dOrV, dNotV, dIf, dIsN, dNotN, dNeg, dLst, dTup, dNewI, dCall, dMeth, dMake, dRaise, dFrz, dIsi, isiK, tyS, inst_NoneType_bool, inst_NoneType_int, inst_NoneType_str, inst_NoneType_list, inst_NoneType_tuple, inst_bool_bool, inst_bool_int, inst_bool_str, inst_bool_list, inst_bool_tuple, inst_int_bool, inst_int_int, inst_int_str, inst_int_list, inst_int_tuple, inst_str_bool, inst_str_int, inst_str_str, inst_str_list, inst_str_tuple, inst_list_bool, inst_list_int, inst_list_str, inst_list_list, inst_list_tuple, inst_tuple_bool, inst_tuple_int, inst_tuple_str, inst_tuple_list, inst_tuple_tuple, iiD, iiD0, subD, mulD, fdivD, modD, shrD, powD, ltI, leI, gtI, geI, addI, addD, catD, scatD, lenD, lenS, ixD, ixL, ixLK, ixK, vl, vm, newL, i2D, absD, tupleD, dLM, dLM0, dFld, getF, dGet1, dGet2, getK, dSetIx, rng1, rng2, dFor1, dFor2, dFor, dForK, eqR, rs, dstart, List.map_cons, List.map_nil, List.length_cons, List.length_nil, List.cons_append, List.nil_append, List.replicate, List.getElem?_cons_zero, List.getElem?_cons_succ, List.set_cons_zero, List.set_cons_succ, Option.isSome_some, Option.isNone_some, Option.isNone_none, Nat.add_one_sub_one, Nat.reduceAdd, Nat.reduceSub, Nat.sub_self, Nat.sub_zero, Bool.not_true, Bool.not_false, ↓reduceIte, Bool.false_eq_true, okD_int, okD_bl, okD_non, dEq_int, dEq_bl, Bool.true_xor, Bool.false_xor, Bool.not_eq_true', decide_eq_true_eq, decide_eq_false_iff_not, true_and, Bool.and_true, Bool.and_false, Bool.true_and, Bool.false_and, at_0, at_1, at_2, cast0, cast1, cast2, cast3, not_true_eq_false, not_false_eq_true, eL, Option.map_some, Option.map_none, su_same, any_int, c3, hA, not_false_eq_true]
      exact ⟨by decide, fin _ hw⟩
    | some r =>
      rw [et] at hA hw
      simp only [eO, eL] at hA
      have e3 : tab[c.toNat]? = some (some r) := by
        rw [List.getD_eq_getElem?_getD] at et
        rw [List.getElem?_eq_getElem (by omega)] at et ⊢
        exact congrArg some et
      obtain ⟨b1, b2, b3⟩ := ht c.toNat r (by omega) e3
      have hB : atI (r.map D.int) 1 = some (.int (r.getD 1 0)) := by
        rw [atI_map, atI_pos (by decide) (by omega), List.getD_eq_getElem?_getD, List.getElem?_eq_getElem (by omega)]; rfl
      simp only at hw
      by_cases c4 : r.getD 1 0 ∈ gone
      · rw [if_pos c4] at hw
        first | simp only [dSeq, dIfS, dB, dOp, dVar, dCB, dCons, dNil, dRet, dRetN, dNext, dC, dAsg, dgN, dgT, dgSeq, dDrop, dCont, dAndT, dOrT, dNotT, dAndV, dOrV, dNotV, dIf, dIsN, dNotN, dNeg, dLst, dTup, dNewI, dCall, dMeth, dMake, dRaise, dFrz, dIsi, isiK, tyS, inst_NoneType_bool, inst_NoneType_int, inst_NoneType_str, inst_NoneType_list, inst_NoneType_tuple, inst_bool_bool, inst_bool_int, inst_bool_str, inst_bool_list, inst_bool_tuple, inst_int_bool, inst_int_int, inst_int_str, inst_int_list, inst_int_tuple, inst_str_bool, inst_str_int, inst_str_str, inst_str_list, inst_str_tuple, inst_list_bool, inst_list_int, inst_list_str, inst_list_list, inst_list_tuple, inst_tuple_bool, inst_tuple_int, inst_tuple_str, inst_tuple_list, inst_tuple_tuple, iiD, iiD0, subD, mulD, fdivD, modD, shrD, powD, ltI, leI, gtI, geI, addI, addD, catD, scatD, lenD, lenS, ixD, ixL, ixLK, ixK, vl, vm, newL, i2D, absD, tupleD, dLM, dLM0, dFld, getF, dGet1, dGet2, getK, dSetIx, rng1, rng2, dFor1, dFor2, dFor, dForK, eqR, rs, dstart, List.map_cons, List.map_nil, List.length_cons, List.length_nil, List.cons_append, List.nil_append, List.replicate, List.getElem?_cons_zero, List.getElem?_cons_succ, List.set_cons_zero, List.set_cons_succ, Option.isSome_some, Option.isNone_some, Option.isNone_none, Nat.add_one_sub_one, Nat.reduceAdd, Nat.reduceSub, Nat.sub_self, Nat.sub_zero, Bool.not_true, Bool.not_false, ↓reduceIte, Bool.false_eq_true, okD_int, okD_bl, okD_non, dEq_int, dEq_bl, Bool.true_xor, Bool.false_xor, Bool.not_eq_true', decide_eq_true_eq, decide_eq_false_iff_not, true_and, Bool.and_true, Bool.and_false, Bool.true_and, Bool.false_and, at_0, at_1, at_2, cast0, cast1, cast2, cast3, not_true_eq_false, not_false_eq_true, eL, Option.map_some, Option.map_none, inR, inL, su_same, any_int, g0, c3, hA, hB, c4, not_false_eq_true, decide_true] | simp only [dSeq, dIfS, dB, dOp, dVar, dCB, dCons, dNil, dRet, dRetN, dNext, dC, dAsg, dgN, dgT, dgSeq, dDrop, dCont, dAndT, dOrT, dNotT, dAndV, dOrV, dNotV, dIf, dIsN, dNotN, dNeg, dLst, dTup, dNewI, dCall, dMeth, dMake, dRaise, dFrz, dIsi, isiK, tyS, inst_NoneType_bool, inst_NoneType_int, inst_NoneType_str, inst_NoneType_list, inst_NoneType_tuple, inst_bool_bool, inst_bool_int, inst_bool_str, inst_bool_list, inst_bool_tuple, inst_int_bool, inst_int_int, inst_int_str, inst_int_list, inst_int_tuple, inst_str_bool, inst_str_int, inst_str_str, inst_str_list, inst_str_tuple, inst_list_bool, inst_list_int, inst_list_str, inst_list_list, inst_list_tuple, inst_tuple_bool, inst_tuple_int, inst_tuple_str, inst_tuple_list, inst_tuple_tuple, iiD, iiD0, subD, mulD, fdivD, modD, shrD, powD, ltI, leI, gtI, geI, addI, addD, catD, scatD, lenD, lenS, ixD, ixL, ixLK, ixK, vl, vm, newL, i2D, absD, tupleD, dLM, dLM0, dFld, getF, dGet1, dGet2, getK, dSetIx, rng1, rng2, dFor1, dFor2, dFor, dForK, eqR, rs, dstart, List.map_cons, List.map_nil, List.length_cons, List.length_nil, List.cons_append, List.nil_append, List.replicate, List.getElem?_cons_zero, List.getElem?_cons_succ, List.set_cons_zero, List.set_cons_succ, Option.isSome_some, Option.isNone_some, Option.isNone_none, Nat.add_one_sub_one, Nat.reduceAdd, Nat.reduceSub, Nat.sub_self, Nat.sub_zero, Bool.not_true, Bool.not_false, ↓reduceIte, Bool.false_eq_true, okD_int, okD_bl, okD_non, dEq_int, dEq_bl, Bool.true_xor, Bool.false_xor, Bool.not_eq_true', decide_eq_true_eq, decide_eq_false_iff_not, true_and, Bool.and_true, Bool.and_false, Bool.true_and, Bool.false_and, at_0, at_1, at_2, cast0, cast1, cast2, cast3, not_true_eq_false, not_false_eq_true, eL, Option.map_some, Option.map_none, inR, inL, su_same, any_int, c3, hA, hB, c4, not_false_eq_true, decide_true]
        exact ⟨okD_R _, by decide, fin _ hw⟩
      · rw [if_neg c4] at hw
        first | simp only [dSeq, dIfS, dB, dOp, dVar, dCB, dCons, dNil, dRet, dRetN, dNext, dC, dAsg, dgN, dgT, dgSeq, dDrop, dCont, dAndT, dOrT, dNotT, dAndV, dOrV, dNotV, dIf, dIsN, dNotN, dNeg, dLst, dTup, dNewI, dCall, dMeth, dMake, dRaise, dFrz, dIsi, isiK, tyS, inst_NoneType_bool, inst_NoneType_int, inst_NoneType_str, inst_NoneType_list, inst_NoneType_tuple, inst_bool_bool, inst_bool_int, inst_bool_str, inst_bool_list, inst_bool_tuple, inst_int_bool, inst_int_int, inst_int_str, inst_int_list, inst_int_tuple, inst_str_bool, inst_str_int, inst_str_str, inst_str_list, inst_str_tuple, inst_list_bool, inst_list_int, inst_list_str, inst_list_list, inst_list_tuple, inst_tuple_bool, inst_tuple_int, inst_tuple_str, inst_tuple_list, inst_tuple_tuple, iiD, iiD0, subD, mulD, fdivD, modD, shrD, powD, ltI, leI, gtI, geI, addI, addD, catD, scatD, lenD, lenS, ixD, ixL, ixLK, ixK, vl, vm, newL, i2D, absD, tupleD, dLM, dLM0, dFld, getF, dGet1, dGet2, getK, dSetIx, rng1, rng2, dFor1, dFor2, dFor, dForK, eqR, rs, dstart, List.map_cons, List.map_nil, List.length_cons, List.length_nil, List.cons_append, List.nil_append, List.replicate, List.getElem?_cons_zero, List.getElem?_cons_succ, List.set_cons_zero, List.set_cons_succ, Option.isSome_some, Option.isNone_some, Option.isNone_none, Nat.add_one_sub_one, Nat.reduceAdd, Nat.reduceSub, Nat.sub_self, Nat.sub_zero, Bool.not_true, Bool.not_false, ↓reduceIte, Bool.false_eq_true, okD_int, okD_bl, okD_non, dEq_int, dEq_bl, Bool.true_xor, Bool.false_xor, Bool.not_eq_true', decide_eq_true_eq, decide_eq_false_iff_not, true_and, Bool.and_true, Bool.and_false, Bool.true_and, Bool.false_and, at_0, at_1, at_2, cast0, cast1, cast2, cast3, not_true_eq_false, not_false_eq_true, eL, Option.map_some, Option.map_none, inR, inL, su_same, any_int, g0, c3, hA, hB, c4, not_false_eq_true, decide_false] | simp only [dSeq, dIfS, dB, dOp, dVar, dCB, dCons, dNil, dRet, dRetN, dNext, dC, dAsg, dgN, dgT, dgSeq, dDrop, dCont, dAndT, dOrT, dNotT, dAndV, dOrV, dNotV, dIf, dIsN, dNotN, dNeg, dLst, dTup, dNewI, dCall, dMeth, dMake, dRaise, dFrz, dIsi, isiK, tyS, inst_NoneType_bool, inst_NoneType_int, inst_NoneType_str, inst_NoneType_list, inst_NoneType_tuple, inst_bool_bool, inst_bool_int, inst_bool_str, inst_bool_list, inst_bool_tuple, inst_int_bool, inst_int_int, inst_int_str, inst_int_list, inst_int_tuple, inst_str_bool, inst_str_int, inst_str_str, inst_str_list, inst_str_tuple, inst_list_bool, inst_list_int, inst_list_str, inst_list_list, inst_list_tuple, inst_tuple_bool, inst_tuple_int, inst_tuple_str, inst_tuple_list, inst_tuple_tuple, iiD, iiD0, subD, mulD, fdivD, modD, shrD, powD, ltI, leI, gtI, geI, addI, addD, catD, scatD, lenD, lenS, ixD, ixL, ixLK, ixK, vl, vm, newL, i2D, absD, tupleD, dLM, dLM0, dFld, getF, dGet1, dGet2, getK, dSetIx, rng1, rng2, dFor1, dFor2, dFor, dForK, eqR, rs, dstart, List.map_cons, List.map_nil, List.length_cons, List.length_nil, List.cons_append, List.nil_append, List.replicate, List.getElem?_cons_zero, List.getElem?_cons_succ, List.set_cons_zero, List.set_cons_succ, Option.isSome_some, Option.isNone_some, Option.isNone_none, Nat.add_one_sub_one, Nat.reduceAdd, Nat.reduceSub, Nat.sub_self, Nat.sub_zero, Bool.not_true, Bool.not_false, ↓reduceIte, Bool.false_eq_true, okD_int, okD_bl, okD_non, dEq_int, dEq_bl, Bool.true_xor, Bool.false_xor, Bool.not_eq_true', decide_eq_true_eq, decide_eq_false_iff_not, true_and, Bool.and_true, Bool.and_false, Bool.true_and, Bool.false_and, at_0, at_1, at_2, cast0, cast1, cast2, cast3, not_true_eq_false, not_false_eq_true, eL, Option.map_some, Option.map_none, inR, inL, su_same, any_int, c3, hA, hB, c4, not_false_eq_true, decide_false]
        refine ⟨okD_R _, append_at su_same (by rw [List.length_map]; simp [sizeLine]; omega) ?_⟩
        rw [su_su, show gone.map D.int ++ [.int (r.getD 1 0)] = (gone ++ [r.getD 1 0]).map .int by rw [List.map_append]; rfl]
        refine hN _ _ ⟨k, gone ++ [r.getD 1 0], r.getD 1 0, _, rfl, rfl, hw, by rw [List.length_append, List.length_singleton]; omega, ?_, fun g hg => ?_, b2, b3⟩ ?_
        · rw [List.nodup_append]
          exact ⟨hd, nodup_one _, fun x hx y hy z => c4 (by rw [List.mem_singleton.mp hy] at z; rw [← z]; exact hx)⟩
        · rcases List.mem_append.mp hg with hg | hg
          · exact hr g hg
          · rw [List.mem_singleton.mp hg]; exact ⟨b2, b3⟩
        · simp only [cellL, su_same, Option.map_some, Option.getD_some, List.length_map, List.length_append, List.length_singleton]
          omega

end DL
namespace DL
open PySem L2
def t_law_cell_at (K : PySem.W.Frag) (a : CA) (W : WD) : TDS :=
  (dSeq (dIfS (dB (dOp ltI (dVar 1) (dCB lenD (dCons (dVar 0) dNil))))
    (dRet (dOp ixD (dVar 0) (dVar 1)))
    dNext)
  (dRet (dC (.int 0))))
abbrev N_law_cell_at : List Str := ["script", "k"]
def cellAt (ns : List Int) (k : Int) : Int := ns.getD k.toNat 0
def sp_law_cell_at (a : CA) : DSp := fun ds S P E => ∃ ns k, ds = [.scr ns, .int k] ∧ 0 ≤ k ∧ P (.int (cellAt ns k)) S
theorem len_law_cell_at (a : CA) (ds : List D) (S : Sto) (Q : D → Sto → Prop) (E : Addr → Sto → Prop) (h : sp_law_cell_at a ds S Q E) : ds.length = ["script", "k"].length := by
  obtain ⟨ns, k, rfl, _⟩ := h; rfl
theorem read_law_cell_at (K : PySem.W.Frag) (a : CA) (ds : List D) (S : Sto) (Q : D → Sto → Prop) (E : Addr → Sto → Prop) (h : sp_law_cell_at a ds S Q E) : t_law_cell_at K a (wishOf E) (endsOf Q) (dstart N_law_cell_at ds) S := by
  obtain ⟨ns, k, rfl, hk, q⟩ := h
  simp only [t_law_cell_at, N_law_cell_at, dSeq, dIfS, dB, dOp, dVar, dCB, dCons, dNil, dRet, dRetN, dNext, dC, dAsg, dgN, dgT, dgSeq, dDrop, dCont, dAndT, dOrT, dNotT, dAndV, dOrV, dNotV, dIf, dIsN, dNotN, dNeg, dLst, dTup, dNewI, dCall, dMeth, dMake, dRaise, dFrz, dIsi, isiK, tyS, inst_NoneType_bool, inst_NoneType_int, inst_NoneType_str, inst_NoneType_list, inst_NoneType_tuple, inst_bool_bool, inst_bool_int, inst_bool_str, inst_bool_list, inst_bool_tuple, inst_int_bool, inst_int_int, inst_int_str, inst_int_list, inst_int_tuple, inst_str_bool, inst_str_int, inst_str_str, inst_str_list, inst_str_tuple, inst_list_bool, inst_list_int, inst_list_str, inst_list_list, inst_list_tuple, inst_tuple_bool, inst_tuple_int, inst_tuple_str, inst_tuple_list, inst_tuple_tuple, iiD, iiD0, subD, mulD, fdivD, modD, shrD, powD, ltI, leI, gtI, geI, addI, addD, catD, scatD, lenD, lenS, ixD, ixL, ixLK, ixK, vl, vm, newL, i2D, absD, tupleD, dLM, dLM0, dFld, getF, dGet1, dGet2, getK, dSetIx, rng1, rng2, dFor1, dFor2, dFor, dForK, eqR, rs, dstart, List.map_cons, List.map_nil, List.length_cons, List.length_nil, List.cons_append, List.nil_append, List.replicate, List.getElem?_cons_zero, List.getElem?_cons_succ, List.set_cons_zero, List.set_cons_succ, Option.isSome_some, Option.isNone_some, Option.isNone_none, Nat.add_one_sub_one, Nat.reduceAdd, Nat.reduceSub, Nat.sub_self, Nat.sub_zero, Bool.not_true, Bool.not_false, ↓reduceIte, Bool.false_eq_true, okD_int, okD_bl, okD_non, dEq_int, dEq_bl, Bool.true_xor, Bool.false_xor, Bool.not_eq_true', decide_eq_true_eq, decide_eq_false_iff_not, true_and, Bool.and_true, Bool.and_false, Bool.true_and, Bool.false_and, at_0, at_1, at_2, cast0, cast1, cast2, cast3, not_true_eq_false, not_false_eq_true, eL, Option.map_some, Option.map_none, endsOf]
  by_cases c : k < ns.length
  · rw [if_pos (by simpa using c), atI_map, atI_pos hk c]
    refine ⟨S, SLe.refl S, ?_⟩
    unfold cellAt at q
    rw [List.getD_eq_getElem?_getD, List.getElem?_eq_getElem (by omega)] at q
    exact q
  · rw [if_neg (by simpa using c)]
    refine ⟨S, SLe.refl S, ?_⟩
    unfold cellAt at q
    rw [List.getD_eq_getElem?_getD, List.getElem?_eq_none (by omega)] at q
    exact q
theorem x_law_cell_at {a : CA} {ns : List Int} {k : Int} {S : Sto} {P : D → Sto → Prop} {E : Addr → Sto → Prop} (h : 0 ≤ k) : sp_law_cell_at a [.scr ns, .int k] S P E = P (.int (cellAt ns k)) S := by
  refine propext ⟨fun ⟨ns', k', e, _, q⟩ => ?_, fun q => ⟨ns, k, rfl, h, q⟩⟩
  injection e with e1 e2; injection e1 with e1; injection e2 with e2 e3; injection e2 with e2
  rw [e1, e2]; exact q

end DL
namespace DL
open PySem L2
def t_law_whole (K : PySem.W.Frag) (a : CA) (W : WD) : TDS :=
  (dRet (dAndV (dIsi "int" (dVar 0)) (dNotV (dIsi "bool" (dVar 0)))))
abbrev N_law_whole : List Str := ["found"]
def sp_law_whole (a : CA) : DSp := fun ds S P E => ∃ d T, ds = [d] ∧ tyS S d = some T ∧ P (.bl (instB T "int" && !instB T "bool")) S
theorem len_law_whole (a : CA) (ds : List D) (S : Sto) (Q : D → Sto → Prop) (E : Addr → Sto → Prop) (h : sp_law_whole a ds S Q E) : ds.length = ["found"].length := by
  obtain ⟨d, T, rfl, _⟩ := h; rfl
theorem read_law_whole (K : PySem.W.Frag) (a : CA) (ds : List D) (S : Sto) (Q : D → Sto → Prop) (E : Addr → Sto → Prop) (h : sp_law_whole a ds S Q E) : t_law_whole K a (wishOf E) (endsOf Q) (dstart N_law_whole ds) S := by
  obtain ⟨d, T, rfl, hT, q⟩ := h
  simp only [t_law_whole, N_law_whole, dSeq, dIfS, dB, dOp, dVar, dCB, dCons, dNil, dRet, dAndV, dNotV, dIsi, isiK, hT, dstart, endsOf, List.map_cons, List.map_nil, List.length_cons, List.length_nil, List.cons_append, List.nil_append, List.getElem?_cons_zero]
  by_cases c : instB T "int" = true
  · rw [if_pos c]
    rw [c, Bool.true_and] at q
    exact ⟨S, SLe.refl S, q⟩
  · rw [if_neg c]
    rw [Bool.eq_false_iff.mpr c, Bool.false_and] at q
    exact ⟨S, SLe.refl S, q⟩

end DL
namespace DL
open PySem L2
def t_law_same_road (K : PySem.W.Frag) (a : CA) (W : WD) : TDS :=
  (dSeq (dIfS (dB (dIsN (dVar 1)))
    (dRet (dIsN (dVar 0)))
    dNext)
  (dSeq (dIfS (dOrT (dNotT (dB (dIsi "list" (dVar 0)))) (dB (dOp (eqR true) (dCB lenD (dCons (dVar 0) dNil)) (dCB lenD (dCons (dVar 1) dNil)))))
    (dRet (dC (.bl false)))
    dNext)
  (dSeq (dFor (dVar 0) (dgN 2)
    (dIfS (dNotT (dB (dCall (sp_law_whole a) W (dCons (dVar 2) dNil))))
      (dRet (dC (.bl false)))
      dNext))
  (dRet (dOp (eqR false) (dVar 0) (dVar 1))))))
abbrev N_law_same_road : List Str := ["found", "due", "house"]
def sp_law_same_road (a : CA) : DSp := fun ds S P E => ∃ x y r r', ds = [x, y] ∧ RdAt S x r ∧ RdAt S y r' ∧ P (.bl (decide (r = r'))) S
theorem len_law_same_road (a : CA) (ds : List D) (S : Sto) (Q : D → Sto → Prop) (E : Addr → Sto → Prop) (h : sp_law_same_road a ds S Q E) : ds.length = ["found", "due"].length := by
  obtain ⟨x, y, r, r', rfl, _⟩ := h; rfl
theorem same_road_go {a : CA} {W : WD} {still : Sto → Prop} {E : DEnds} {S : Sto} (hs : still S) (x y : D) : ∀ (l : List Int) (o : Option D), (∀ o, E.nx [some x, some y, o] S) → 
    dGo still (dgN 2) (dIfS (dNotT (dB (dCall (sp_law_whole a) W (dCons (dVar 2) dNil)))) (dRet (dC (D.bl false))) dNext) E (l.map .int) [some x, some y, o] S
  | [], o, h => ⟨hs, h o⟩
  | i :: l, o, h => by
    refine ⟨hs, ?_⟩
    simp only [dSeq, dIfS, dB, dOp, dVar, dCB, dCons, dNil, dRet, dRetN, dNext, dC, dAsg, dgN, dgT, dgSeq, dDrop, dCont, dAndT, dOrT, dNotT, dAndV, dOrV, dNotV, dIf, dIsN, dNotN, dNeg, dLst, dTup, dNewI, dCall, dMeth, dMake, dRaise, dFrz, dIsi, isiK, tyS, inst_NoneType_bool, inst_NoneType_int, inst_NoneType_str, inst_NoneType_list, inst_NoneType_tuple, inst_bool_bool, inst_bool_int, inst_bool_str, inst_bool_list, inst_bool_tuple, inst_int_bool, inst_int_int, inst_int_str, inst_int_list, inst_int_tuple, inst_str_bool, inst_str_int, inst_str_str, inst_str_list, inst_str_tuple, inst_list_bool, inst_list_int, inst_list_str, inst_list_list, inst_list_tuple, inst_tuple_bool, inst_tuple_int, inst_tuple_str, inst_tuple_list, inst_tuple_tuple, iiD, iiD0, subD, mulD, fdivD, modD, shrD, powD, ltI, leI, gtI, geI, addI, addD, catD, scatD, lenD, lenS, ixD, ixL, ixLK, ixK, vl, vm, newL, i2D, absD, tupleD, dLM, dLM0, dFld, getF, dGet1, dGet2, getK, dSetIx, rng1, rng2, dFor1, dFor2, dFor, dForK, eqR, rs, dstart, List.map_cons, List.map_nil, List.length_cons, List.length_nil, List.cons_append, List.nil_append, List.replicate, List.getElem?_cons_zero, List.getElem?_cons_succ, List.set_cons_zero, List.set_cons_succ, Option.isSome_some, Option.isNone_some, Option.isNone_none, Nat.add_one_sub_one, Nat.reduceAdd, Nat.reduceSub, Nat.sub_self, Nat.sub_zero, Bool.not_true, Bool.not_false, ↓reduceIte, Bool.false_eq_true, okD_int, okD_bl, okD_non, dEq_int, dEq_bl, Bool.true_xor, Bool.false_xor, Bool.not_eq_true', decide_eq_true_eq, decide_eq_false_iff_not, true_and, Bool.and_true, Bool.and_false, Bool.true_and, Bool.false_and, at_0, at_1, at_2, cast0, cast1, cast2, cast3, not_true_eq_false, not_false_eq_true, eL, Option.map_some, Option.map_none]
    exact ⟨.int i, "int", rfl, rfl, same_road_go hs x y l (some (.int i)) h⟩
theorem read_law_same_road (K : PySem.W.Frag) (a : CA) (ds : List D) (S : Sto) (Q : D → Sto → Prop) (E : Addr → Sto → Prop) (h : sp_law_same_road a ds S Q E) : t_law_same_road K a (wishOf E) (endsOf Q) (dstart N_law_same_road ds) S := by
  obtain ⟨x, y, r, r', rfl, hx, hy, q⟩ := h
  rcases rdAt_cases hy with ⟨rfl, rfl⟩ | ⟨l', rfl, rfl⟩ | ⟨p', l', rfl, ey, rfl⟩ <;> rcases rdAt_cases hx with ⟨rfl, rfl⟩ | ⟨l, rfl, rfl⟩ | ⟨p, l, rfl, ex, rfl⟩
  all_goals simp only [t_law_same_road, N_law_same_road, dSeq, dIfS, dB, dOp, dVar, dCB, dCons, dNil, dRet, dRetN, dNext, dC, dAsg, dgN, dgT, dgSeq, dDrop, dCont, dAndT, dOrT, dNotT, dAndV, dOrV, dNotV, dIf, dIsN, dNotN, dNeg, dLst, dTup, dNewI, dCall, dMeth, dMake, dRaise, dFrz, dIsi, isiK, tyS, inst_NoneType_bool, inst_NoneType_int, inst_NoneType_str, inst_NoneType_list, inst_NoneType_tuple, inst_bool_bool, inst_bool_int, inst_bool_str, inst_bool_list, inst_bool_tuple, inst_int_bool, inst_int_int, inst_int_str, inst_int_list, inst_int_tuple, inst_str_bool, inst_str_int, inst_str_str, inst_str_list, inst_str_tuple, inst_list_bool, inst_list_int, inst_list_str, inst_list_list, inst_list_tuple, inst_tuple_bool, inst_tuple_int, inst_tuple_str, inst_tuple_list, inst_tuple_tuple, iiD, iiD0, subD, mulD, fdivD, modD, shrD, powD, ltI, leI, gtI, geI, addI, addD, catD, scatD, lenD, lenS, ixD, ixL, ixLK, ixK, vl, vm, newL, i2D, absD, tupleD, dLM, dLM0, dFld, getF, dGet1, dGet2, getK, dSetIx, rng1, rng2, dFor1, dFor2, dFor, dForK, eqR, rs, dstart, List.map_cons, List.map_nil, List.length_cons, List.length_nil, List.cons_append, List.nil_append, List.replicate, List.getElem?_cons_zero, List.getElem?_cons_succ, List.set_cons_zero, List.set_cons_succ, Option.isSome_some, Option.isNone_some, Option.isNone_none, Nat.add_one_sub_one, Nat.reduceAdd, Nat.reduceSub, Nat.sub_self, Nat.sub_zero, Bool.not_true, Bool.not_false, ↓reduceIte, Bool.false_eq_true, okD_int, okD_bl, okD_non, dEq_int, dEq_bl, Bool.true_xor, Bool.false_xor, Bool.not_eq_true', decide_eq_true_eq, decide_eq_false_iff_not, true_and, Bool.and_true, Bool.and_false, Bool.true_and, Bool.false_and, at_0, at_1, at_2, cast0, cast1, cast2, cast3, not_true_eq_false, not_false_eq_true, eL, Option.map_some, Option.map_none, *]
  all_goals first
    | exact rt_of q
    | (by_cases c : (((l.map D.int).length : Nat) : Int) = (((l'.map D.int).length : Nat) : Int)
       · rw [if_neg (not_not_intro c)]
         refine same_road_go (by simp only [*]) _ _ l none fun o => ?_
         simp only [dSeq, dIfS, dB, dOp, dVar, dCB, dCons, dNil, dRet, dRetN, dNext, dC, dAsg, dgN, dgT, dgSeq, dDrop, dCont, dAndT, dOrT, dNotT, dAndV, dOrV, dNotV, dIf, dIsN, dNotN, dNeg, dLst, dTup, dNewI, dCall, dMeth, dMake, dRaise, dFrz, dIsi, isiK, tyS, inst_NoneType_bool, inst_NoneType_int, inst_NoneType_str, inst_NoneType_list, inst_NoneType_tuple, inst_bool_bool, inst_bool_int, inst_bool_str, inst_bool_list, inst_bool_tuple, inst_int_bool, inst_int_int, inst_int_str, inst_int_list, inst_int_tuple, inst_str_bool, inst_str_int, inst_str_str, inst_str_list, inst_str_tuple, inst_list_bool, inst_list_int, inst_list_str, inst_list_list, inst_list_tuple, inst_tuple_bool, inst_tuple_int, inst_tuple_str, inst_tuple_list, inst_tuple_tuple, iiD, iiD0, subD, mulD, fdivD, modD, shrD, powD, ltI, leI, gtI, geI, addI, addD, catD, scatD, lenD, lenS, ixD, ixL, ixLK, ixK, vl, vm, newL, i2D, absD, tupleD, dLM, dLM0, dFld, getF, dGet1, dGet2, getK, dSetIx, rng1, rng2, dFor1, dFor2, dFor, dForK, eqR, rs, dstart, List.map_cons, List.map_nil, List.length_cons, List.length_nil, List.cons_append, List.nil_append, List.replicate, List.getElem?_cons_zero, List.getElem?_cons_succ, List.set_cons_zero, List.set_cons_succ, Option.isSome_some, Option.isNone_some, Option.isNone_none, Nat.add_one_sub_one, Nat.reduceAdd, Nat.reduceSub, Nat.sub_self, Nat.sub_zero, Bool.not_true, Bool.not_false, ↓reduceIte, Bool.false_eq_true, okD_int, okD_bl, okD_non, dEq_int, dEq_bl, Bool.true_xor, Bool.false_xor, Bool.not_eq_true', decide_eq_true_eq, decide_eq_false_iff_not, true_and, Bool.and_true, Bool.and_false, Bool.true_and, Bool.false_and, at_0, at_1, at_2, cast0, cast1, cast2, cast3, not_true_eq_false, not_false_eq_true, eL, Option.map_some, Option.map_none, dEq_R, okD_R, *]
         refine rt_of ?_
         simpa only [Option.some.injEq] using q
       · rw [if_pos c]
         refine rt_of ?_
         rwa [decide_eq_false (fun z => c (by rw [Option.some.inj z]))] at q)

end DL
namespace DL
open PySem L2
def t_law_road_by (K : PySem.W.Frag) (a : CA) (W : WD) : TDS :=
  (dSeq (dAsg (dLc true (diR2 (dCons (dC (.int 1)) (dCons (dVar 2) dNil))) (dgN 4) (dB (dOp (eqR true) (dVar 4) (dVar 1))) (dVar 4) [4]) (dgN 3))
  (dSeq (dAsg (dLst true (dCons (dVar 1) dNil)) (dgN 5))
  (dSeq (dAsg (dOp modD (dVar 0) (dC (.int 4))) (dgN 6))
  (dSeq (dIfS (dB (dOp (eqR false) (dOp modD (dOp fdivD (dVar 0) (dC (.int 4))) (dC (.int 8))) (dC (.int 3))))
    (dAsg (dVar 2) (dgN 6))
    dNext)
  (dSeq (dAsg (dOp fdivD (dVar 0) (dC (.int 4))) (dgN 0))
  (dSeq (dWhile (dAndT (dB (dOp gtI (dVar 6) (dC (.int 0)))) (dB (dOp gtI (dCB lenD (dCons (dVar 3) dNil)) (dC (.int 0)))))
    (dSeq (dDrop (dLM appendD (dVar 5) (dCons (dLM popAtD (dVar 3) (dCons (dOp modD (dVar 0) (dCB lenD (dCons (dVar 3) dNil))) dNil)) dNil)))
    (dSeq (dAsg (dOp fdivD (dVar 0) (dC (.int 5))) (dgN 0))
    (dAsg (dOp subD (dVar 6) (dC (.int 1))) (dgN 6)))))
  (dRet (dOp (addD false) (dVar 5) (dLst false (dCons (dC (.int 0)) dNil))))))))))
abbrev N_law_road_by : List Str := ["cell", "house", "size", "rest", "far", "road", "many"]
def roadGo : Nat → Int → Int → List Int → List Int
  | 0, _, _, _ => []
  | n + 1, cell, many, rest => if 0 < many ∧ 0 < rest.length then rest.getD (cell % rest.length).toNat 0 :: roadGo n (cell / 5) (many - 1) (rest.eraseIdx (cell % rest.length).toNat) else []
theorem roadGo_step {cell many : Int} {rest : List Int} (h1 : 0 < many) (h2 : 0 < rest.length) (hi : (cell % (rest.length : Int)).toNat < rest.length) :
    roadGo rest.length cell many rest = rest[(cell % (rest.length : Int)).toNat] :: roadGo (rest.eraseIdx (cell % (rest.length : Int)).toNat).length (cell / 5) (many - 1) (rest.eraseIdx (cell % (rest.length : Int)).toNat) := by
  have e : ∀ n, rest.length = n + 1 → roadGo (n + 1) cell many rest = rest[(cell % (rest.length : Int)).toNat] :: roadGo n (cell / 5) (many - 1) (rest.eraseIdx (cell % (rest.length : Int)).toNat) := fun n _ => by
    rw [roadGo, if_pos ⟨h1, h2⟩, List.getD_eq_getElem?_getD, List.getElem?_eq_getElem hi]; rfl
  rw [List.length_eraseIdx_of_lt hi]
  have h3 := e (rest.length - 1) (by omega)
  rwa [show rest.length - 1 + 1 = rest.length by omega] at h3
def restOf (house : Int) (size : Nat) : List Int := ((List.range (size - 1)).filter fun i => decide (¬ (1 + (i : Nat) : Int) = house)).map fun i => 1 + (i : Nat)
def roadMany (cell : Int) (size : Nat) : Int := if cell / 4 % 8 = 3 then size else cell % 4
def roadBy (cell house : Int) (size : Nat) : List Int := house :: roadGo (restOf house size).length (cell / 4) (roadMany cell size) (restOf house size) ++ [0]
def sp_law_road_by (a : CA) : DSp := fun ds S P E => ∃ cell house, ∃ size : Nat, ds = [.int cell, .int house, .int size] ∧ 1 ≤ size ∧ size ≤ 1000 ∧ P (eR (roadBy cell house size)) S
theorem len_law_road_by (a : CA) (ds : List D) (S : Sto) (Q : D → Sto → Prop) (E : Addr → Sto → Prop) (h : sp_law_road_by a ds S Q E) : ds.length = ["cell", "house", "size"].length := by
  obtain ⟨_, _, _, rfl, _⟩ := h; rfl
theorem read_law_road_by (K : PySem.W.Frag) (a : CA) (ds : List D) (S : Sto) (Q : D → Sto → Prop) (E : Addr → Sto → Prop) (h : sp_law_road_by a ds S Q E) : t_law_road_by K a (wishOf E) (endsOf Q) (dstart N_law_road_by ds) S := by
  obtain ⟨cell, house, size, rfl, hs1, hs2, q⟩ := h
  simp only [t_law_road_by, N_law_road_by, dSeq, dIfS, dB, dOp, dVar, dCB, dCons, dNil, dRet, dRetN, dNext, dC, dAsg, dgN, dgT, dgSeq, dDrop, dCont, dAndT, dOrT, dNotT, dAndV, dOrV, dNotV, dIf, dIsN, dNotN, dNeg, dLst, dTup, dNewI, dCall, dMeth, dMake, dRaise, dFrz, dIsi, isiK, tyS, inst_NoneType_bool, inst_NoneType_int, inst_NoneType_str, inst_NoneType_list, inst_NoneType_tuple, inst_bool_bool, inst_bool_int, inst_bool_str, inst_bool_list, inst_bool_tuple, inst_int_bool, inst_int_int, inst_int_str, inst_int_list, inst_int_tuple, inst_str_bool, inst_str_int, inst_str_str, inst_str_list, inst_str_tuple, inst_list_bool, inst_list_int, inst_list_str, inst_list_list, inst_list_tuple, inst_tuple_bool, inst_tuple_int, inst_tuple_str, inst_tuple_list, inst_tuple_tuple, iiD, iiD0, subD, mulD, fdivD, modD, shrD, powD, ltI, leI, gtI, geI, addI, addD, catD, scatD, lenD, lenS, ixD, ixL, ixLK, ixK, vl, vm, newL, i2D, absD, tupleD, dLM, dLM0, dFld, getF, dGet1, dGet2, getK, dSetIx, rng1, rng2, dFor1, dFor2, dFor, dForK, eqR, rs, dstart, List.map_cons, List.map_nil, List.length_cons, List.length_nil, List.cons_append, List.nil_append, List.replicate, List.getElem?_cons_zero, List.getElem?_cons_succ, List.set_cons_zero, List.set_cons_succ, Option.isSome_some, Option.isNone_some, Option.isNone_none, Nat.add_one_sub_one, Nat.reduceAdd, Nat.reduceSub, Nat.sub_self, Nat.sub_zero, Bool.not_true, Bool.not_false, ↓reduceIte, Bool.false_eq_true, okD_int, okD_bl, okD_non, dEq_int, dEq_bl, Bool.true_xor, Bool.false_xor, Bool.not_eq_true', decide_eq_true_eq, decide_eq_false_iff_not, true_and, Bool.and_true, Bool.and_false, Bool.true_and, Bool.false_and, at_0, at_1, at_2, cast0, cast1, cast2, cast3, not_true_eq_false, not_false_eq_true, eL, Option.map_some, Option.map_none, dLc, diR2]
  refine ⟨by omega, fun p1 h1 => ?_⟩
  unfold intsD
  refine lc_map (P := _) (fun i : Nat => D.int (1 + (i : Nat))) (fun i => decide (¬ (1 + (i : Nat) : Int) = house)) (fun i => D.int (1 + (i : Nat))) (by simp [sizeLine]; omega) (fun _ _ => trivial) ?_ ?_ p1 h1
  · intro i _ S' N Y _ hn hy
    simp only [dSeq, dIfS, dB, dOp, dVar, dCB, dCons, dNil, dRet, dRetN, dNext, dC, dAsg, dgN, dgT, dgSeq, dDrop, dCont, dAndT, dOrT, dNotT, dAndV, dOrV, dNotV, dIf, dIsN, dNotN, dNeg, dLst, dTup, dNewI, dCall, dMeth, dMake, dRaise, dFrz, dIsi, isiK, tyS, inst_NoneType_bool, inst_NoneType_int, inst_NoneType_str, inst_NoneType_list, inst_NoneType_tuple, inst_bool_bool, inst_bool_int, inst_bool_str, inst_bool_list, inst_bool_tuple, inst_int_bool, inst_int_int, inst_int_str, inst_int_list, inst_int_tuple, inst_str_bool, inst_str_int, inst_str_str, inst_str_list, inst_str_tuple, inst_list_bool, inst_list_int, inst_list_str, inst_list_list, inst_list_tuple, inst_tuple_bool, inst_tuple_int, inst_tuple_str, inst_tuple_list, inst_tuple_tuple, iiD, iiD0, subD, mulD, fdivD, modD, shrD, powD, ltI, leI, gtI, geI, addI, addD, catD, scatD, lenD, lenS, ixD, ixL, ixLK, ixK, vl, vm, newL, i2D, absD, tupleD, dLM, dLM0, dFld, getF, dGet1, dGet2, getK, dSetIx, rng1, rng2, dFor1, dFor2, dFor, dForK, eqR, rs, dstart, List.map_cons, List.map_nil, List.length_cons, List.length_nil, List.cons_append, List.nil_append, List.replicate, List.getElem?_cons_zero, List.getElem?_cons_succ, List.set_cons_zero, List.set_cons_succ, Option.isSome_some, Option.isNone_some, Option.isNone_none, Nat.add_one_sub_one, Nat.reduceAdd, Nat.reduceSub, Nat.sub_self, Nat.sub_zero, Bool.not_true, Bool.not_false, ↓reduceIte, Bool.false_eq_true, okD_int, okD_bl, okD_non, dEq_int, dEq_bl, Bool.true_xor, Bool.false_xor, Bool.not_eq_true', decide_eq_true_eq, decide_eq_false_iff_not, true_and, Bool.and_true, Bool.and_false, Bool.true_and, Bool.false_and, at_0, at_1, at_2, cast0, cast1, cast2, cast3, not_true_eq_false, not_false_eq_true, eL, Option.map_some, Option.map_none, wipeD]
    by_cases c : (1 + (i : Nat) : Int) = house
    · rw [if_neg (not_not_intro c)]; exact hn (by simp [c])
    · rw [if_pos c]; exact hy (by simp [c])
  · have e1 : ((size : Int) - 1).toNat = size - 1 := by omega
    have e2 : (List.filter (fun i : Nat => decide (¬ (1 + (i : Nat) : Int) = house)) (List.range ((size : Int) - 1).toNat)).map (fun i : Nat => D.int (1 + (i : Nat))) = (restOf house size).map .int := by
      rw [e1]; unfold restOf; rw [List.map_map]; rfl
    rw [e2]
    intro p1 h1
    refine ⟨by decide, fun p2 h2 => ⟨by decide, ⟨by decide, by decide⟩, by decide, ?_⟩⟩
    have hn : p2 ≠ p1 := fun z => by rw [z, su_same] at h2; cases h2
    rw [su_ne hn] at h2
    have hlen : (restOf house size).length ≤ size := by
      unfold restOf
      rw [List.length_map]
      exact Nat.le_trans (List.length_filter_le _ _) (by rw [List.length_range]; omega)
    have hd : roadBy cell house size = house :: roadGo (restOf house size).length (cell / 4) (roadMany cell size) (restOf house size) ++ [0] := rfl
    unfold roadMany at hd
    split
    all_goals
      rename_i hc
      refine ⟨⟨by decide, by decide⟩, ?_⟩
      first | rw [if_pos hc] at hd | rw [if_neg hc] at hd
      refine dWh_ind (fun ρ S' => ∃ (c many : Int) (rest acc : List Int) (o : Option D), ρ = [some (.int c), some (.int house), some (.int size), some (.ref p1), o, some (.ref p2), some (.int many)] ∧ S' = su (su S p1 (.ml (rest.map .int))) p2 (.ml (acc.map .int)) ∧
        roadBy cell house size = acc ++ roadGo rest.length c many rest ++ [0] ∧ acc.length + rest.length ≤ size + 1) (fun _ S' => ((cellL S' (.ref p1)).map (·.2.length)).getD 0) ?_ _ _ ⟨_, _, _, [house], _, rfl, rfl, hd, by simp; omega⟩
      rintro ρ S' N ⟨c, many, rest, acc, o, rfl, rfl, hr, hl⟩ hN
      have g1 : su (su S p1 (.ml (rest.map .int))) p2 (.ml (acc.map .int)) p1 = some (.ml (rest.map .int)) := by rw [su_ne (Ne.symm hn), su_same]
      have g2 : su (su S p1 (.ml (rest.map .int))) p2 (.ml (acc.map .int)) p2 = some (.ml (acc.map .int)) := su_same
      simp only [dSeq, dIfS, dB, dOp, dVar, dCB, dCons, dNil, dRet, dRetN, dNext, dC, dAsg, dgN, dgT, dgSeq, dDrop, dCont, dAndT, dOrT, dNotT, dAndV, dOrV, dNotV, dIf, dIsN, dNotN, dNeg, dLst, dTup, dNewI, dCall, dMeth, dMake, dRaise, dFrz, dIsi, isiK, tyS, inst_NoneType_bool, inst_NoneType_int, inst_NoneType_str, inst_NoneType_list, inst_NoneType_tuple, inst_bool_bool, inst_bool_int, inst_bool_str, inst_bool_list, inst_bool_tuple, inst_int_bool, inst_int_int, inst_int_str, inst_int_list, inst_int_tuple, inst_str_bool, inst_str_int, inst_str_str, inst_str_list, inst_str_tuple, inst_list_bool, inst_list_int, inst_list_str, inst_list_list, inst_list_tuple, inst_tuple_bool, inst_tuple_int, inst_tuple_str, inst_tuple_list, inst_tuple_tuple, iiD, iiD0, subD, mulD, fdivD, modD, shrD, powD, ltI, leI, gtI, geI, addI, addD, catD, scatD, lenD, lenS, ixD, ixL, ixLK, ixK, vl, vm, newL, i2D, absD, tupleD, dLM, dLM0, dFld, getF, dGet1, dGet2, getK, dSetIx, rng1, rng2, dFor1, dFor2, dFor, dForK, eqR, rs, dstart, List.map_cons, List.map_nil, List.length_cons, List.length_nil, List.cons_append, List.nil_append, List.replicate, List.getElem?_cons_zero, List.getElem?_cons_succ, List.set_cons_zero, List.set_cons_succ, Option.isSome_some, Option.isNone_some, Option.isNone_none, Nat.add_one_sub_one, Nat.reduceAdd, Nat.reduceSub, Nat.sub_self, Nat.sub_zero, Bool.not_true, Bool.not_false, ↓reduceIte, Bool.false_eq_true, okD_int, okD_bl, okD_non, dEq_int, dEq_bl, Bool.true_xor, Bool.false_xor, Bool.not_eq_true', decide_eq_true_eq, decide_eq_false_iff_not, true_and, Bool.and_true, Bool.and_false, Bool.true_and, Bool.false_and, at_0, at_1, at_2, cast0, cast1, cast2, cast3, not_true_eq_false, not_false_eq_true, eL, Option.map_some, Option.map_none, g1, g2]
      have fin : roadGo rest.length c many rest = [] → (endsOf Q).rt (D.lst (acc.map .int ++ [.int 0])) (su (su S p1 (.ml (rest.map .int))) p2 (.ml (acc.map .int))) := fun z => by
        rw [z, List.append_nil] at hr
        refine rt_le ((SLe.su h1).trans (SLe.su (by rw [su_ne hn]; exact h2))) ?_
        rw [hr] at q
        simpa [eL] using q
      have hs : sizeLine = 2 ^ 24 := rfl
      by_cases c1 : 0 < many
      · rw [if_pos c1]
        by_cases c2 : 0 < rest.length
        · rw [if_pos (by rw [List.length_map]; omega)]
          refine ⟨by rw [List.length_map]; omega, ?_⟩
          rw [List.length_map]
          have b0 : 0 ≤ c % (rest.length : Int) := Int.emod_nonneg _ (by omega)
          have b1 : c % (rest.length : Int) < rest.length := Int.emod_lt_of_pos _ (by omega)
          refine popAt_at g1 b0 b1 (by omega) ?_
          refine append_at (xs := acc.map .int) (by rw [su_ne hn]; exact g2) (by rw [List.length_map]; omega) ⟨⟨by decide, by decide⟩, hN _ _ ⟨c / 5, many - 1, rest.eraseIdx (c % (rest.length : Int)).toNat, acc ++ [rest[(c % (rest.length : Int)).toNat]'(by omega)], o, rfl, ?_, ?_, ?_⟩ ?_⟩
          · rw [su_two (Ne.symm hn), su_su, List.map_append]; rfl
          · rw [hr]
            rw [roadGo_step c1 c2 (by omega)]
            simp
          · rw [List.length_append, List.length_eraseIdx_of_lt (by omega)]; simp; omega
          · simp only [cellL]
            rw [su_ne (Ne.symm hn), su_two (Ne.symm hn), su_ne (Ne.symm hn), su_same, su_ne (Ne.symm hn), su_same]
            simp only [Option.map_some, Option.getD_some, List.length_map]
            rw [List.length_eraseIdx_of_lt (by omega)]; omega
        · rw [if_neg (by rw [List.length_map]; omega)]
          refine ⟨by omega, by simp; omega, fin ?_⟩
          have : rest = [] := List.length_eq_zero_iff.mp (by omega)
          rw [this]; rfl
      · rw [if_neg c1]
        refine ⟨by omega, by simp; omega, fin ?_⟩
        cases rest with
        | nil => rfl
        | cons x xs => show roadGo (xs.length + 1) c many (x :: xs) = []; unfold roadGo; rw [if_neg fun z => c1 z.1]
theorem restOf_mem {house x : Int} {size : Nat} (h : x ∈ restOf house size) : x ≠ house ∧ 1 ≤ x ∧ x < size := by
  unfold restOf at h
  obtain ⟨i, hi, rfl⟩ := List.mem_map.mp h
  have h1 := List.mem_filter.mp hi
  have h2 := List.mem_range.mp h1.1
  have h3 := of_decide_eq_true h1.2
  exact ⟨h3, by omega, by omega⟩
theorem restOf_nodup (house : Int) (size : Nat) : (restOf house size).Nodup := by
  unfold restOf
  unfold List.Nodup
  rw [List.pairwise_map]
  refine ((List.nodup_range (n := size - 1)).filter _).imp fun {x y} h z => h (by omega)
theorem roadGo_mem : ∀ (n : Nat) (cell many : Int) (rest : List Int) (x : Int), x ∈ roadGo n cell many rest → x ∈ rest
  | 0, _, _, _, x, h => by cases h
  | n + 1, cell, many, rest, x, h => by
    rw [roadGo] at h
    split at h
    · rename_i hc
      have b0 : 0 ≤ cell % (rest.length : Int) := Int.emod_nonneg _ (by omega)
      have b1 : cell % (rest.length : Int) < rest.length := Int.emod_lt_of_pos _ (by omega)
      rcases List.mem_cons.mp h with h | h
      · rw [h, List.getD_eq_getElem?_getD, List.getElem?_eq_getElem (by omega)]
        exact List.getElem_mem _
      · exact List.mem_of_mem_eraseIdx (roadGo_mem n _ _ _ x h)
    · cases h
theorem roadGo_nodup : ∀ (n : Nat) (cell many : Int) (rest : List Int), rest.Nodup → (roadGo n cell many rest).Nodup
  | 0, _, _, _, _ => List.nodup_nil
  | n + 1, cell, many, rest, hd => by
    rw [roadGo]
    split
    · rename_i hc
      have b0 : 0 ≤ cell % (rest.length : Int) := Int.emod_nonneg _ (by omega)
      have b1 : cell % (rest.length : Int) < rest.length := Int.emod_lt_of_pos _ (by omega)
      refine List.nodup_cons.mpr ⟨fun hx => ?_, roadGo_nodup n _ _ _ (hd.sublist (List.eraseIdx_sublist ..))⟩
      have h1 := roadGo_mem _ _ _ _ _ hx
      rw [List.getD_eq_getElem?_getD, List.getElem?_eq_getElem (by omega)] at h1
      have h2 : (cell % (rest.length : Int)).toNat < rest.length := by omega
      have h4 := List.mem_eraseIdx_iff_getElem.mp h1
      obtain ⟨j, hj, hne, he⟩ := h4
      exact hne (nodup_inj hd _ _ he)
    · exact List.nodup_nil
theorem roadBy_next {cell house : Int} {size : Nat} (h : 1 ≤ size) : 2 ≤ (roadBy cell house size).length ∧ 0 ≤ (roadBy cell house size).getD 1 0 ∧ (roadBy cell house size).getD 1 0 < size := by
  unfold roadBy
  refine ⟨by simp, ?_⟩
  cases e : roadGo (restOf house size).length (cell / 4) (roadMany cell size) (restOf house size) with
  | nil => simp; omega
  | cons x xs =>
    have h1 := restOf_mem (roadGo_mem _ _ _ _ x (by rw [e]; exact List.mem_cons_self))
    simp; omega

end DL
namespace DL
open PySem L2
def t_law_table_by (K : PySem.W.Frag) (a : CA) (W : WD) : TDS :=
  (dSeq (dAsg (dLst true (dCons (dLst false (dCons (dC (.int 0)) dNil)) dNil)) (dgN 2))
  (dSeq (dFor2 (dCons (dC (.int 1)) (dCons (dVar 1) dNil)) (dgN 3)
    (dSeq (dAsg (dOp (addD false) (dCall (sp_law_cell_at a) W (dCons (dVar 0) (dCons (dOp (addD false) (dC (.int 2)) (dOp modD (dVar 3) (dC (.int 9)))) dNil))) (dOp mulD (dVar 3) (dCall (sp_law_cell_at a) W (dCons (dVar 0) (dCons (dC (.int 11)) dNil))))) (dgN 4))
    (dIfS (dB (dOp (eqR false) (dOp modD (dVar 4) (dC (.int 4))) (dC (.int 1))))
      (dDrop (dLM appendD (dVar 2) (dCons (dC .non) dNil)))
      (dDrop (dLM appendD (dVar 2) (dCons (dCall (sp_law_road_by a) W (dCons (dOp fdivD (dVar 4) (dC (.int 4))) (dCons (dVar 3) (dCons (dVar 1) dNil)))) dNil))))))
  (dRet (dFrz (dVar 2)))))
abbrev N_law_table_by : List Str := ["script", "size", "table", "house", "cell"]
def tabCell (ns : List Int) (house : Int) : Int := cellAt ns (2 + house % 9) + house * cellAt ns 11
def tabAt (ns : List Int) (size : Nat) (house : Int) : Option (List Int) := if tabCell ns house % 4 = 1 then none else some (roadBy (tabCell ns house / 4) house size)
def tabUpto (ns : List Int) (size k : Nat) : List (Option (List Int)) := some [0] :: (List.range k).map fun i => tabAt ns size (1 + (i : Nat))
def sp_law_table_by (a : CA) : DSp := fun ds S P E => ∃ ns, ∃ size : Nat, ds = [.scr ns, .int size] ∧ 1 ≤ size ∧ size ≤ 60 ∧ P (eL (eO eR) (tabUpto ns size (size - 1))) S
theorem len_law_table_by (a : CA) (ds : List D) (S : Sto) (Q : D → Sto → Prop) (E : Addr → Sto → Prop) (h : sp_law_table_by a ds S Q E) : ds.length = ["script", "size"].length := by
  obtain ⟨_, _, rfl, _⟩ := h; rfl
theorem read_law_table_by (K : PySem.W.Frag) (a : CA) (ds : List D) (S : Sto) (Q : D → Sto → Prop) (E : Addr → Sto → Prop) (h : sp_law_table_by a ds S Q E) : t_law_table_by K a (wishOf E) (endsOf Q) (dstart N_law_table_by ds) S := by
  obtain ⟨ns, size, rfl, hs1, hs2, q⟩ := h
  simp only [t_law_table_by, N_law_table_by, dSeq, dIfS, dB, dOp, dVar, dCB, dCons, dNil, dRet, dRetN, dNext, dC, dAsg, dgN, dgT, dgSeq, dDrop, dCont, dAndT, dOrT, dNotT, dAndV, dOrV, dNotV, dIf, dIsN, dNotN, dNeg, dLst, dTup, dNewI, dCall, dMeth, dMake, dRaise, dFrz, dIsi, isiK, tyS, inst_NoneType_bool, inst_NoneType_int, inst_NoneType_str, inst_NoneType_list, inst_NoneType_tuple, inst_bool_bool, inst_bool_int, inst_bool_str, inst_bool_list, inst_bool_tuple, inst_int_bool, inst_int_int, inst_int_str, inst_int_list, inst_int_tuple, inst_str_bool, inst_str_int, inst_str_str, inst_str_list, inst_str_tuple, inst_list_bool, inst_list_int, inst_list_str, inst_list_list, inst_list_tuple, inst_tuple_bool, inst_tuple_int, inst_tuple_str, inst_tuple_list, inst_tuple_tuple, iiD, iiD0, subD, mulD, fdivD, modD, shrD, powD, ltI, leI, gtI, geI, addI, addD, catD, scatD, lenD, lenS, ixD, ixL, ixLK, ixK, vl, vm, newL, i2D, absD, tupleD, dLM, dLM0, dFld, getF, dGet1, dGet2, getK, dSetIx, rng1, rng2, dFor1, dFor2, dFor, dForK, eqR, rs, dstart, List.map_cons, List.map_nil, List.length_cons, List.length_nil, List.cons_append, List.nil_append, List.replicate, List.getElem?_cons_zero, List.getElem?_cons_succ, List.set_cons_zero, List.set_cons_succ, Option.isSome_some, Option.isNone_some, Option.isNone_none, Nat.add_one_sub_one, Nat.reduceAdd, Nat.reduceSub, Nat.sub_self, Nat.sub_zero, Bool.not_true, Bool.not_false, ↓reduceIte, Bool.false_eq_true, okD_int, okD_bl, okD_non, dEq_int, dEq_bl, Bool.true_xor, Bool.false_xor, Bool.not_eq_true', decide_eq_true_eq, decide_eq_false_iff_not, true_and, Bool.and_true, Bool.and_false, Bool.true_and, Bool.false_and, at_0, at_1, at_2, cast0, cast1, cast2, cast3, not_true_eq_false, not_false_eq_true, eL, Option.map_some, Option.map_none]
  refine ⟨by decide, by decide, fun p hp => ⟨by omega, ?_⟩⟩
  have e1 : ((size : Int) - 1).toNat = size - 1 := by omega
  rw [e1]
  refine dGo_rng (fun k ρ S' => ∃ o1 o2, ρ = [some (.scr ns), some (.int size), some (.ref p), o1, o2] ∧ S' = su S p (.ml ((tabUpto ns size k).map (eO eR)))) ?_ ?_ _ _ ⟨_, _, rfl, rfl⟩
  · rintro ρ S' ⟨o1, o2, rfl, rfl⟩
    simp only [dSeq, dIfS, dB, dOp, dVar, dCB, dCons, dNil, dRet, dRetN, dNext, dC, dAsg, dgN, dgT, dgSeq, dDrop, dCont, dAndT, dOrT, dNotT, dAndV, dOrV, dNotV, dIf, dIsN, dNotN, dNeg, dLst, dTup, dNewI, dCall, dMeth, dMake, dRaise, dFrz, dIsi, isiK, tyS, inst_NoneType_bool, inst_NoneType_int, inst_NoneType_str, inst_NoneType_list, inst_NoneType_tuple, inst_bool_bool, inst_bool_int, inst_bool_str, inst_bool_list, inst_bool_tuple, inst_int_bool, inst_int_int, inst_int_str, inst_int_list, inst_int_tuple, inst_str_bool, inst_str_int, inst_str_str, inst_str_list, inst_str_tuple, inst_list_bool, inst_list_int, inst_list_str, inst_list_list, inst_list_tuple, inst_tuple_bool, inst_tuple_int, inst_tuple_str, inst_tuple_list, inst_tuple_tuple, iiD, iiD0, subD, mulD, fdivD, modD, shrD, powD, ltI, leI, gtI, geI, addI, addD, catD, scatD, lenD, lenS, ixD, ixL, ixLK, ixK, vl, vm, newL, i2D, absD, tupleD, dLM, dLM0, dFld, getF, dGet1, dGet2, getK, dSetIx, rng1, rng2, dFor1, dFor2, dFor, dForK, eqR, rs, dstart, List.map_cons, List.map_nil, List.length_cons, List.length_nil, List.cons_append, List.nil_append, List.replicate, List.getElem?_cons_zero, List.getElem?_cons_succ, List.set_cons_zero, List.set_cons_succ, Option.isSome_some, Option.isNone_some, Option.isNone_none, Nat.add_one_sub_one, Nat.reduceAdd, Nat.reduceSub, Nat.sub_self, Nat.sub_zero, Bool.not_true, Bool.not_false, ↓reduceIte, Bool.false_eq_true, okD_int, okD_bl, okD_non, dEq_int, dEq_bl, Bool.true_xor, Bool.false_xor, Bool.not_eq_true', decide_eq_true_eq, decide_eq_false_iff_not, true_and, Bool.and_true, Bool.and_false, Bool.true_and, Bool.false_and, at_0, at_1, at_2, cast0, cast1, cast2, cast3, not_true_eq_false, not_false_eq_true, eL, Option.map_some, Option.map_none, su_same]
    refine rt_of ?_
    rw [sd_su hp]
    exact q
  · rintro k ρ S' N hk ⟨o1, o2, rfl, rfl⟩ hN
    have hm : 0 ≤ (1 + (k : Nat) : Int) % 9 := by omega
    have hN' := fun o1 o2 => hN _ _ ⟨o1, o2, rfl, rfl⟩
    have hl : ((tabUpto ns size k).map (eO eR)).length < sizeLine := by unfold tabUpto; simp [sizeLine]; omega
    have e2 : ∀ e, tabAt ns size (1 + (k : Nat)) = e → (tabUpto ns size (k + 1)).map (eO eR) = (tabUpto ns size k).map (eO eR) ++ [eO eR e] := fun e he => by
      unfold tabUpto
      rw [List.range_succ, List.map_append, ← List.cons_append, List.map_append, ← he]
      rfl
    simp only [dSeq, dIfS, dB, dOp, dVar, dCB, dCons, dNil, dRet, dRetN, dNext, dC, dAsg, dgN, dgT, dgSeq, dDrop, dCont, dAndT, dOrT, dNotT, dAndV, dOrV, dNotV, dIf, dIsN, dNotN, dNeg, dLst, dTup, dNewI, dCall, dMeth, dMake, dRaise, dFrz, dIsi, isiK, tyS, inst_NoneType_bool, inst_NoneType_int, inst_NoneType_str, inst_NoneType_list, inst_NoneType_tuple, inst_bool_bool, inst_bool_int, inst_bool_str, inst_bool_list, inst_bool_tuple, inst_int_bool, inst_int_int, inst_int_str, inst_int_list, inst_int_tuple, inst_str_bool, inst_str_int, inst_str_str, inst_str_list, inst_str_tuple, inst_list_bool, inst_list_int, inst_list_str, inst_list_list, inst_list_tuple, inst_tuple_bool, inst_tuple_int, inst_tuple_str, inst_tuple_list, inst_tuple_tuple, iiD, iiD0, subD, mulD, fdivD, modD, shrD, powD, ltI, leI, gtI, geI, addI, addD, catD, scatD, lenD, lenS, ixD, ixL, ixLK, ixK, vl, vm, newL, i2D, absD, tupleD, dLM, dLM0, dFld, getF, dGet1, dGet2, getK, dSetIx, rng1, rng2, dFor1, dFor2, dFor, dForK, eqR, rs, dstart, List.map_cons, List.map_nil, List.length_cons, List.length_nil, List.cons_append, List.nil_append, List.replicate, List.getElem?_cons_zero, List.getElem?_cons_succ, List.set_cons_zero, List.set_cons_succ, Option.isSome_some, Option.isNone_some, Option.isNone_none, Nat.add_one_sub_one, Nat.reduceAdd, Nat.reduceSub, Nat.sub_self, Nat.sub_zero, Bool.not_true, Bool.not_false, ↓reduceIte, Bool.false_eq_true, okD_int, okD_bl, okD_non, dEq_int, dEq_bl, Bool.true_xor, Bool.false_xor, Bool.not_eq_true', decide_eq_true_eq, decide_eq_false_iff_not, true_and, Bool.and_true, Bool.and_false, Bool.true_and, Bool.false_and, at_0, at_1, at_2, cast0, cast1, cast2, cast3, not_true_eq_false, not_false_eq_true, eL, Option.map_some, Option.map_none, su_same]
    refine ⟨by omega, ns, 2 + (1 + (k : Nat) : Int) % 9, rfl, by omega, ns, 11, rfl, by omega, .inl (by omega), ?_⟩
    refine ⟨by decide, ?_⟩
    by_cases c : (cellAt ns (2 + (1 + (k : Nat) : Int) % 9) + (1 + (k : Nat) : Int) * cellAt ns 11) % 4 = 1
    · rw [if_pos c]
      simp only [su_same, Option.isSome_some, true_and]
      refine append_at su_same hl ?_
      rw [su_su]
      have := hN' (some (.int (1 + (k : Nat)))) (some (.int (tabCell ns (1 + (k : Nat)))))
      rw [e2 _ (if_pos c)] at this
      exact this
    · rw [if_neg c]
      simp only [su_same, Option.isSome_some, true_and]
      refine ⟨⟨by decide, by decide⟩, _, _, _, rfl, hs1, by omega, append_at su_same hl ?_⟩
      rw [su_su]
      have := hN' (some (.int (1 + (k : Nat)))) (some (.int (tabCell ns (1 + (k : Nat)))))
      rw [e2 _ (if_neg c)] at this
      exact this
theorem tabUpto_len (ns : List Int) (size k : Nat) : (tabUpto ns size k).length = k + 1 := by unfold tabUpto; simp

end DL
namespace DL
open PySem L2
def t_k06_law_no_house (K : PySem.W.Frag) (a : CA) (W : WD) : TDS :=
  (dSeq (dAsg (dC (.bl false)) (dgN 2))
  (dSeq (dTry K (.ref a.NoHouse) (some 3)
    (fun W => (dDrop (dCall (sp_walk a) W (dCons (dVar 0) (dCons (dVar 1) dNil)))))
    (fun C x => (dAsg (dCB (isED K C x) (dCons (dVar 3) (dCons (dC (.ref a.GuildError)) dNil))) (dgN 2))) W)
  (dRet (dVar 2))))
abbrev N_k06_law_no_house : List Str := ["table", "house", "refused", "e"]
def sp_k06_law_no_house (a : CA) : DSp := fun ds S P E => ∃ x tab h, ds = [x, .int h] ∧ vm S x = some (tab.map (eO eR)) ∧ Nexts tab ∧ tab.length ≤ 1000 ∧ ¬ (0 ≤ h ∧ h < (tab.length : Nat)) ∧ P (.bl true) S
theorem len_k06_law_no_house (a : CA) (ds : List D) (S : Sto) (Q : D → Sto → Prop) (E : Addr → Sto → Prop) (h : sp_k06_law_no_house a ds S Q E) : ds.length = ["table", "house"].length := by
  obtain ⟨_, _, _, rfl, _⟩ := h; rfl
theorem read_k06_law_no_house (K : PySem.W.Frag) (a : CA) (X : ExK K a) (ds : List D) (S : Sto) (Q : D → Sto → Prop) (E : Addr → Sto → Prop) (h : sp_k06_law_no_house a ds S Q E) : t_k06_law_no_house K a (wishOf E) (endsOf Q) (dstart N_k06_law_no_house ds) S := by
  obtain ⟨x, tab, h, rfl, hx, ht, hl, hh, q⟩ := h
  simp only [t_k06_law_no_house, N_k06_law_no_house, dSeq, dIfS, dB, dOp, dVar, dCB, dCons, dNil, dRet, dRetN, dNext, dC, dAsg, dgN, dgT, dgSeq, dDrop, dCont, dAndT, dOrT, dNotT, dAndV, dOrV, dNotV, dIf, dIsN, dNotN, dNeg, dLst, dTup, dNewI, dCall, dMeth, dMake, dRaise, dFrz, dIsi, isiK, tyS, inst_NoneType_bool, inst_NoneType_int, inst_NoneType_str, inst_NoneType_list, inst_NoneType_tuple, inst_bool_bool, inst_bool_int, inst_bool_str, inst_bool_list, inst_bool_tuple, inst_int_bool, inst_int_int, inst_int_str, inst_int_list, inst_int_tuple, inst_str_bool, inst_str_int, inst_str_str, inst_str_list, inst_str_tuple, inst_list_bool, inst_list_int, inst_list_str, inst_list_list, inst_list_tuple, inst_tuple_bool, inst_tuple_int, inst_tuple_str, inst_tuple_list, inst_tuple_tuple, iiD, iiD0, subD, mulD, fdivD, modD, shrD, powD, ltI, leI, gtI, geI, addI, addD, catD, scatD, lenD, lenS, ixD, ixL, ixLK, ixK, vl, vm, newL, i2D, absD, tupleD, dLM, dLM0, dFld, getF, dGet1, dGet2, getK, dSetIx, rng1, rng2, dFor1, dFor2, dFor, dForK, eqR, rs, dstart, List.map_cons, List.map_nil, List.length_cons, List.length_nil, List.cons_append, List.nil_append, List.replicate, List.getElem?_cons_zero, List.getElem?_cons_succ, List.set_cons_zero, List.set_cons_succ, Option.isSome_some, Option.isNone_some, Option.isNone_none, Nat.add_one_sub_one, Nat.reduceAdd, Nat.reduceSub, Nat.sub_self, Nat.sub_zero, Bool.not_true, Bool.not_false, ↓reduceIte, Bool.false_eq_true, okD_int, okD_bl, okD_non, dEq_int, dEq_bl, Bool.true_xor, Bool.false_xor, Bool.not_eq_true', decide_eq_true_eq, decide_eq_false_iff_not, true_and, Bool.and_true, Bool.and_false, Bool.true_and, Bool.false_and, at_0, at_1, at_2, cast0, cast1, cast2, cast3, not_true_eq_false, not_false_eq_true, eL, Option.map_some, Option.map_none, dTry, tryW, wishOf]
  refine ⟨x, tab, h, rfl, hx, ht, hl, ?_⟩
  rw [if_neg hh]
  exact ⟨true, X.m_NoHouse_NoHouse, fun _ a2 _ => ⟨X.e_NoHouse, by simp only [isEK, X.i_NoHouse_GuildError]; exact ⟨trivial, rt_of q⟩⟩, fun z => by cases z⟩

end DL
namespace DL
open PySem L2
def t_k06_law_9 (K : PySem.W.Frag) (a : CA) (W : WD) : TDS :=
  (dSeq (dIfS (dOrT (dB (dOp (eqR true) (dVar 4) (dVar 2))) (dOrT (dNotT (dB (dIsi "tuple" (dVar 6)))) (dB (dOp (eqR true) (dCB lenD (dCons (dVar 6) dNil)) (dC (.int 2))))))
    (dRet (dC (.bl false)))
    dNext)
  (dSeq (dIfS (dOrT (dNotT (dB (dIsi "str" (dOp ixD (dVar 6) (dC (.int 0)))))) (dOrT (dB (dOp (eqR true) (dOp ixD (dVar 6) (dC (.int 0))) (dVar 8))) (dNotT (dB (dCall (sp_law_same_road a) W (dCons (dOp ixD (dVar 6) (dC (.int 1))) (dCons (dVar 7) dNil)))))))
    (dRet (dC (.bl false)))
    dNext)
  (dRet (dAndV (dCall (sp_k06_law_no_house a) W (dCons (dVar 2) (dCons (dNeg (dC (.int 1))) dNil))) (dCall (sp_k06_law_no_house a) W (dCons (dVar 2) (dCons (dOp (addD false) (dVar 1) (dOp modD (dCall (sp_law_cell_at a) W (dCons (dVar 0) (dCons (dC (.int 1)) dNil))) (dC (.int 9)))) dNil)))))))
def t_k06_law_5 (K : PySem.W.Frag) (a : CA) (W : WD) : TDS :=
  (dSeq (dAsg (dCall (sp_walk a) W (dCons (dVar 4) (dCons (dVar 3) dNil))) (dgN 6))
  (dSeq (dAsg (dLst true (dCons (dVar 3) dNil)) (dgN 7))
  (dSeq (dAsg (dC (.str "comes")) (dgN 8))
  (dSeq (dWhile (dAndT (dB (dOp (eqR true) (dOp ixD (dVar 7) (dNeg (dC (.int 1)))) (dC (.int 0)))) (dB (dOp (eqR false) (dVar 8) (dC (.str "comes")))))
    (dSeq (dAsg (dOp ixD (dVar 2) (dOp ixD (dVar 7) (dNeg (dC (.int 1))))) (dgN 5))
    (dIfS (dB (dIsN (dVar 5)))
      (dAsg (dC (.str "stops")) (dgN 8))
      (dIfS (dB (dOp (inR false) (dOp ixD (dVar 5) (dC (.int 1))) (dVar 7)))
        (dAsg (dC (.str "rings")) (dgN 8))
        (dDrop (dLM appendD (dVar 7) (dCons (dOp ixD (dVar 5) (dC (.int 1))) dNil)))))))
  (t_k06_law_9 K a W)))))
def t_k06_law_3 (K : PySem.W.Frag) (a : CA) (W : WD) : TDS :=
  (dSeq (dAsg (dOp modD (dCall (sp_law_cell_at a) W (dCons (dVar 0) (dCons (dC (.int 1)) dNil))) (dVar 1)) (dgN 3))
  (dSeq (dAsg (dLc false (diL (dVar 2)) (dgN 5) dYes (dIf (dB (dIsN (dVar 5))) (dC .non) (dCB (listD false) (dCons (dVar 5) dNil))) [5]) (dgN 4))
  (t_k06_law_5 K a W)))
def t_k06_law_2 (K : PySem.W.Frag) (a : CA) (W : WD) : TDS :=
  (dSeq (dAsg (dCall (sp_law_table_by a) W (dCons (dVar 0) (dCons (dVar 1) dNil))) (dgN 2))
  (t_k06_law_3 K a W))
def t_k06_law (K : PySem.W.Frag) (a : CA) (W : WD) : TDS :=
  (dSeq (dAsg (dOp (addD false) (dC (.int 1)) (dOp modD (dCall (sp_law_cell_at a) W (dCons (dVar 0) (dCons (dC (.int 0)) dNil))) (dC (.int 8)))) (dgN 1))
  (dSeq (dIfS (dB (dOp (eqR false) (dOp modD (dOp fdivD (dCall (sp_law_cell_at a) W (dCons (dVar 0) (dCons (dC (.int 0)) dNil))) (dC (.int 8))) (dC (.int 4))) (dC (.int 1))))
    (dAsg (dC (.int 60)) (dgN 1))
    dNext)
  (t_k06_law_2 K a W)))
abbrev N_k06_law : List Str := ["script", "size", "table", "house", "handed", "road", "found", "gone", "word"]
def sp_k06_law (a : CA) : DSp := fun ds S P E => ∃ ns : List Int, ds = [.scr ns] ∧ ns.length ≤ 63 ∧ P (.bl true) S
theorem len_k06_law (a : CA) (ds : List D) (S : Sto) (Q : D → Sto → Prop) (E : Addr → Sto → Prop) (h : sp_k06_law a ds S Q E) : ds.length = ["script"].length := by
  obtain ⟨ns, rfl, _⟩ := h; rfl
theorem top_k06_law (a : CA) (ns : List Int) (hl : ns.length ≤ 63) (P : D → Sto → Prop) (E : Addr → Sto → Prop) (h : P (.bl true) (fun _ => none)) : sp_k06_law a [.scr ns] (fun _ => none) P E := ⟨ns, rfl, hl, h⟩
theorem nexts_tab (ns : List Int) (size : Nat) (h : 1 ≤ size) : Nexts (tabUpto ns size (size - 1)) := by
  intro i r hi e
  unfold tabUpto at e
  obtain ⟨j, rfl⟩ : ∃ j, i = j + 1 := ⟨i - 1, by omega⟩
  rw [List.getElem?_cons_succ, List.getElem?_map] at e
  cases e2 : (List.range (size - 1))[j]? with
  | none => rw [e2] at e; cases e
  | some k =>
    rw [e2] at e
    simp only [Option.map_some, Option.some.injEq] at e
    unfold tabAt at e
    split at e
    · cases e
    · have e := Option.some.inj e
      rw [← e, tabUpto_len, show size - 1 + 1 = size by omega]
      exact roadBy_next h
def wordOn : Option (Option D) → Nat
  | some (some (.str w)) => if w = "comes" then 1 else 0
  | _ => 0
theorem k06_9 (K : PySem.W.Frag) (a : CA) (S : Sto) (Q : D → Sto → Prop) (E : Addr → Sto → Prop) (q : Q (.bl true) S) (ns : List Int) (size : Nat) (tab : List (Option (List Int))) (ht : Nexts tab) (hl : tab.length = size) (hs : 1 ≤ size ∧ size ≤ 60) (house : D) (R : Str × List Int) (hR : PyData.strOk R.1 = true) (o5 : Option D) (p : Addr) (hp : S p = none) :
    t_k06_law_9 K a (wishOf E) (endsOf Q) [some (.scr ns), some (.int size), some (.lst (tab.map (eO eR))), some house, some (.lst (tab.map (eO eR))), o5, some (.tup [.str R.1, .lst (R.2.map .int)]), some (.ref p), some (.str R.1)] (su S p (.ml (R.2.map .int))) := by
  simp only [t_k06_law_9, dSeq, dIfS, dB, dOp, dVar, dCB, dCons, dNil, dRet, dRetN, dNext, dC, dAsg, dgN, dgT, dgSeq, dDrop, dCont, dAndT, dOrT, dNotT, dAndV, dOrV, dNotV, dIf, dIsN, dNotN, dNeg, dLst, dTup, dNewI, dCall, dMeth, dMake, dRaise, dFrz, dIsi, isiK, tyS, inst_NoneType_bool, inst_NoneType_int, inst_NoneType_str, inst_NoneType_list, inst_NoneType_tuple, inst_bool_bool, inst_bool_int, inst_bool_str, inst_bool_list, inst_bool_tuple, inst_int_bool, inst_int_int, inst_int_str, inst_int_list, inst_int_tuple, inst_str_bool, inst_str_int, inst_str_str, inst_str_list, inst_str_tuple, inst_list_bool, inst_list_int, inst_list_str, inst_list_list, inst_list_tuple, inst_tuple_bool, inst_tuple_int, inst_tuple_str, inst_tuple_list, inst_tuple_tuple, iiD, iiD0, subD, mulD, fdivD, modD, shrD, powD, ltI, leI, gtI, geI, addI, addD, catD, scatD, lenD, lenS, ixD, ixL, ixLK, ixK, vl, vm, newL, i2D, absD, tupleD, dLM, dLM0, dFld, getF, dGet1, dGet2, getK, dSetIx, rng1, rng2, dFor1, dFor2, dFor, dForK, eqR, rs, dstart, List.map_cons, List.map_nil, List.length_cons, List.length_nil, List.cons_append, List.nil_append, List.replicate, List.getElem?_cons_zero, List.getElem?_cons_succ, List.set_cons_zero, List.set_cons_succ, Option.isSome_some, Option.isNone_some, Option.isNone_none, Nat.add_one_sub_one, Nat.reduceAdd, Nat.reduceSub, Nat.sub_self, Nat.sub_zero, Bool.not_true, Bool.not_false, ↓reduceIte, Bool.false_eq_true, okD_int, okD_bl, okD_non, dEq_int, dEq_bl, Bool.true_xor, Bool.false_xor, Bool.not_eq_true', decide_eq_true_eq, decide_eq_false_iff_not, true_and, Bool.and_true, Bool.and_false, Bool.true_and, Bool.false_and, at_0, at_1, at_2, cast0, cast1, cast2, cast3, not_true_eq_false, not_false_eq_true, eL, Option.map_some, Option.map_none, dEq_tab, okD_tab, okD_str hR, dEq_str, decide_true]
  refine ⟨_, _, some R.2, some R.2, rfl, rdAt_lst _ _, rdAt_ref su_same, ?_⟩
  simp only [dSeq, dIfS, dB, dOp, dVar, dCB, dCons, dNil, dRet, dRetN, dNext, dC, dAsg, dgN, dgT, dgSeq, dDrop, dCont, dAndT, dOrT, dNotT, dAndV, dOrV, dNotV, dIf, dIsN, dNotN, dNeg, dLst, dTup, dNewI, dCall, dMeth, dMake, dRaise, dFrz, dIsi, isiK, tyS, inst_NoneType_bool, inst_NoneType_int, inst_NoneType_str, inst_NoneType_list, inst_NoneType_tuple, inst_bool_bool, inst_bool_int, inst_bool_str, inst_bool_list, inst_bool_tuple, inst_int_bool, inst_int_int, inst_int_str, inst_int_list, inst_int_tuple, inst_str_bool, inst_str_int, inst_str_str, inst_str_list, inst_str_tuple, inst_list_bool, inst_list_int, inst_list_str, inst_list_list, inst_list_tuple, inst_tuple_bool, inst_tuple_int, inst_tuple_str, inst_tuple_list, inst_tuple_tuple, iiD, iiD0, subD, mulD, fdivD, modD, shrD, powD, ltI, leI, gtI, geI, addI, addD, catD, scatD, lenD, lenS, ixD, ixL, ixLK, ixK, vl, vm, newL, i2D, absD, tupleD, dLM, dLM0, dFld, getF, dGet1, dGet2, getK, dSetIx, rng1, rng2, dFor1, dFor2, dFor, dForK, eqR, rs, dstart, List.map_cons, List.map_nil, List.length_cons, List.length_nil, List.cons_append, List.nil_append, List.replicate, List.getElem?_cons_zero, List.getElem?_cons_succ, List.set_cons_zero, List.set_cons_succ, Option.isSome_some, Option.isNone_some, Option.isNone_none, Nat.add_one_sub_one, Nat.reduceAdd, Nat.reduceSub, Nat.sub_self, Nat.sub_zero, Bool.not_true, Bool.not_false, ↓reduceIte, Bool.false_eq_true, okD_int, okD_bl, okD_non, dEq_int, dEq_bl, Bool.true_xor, Bool.false_xor, Bool.not_eq_true', decide_eq_true_eq, decide_eq_false_iff_not, true_and, Bool.and_true, Bool.and_false, Bool.true_and, Bool.false_and, at_0, at_1, at_2, cast0, cast1, cast2, cast3, not_true_eq_false, not_false_eq_true, eL, Option.map_some, Option.map_none, decide_true]
  refine ⟨_, tab, -1, rfl, rfl, ht, by omega, by omega, ?_⟩
  simp only [dSeq, dIfS, dB, dOp, dVar, dCB, dCons, dNil, dRet, dRetN, dNext, dC, dAsg, dgN, dgT, dgSeq, dDrop, dCont, dAndT, dOrT, dNotT, dAndV, dOrV, dNotV, dIf, dIsN, dNotN, dNeg, dLst, dTup, dNewI, dCall, dMeth, dMake, dRaise, dFrz, dIsi, isiK, tyS, inst_NoneType_bool, inst_NoneType_int, inst_NoneType_str, inst_NoneType_list, inst_NoneType_tuple, inst_bool_bool, inst_bool_int, inst_bool_str, inst_bool_list, inst_bool_tuple, inst_int_bool, inst_int_int, inst_int_str, inst_int_list, inst_int_tuple, inst_str_bool, inst_str_int, inst_str_str, inst_str_list, inst_str_tuple, inst_list_bool, inst_list_int, inst_list_str, inst_list_list, inst_list_tuple, inst_tuple_bool, inst_tuple_int, inst_tuple_str, inst_tuple_list, inst_tuple_tuple, iiD, iiD0, subD, mulD, fdivD, modD, shrD, powD, ltI, leI, gtI, geI, addI, addD, catD, scatD, lenD, lenS, ixD, ixL, ixLK, ixK, vl, vm, newL, i2D, absD, tupleD, dLM, dLM0, dFld, getF, dGet1, dGet2, getK, dSetIx, rng1, rng2, dFor1, dFor2, dFor, dForK, eqR, rs, dstart, List.map_cons, List.map_nil, List.length_cons, List.length_nil, List.cons_append, List.nil_append, List.replicate, List.getElem?_cons_zero, List.getElem?_cons_succ, List.set_cons_zero, List.set_cons_succ, Option.isSome_some, Option.isNone_some, Option.isNone_none, Nat.add_one_sub_one, Nat.reduceAdd, Nat.reduceSub, Nat.sub_self, Nat.sub_zero, Bool.not_true, Bool.not_false, ↓reduceIte, Bool.false_eq_true, okD_int, okD_bl, okD_non, dEq_int, dEq_bl, Bool.true_xor, Bool.false_xor, Bool.not_eq_true', decide_eq_true_eq, decide_eq_false_iff_not, true_and, Bool.and_true, Bool.and_false, Bool.true_and, Bool.false_and, at_0, at_1, at_2, cast0, cast1, cast2, cast3, not_true_eq_false, not_false_eq_true, eL, Option.map_some, Option.map_none, x_law_cell_at, Int.reduceLE]
  exact ⟨by decide, _, tab, _, rfl, rfl, ht, by omega, by omega, rt_le (SLe.su hp) q⟩
theorem k06_5 (K : PySem.W.Frag) (a : CA) (S : Sto) (Q : D → Sto → Prop) (E : Addr → Sto → Prop) (q : Q (.bl true) S) (ns : List Int) (size : Nat) (tab : List (Option (List Int))) (ht : Nexts tab) (hl : tab.length = size) (hs : 1 ≤ size ∧ size ≤ 60) (house : Int) (h0 : 0 ≤ house) (h1 : house < size) (o5 : Option D) :
    t_k06_law_5 K a (wishOf E) (endsOf Q) [some (.scr ns), some (.int size), some (.lst (tab.map (eO eR))), some (.int house), some (.lst (tab.map (eO eR))), o5, none, none, none] S := by
  simp only [t_k06_law_5, dSeq, dIfS, dB, dOp, dVar, dCB, dCons, dNil, dRet, dRetN, dNext, dC, dAsg, dgN, dgT, dgSeq, dDrop, dCont, dAndT, dOrT, dNotT, dAndV, dOrV, dNotV, dIf, dIsN, dNotN, dNeg, dLst, dTup, dNewI, dCall, dMeth, dMake, dRaise, dFrz, dIsi, isiK, tyS, inst_NoneType_bool, inst_NoneType_int, inst_NoneType_str, inst_NoneType_list, inst_NoneType_tuple, inst_bool_bool, inst_bool_int, inst_bool_str, inst_bool_list, inst_bool_tuple, inst_int_bool, inst_int_int, inst_int_str, inst_int_list, inst_int_tuple, inst_str_bool, inst_str_int, inst_str_str, inst_str_list, inst_str_tuple, inst_list_bool, inst_list_int, inst_list_str, inst_list_list, inst_list_tuple, inst_tuple_bool, inst_tuple_int, inst_tuple_str, inst_tuple_list, inst_tuple_tuple, iiD, iiD0, subD, mulD, fdivD, modD, shrD, powD, ltI, leI, gtI, geI, addI, addD, catD, scatD, lenD, lenS, ixD, ixL, ixLK, ixK, vl, vm, newL, i2D, absD, tupleD, dLM, dLM0, dFld, getF, dGet1, dGet2, getK, dSetIx, rng1, rng2, dFor1, dFor2, dFor, dForK, eqR, rs, dstart, List.map_cons, List.map_nil, List.length_cons, List.length_nil, List.cons_append, List.nil_append, List.replicate, List.getElem?_cons_zero, List.getElem?_cons_succ, List.set_cons_zero, List.set_cons_succ, Option.isSome_some, Option.isNone_some, Option.isNone_none, Nat.add_one_sub_one, Nat.reduceAdd, Nat.reduceSub, Nat.sub_self, Nat.sub_zero, Bool.not_true, Bool.not_false, ↓reduceIte, Bool.false_eq_true, okD_int, okD_bl, okD_non, dEq_int, dEq_bl, Bool.true_xor, Bool.false_xor, Bool.not_eq_true', decide_eq_true_eq, decide_eq_false_iff_not, true_and, Bool.and_true, Bool.and_false, Bool.true_and, Bool.false_and, at_0, at_1, at_2, cast0, cast1, cast2, cast3, not_true_eq_false, not_false_eq_true, eL, Option.map_some, Option.map_none]
  refine ⟨_, tab, house, rfl, rfl, ht, by omega, ?_⟩
  rw [if_pos (by omega)]
  refine ⟨by decide, fun p hp => ?_⟩
  refine dWh_ind (fun ρ S' => ∃ (gone : List Int) (c : Int) (word : Str) (o : Option D), ρ = [some (.scr ns), some (.int size), some (.lst (tab.map (eO eR))), some (.int house), some (.lst (tab.map (eO eR))), o, some (.tup [.str (walkOf tab house).1, .lst ((walkOf tab house).2.map .int)]), some (.ref p), some (.str word)] ∧
    S' = su S p (.ml ((gone ++ [c]).map .int)) ∧ ((word = "comes" ∧ ∃ k, walkGo tab k (gone ++ [c]) c = walkOf tab house ∧ k + gone.length = size + 1 ∧ (gone ++ [c]).Nodup ∧ (∀ g ∈ gone ++ [c], 0 ≤ g ∧ g < (tab.length : Nat))) ∨ (word ≠ "comes" ∧ walkOf tab house = (word, gone ++ [c]) ∧ PyData.strOk word = true)))
    (fun ρ S' => 2 * (size + 2 - ((cellL S' (.ref p)).map (·.2.length)).getD 0) + wordOn ρ[8]?) ?_ _ _ ⟨[], house, "comes", _, rfl, rfl, .inl ⟨rfl, tab.length + 1, rfl, by rw [hl]; simp, nodup_one _, by simp; omega⟩⟩
  rintro ρ S' N ⟨gone, c, word, o, rfl, rfl, hI⟩ hN
  have hword : PyData.strOk word = true := by
    rcases hI with ⟨z, _⟩ | ⟨_, _, z⟩
    · rw [z]; decide +kernel
    · exact z
  have hok : okD (.str word) = true := okD_str hword
  have hokC : okD (.str "comes") = true := okD_str (by decide +kernel)
  have hexit : walkOf tab house = (word, gone ++ [c]) → t_k06_law_9 K a (wishOf E) (endsOf Q) [some (.scr ns), some (.int size), some (.lst (tab.map (eO eR))), some (.int house), some (.lst (tab.map (eO eR))), o, some (.tup [.str (walkOf tab house).1, .lst ((walkOf tab house).2.map .int)]), some (.ref p), some (.str word)] (su S p (.ml (gone.map .int ++ [.int c]))) := fun e => by
    rw [e]
    have := k06_9 K a S Q E q ns size tab ht hl hs (.int house) (word, gone ++ [c]) hword o p hp
    simp only [List.map_append, List.map_cons, List.map_nil] at this ⊢
    exact this
  rcases hI with ⟨rfl, k, hw, hk, hd, hr⟩ | ⟨hne, hw, _⟩
  · have hg := nodup_le _ _ hd hr
    rw [List.length_append, List.length_singleton] at hg
    obtain ⟨k, rfl⟩ : ∃ j, k = j + 1 := ⟨k - 1, by omega⟩
    rw [walkGo] at hw
    obtain ⟨hc0, hc1⟩ := hr c (by simp)
    by_cases c3 : c = 0
    · rw [if_pos c3] at hw
      simp only [dSeq, dIfS, dB, dOp, dVar, dCB, dCons, dNil, dRet, dRetN, dNext, dC, dAsg, dgN, dgT, dgSeq, dDrop, dCont, dAndT, dOrT, dNotT, dAndV, dOrV, dNotV, dIf, dIsN, dNotN, dNeg, dLst, dTup, dNewI, dCall, dMeth, dMake, dRaise, dFrz, dIsi, isiK, tyS, inst_NoneType_bool, inst_NoneType_int, inst_NoneType_str, inst_NoneType_list, inst_NoneType_tuple, inst_bool_bool, inst_bool_int, inst_bool_str, inst_bool_list, inst_bool_tuple, inst_int_bool, inst_int_int, inst_int_str, inst_int_list, inst_int_tuple, inst_str_bool, inst_str_int, inst_str_str, inst_str_list, inst_str_tuple, inst_list_bool, inst_list_int, inst_list_str, inst_list_list, inst_list_tuple, inst_tuple_bool, inst_tuple_int, inst_tuple_str, inst_tuple_list, inst_tuple_tuple, iiD, iiD0, subD, mulD, fdivD, modD, shrD, powD, ltI, leI, gtI, geI, addI, addD, catD, scatD, lenD, lenS, ixD, ixL, ixLK, ixK, vl, vm, newL, i2D, absD, tupleD, dLM, dLM0, dFld, getF, dGet1, dGet2, getK, dSetIx, rng1, rng2, dFor1, dFor2, dFor, dForK, eqR, rs, dstart, List.map_cons, List.map_nil, List.length_cons, List.length_nil, List.cons_append, List.nil_append, List.replicate, List.getElem?_cons_zero, List.getElem?_cons_succ, List.set_cons_zero, List.set_cons_succ, Option.isSome_some, Option.isNone_some, Option.isNone_none, Nat.add_one_sub_one, Nat.reduceAdd, Nat.reduceSub, Nat.sub_self, Nat.sub_zero, Bool.not_true, Bool.not_false, ↓reduceIte, Bool.false_eq_true, okD_int, okD_bl, okD_non, dEq_int, dEq_bl, Bool.true_xor, Bool.false_xor, Bool.not_eq_true', decide_eq_true_eq, decide_eq_false_iff_not, true_and, Bool.and_true, Bool.and_false, Bool.true_and, Bool.false_and, at_0, at_1, at_2, cast0, cast1, cast2, cast3, not_true_eq_false, not_false_eq_true, eL, Option.map_some, Option.map_none, su_same, List.map_append, getLast_snoc, c3]
      rw [c3] at hexit
      exact hexit (by rw [← hw, c3])
    rw [if_neg c3] at hw
    have hA : atI (tab.map (eO eR)) c = some (eO eR (tab.getD c.toNat none)) := by
      rw [atI_map, atI_pos hc0 hc1, List.getD_eq_getElem?_getD, List.getElem?_eq_getElem (by omega)]; rfl
    cases et : tab.getD c.toNat none with
    | none =>
      rw [et] at hA hw
      simp only [eO] at hA
      simp only [dSeq, dIfS, dB, dOp, dVar, dCB, dCons, dNil, dRet, dRetN, dNext, dC, dAsg, dgN, dgT, dgSeq, dDrop, dCont, dAndT, dOrT, dNotT, dAndV, dOrV, dNotV, dIf, dIsN, dNotN, dNeg, dLst, dTup, dNewI, dCall, dMeth, dMake, dRaise, dFrz, dIsi, isiK, tyS, inst_NoneType_bool, inst_NoneType_int, inst_NoneType_str, inst_NoneType_list, inst_NoneType_tuple, inst_bool_bool, inst_bool_int, inst_bool_str, inst_bool_list, inst_bool_tuple, inst_int_bool, inst_int_int, inst_int_str, inst_int_list, inst_int_tuple, inst_str_bool, inst_str_int, inst_str_str, inst_str_list, inst_str_tuple, inst_list_bool, inst_list_int, inst_list_str, inst_list_list, inst_list_tuple, inst_tuple_bool, inst_tuple_int, inst_tuple_str, inst_tuple_list, inst_tuple_tuple, iiD, iiD0, subD, mulD, fdivD, modD, shrD, powD, ltI, leI, gtI, geI, addI, addD, catD, scatD, lenD, lenS, ixD, ixL, ixLK, ixK, vl, vm, newL, i2D, absD, tupleD, dLM, dLM0, dFld, getF, dGet1, dGet2, getK, dSetIx, rng1, rng2, dFor1, dFor2, dFor, dForK, eqR, rs, dstart, List.map_cons, List.map_nil, List.length_cons, List.length_nil, List.cons_append, List.nil_append, List.replicate, List.getElem?_cons_zero, List.getElem?_cons_succ, List.set_cons_zero, List.set_cons_succ, Option.isSome_some, Option.isNone_some, Option.isNone_none, Nat.add_one_sub_one, Nat.reduceAdd, Nat.reduceSub, Nat.sub_self, Nat.sub_zero, Bool.not_true, Bool.not_false, ↓reduceIte, Bool.false_eq_true, okD_int, okD_bl, okD_non, dEq_int, dEq_bl, Bool.true_xor, Bool.false_xor, Bool.not_eq_true', decide_eq_true_eq, decide_eq_false_iff_not, true_and, Bool.and_true, Bool.and_false, Bool.true_and, Bool.false_and, at_0, at_1, at_2, cast0, cast1, cast2, cast3, not_true_eq_false, not_false_eq_true, eL, Option.map_some, Option.map_none, su_same, List.map_append, getLast_snoc, c3, dEq_str, hok, hokC, decide_true, hA]
      refine hN _ _ ⟨gone, c, _, _, rfl, ?_, .inr ⟨by decide +kernel, hw.symm, by decide +kernel⟩⟩ ?_
      · rw [List.map_append]; rfl
      · simp only [cellL, su_same, List.map_append, Option.map_some, Option.getD_some, List.getElem?_cons_zero, List.getElem?_cons_succ, ↓reduceIte]
        show _ + (if ("stops" : Str) = "comes" then 1 else 0) < _ + (if ("comes" : Str) = "comes" then 1 else 0)
        rw [if_neg (show ¬ (("stops" : Str) = "comes") by decide +kernel), if_pos rfl]
        exact Nat.lt_succ_self _
    | some r =>
      rw [et] at hA hw
      simp only [eO, eL] at hA
      have e3 : tab[c.toNat]? = some (some r) := by
        rw [List.getD_eq_getElem?_getD] at et
        rw [List.getElem?_eq_getElem (by omega)] at et ⊢
        exact congrArg some et
      obtain ⟨b1, b2, b3⟩ := ht c.toNat r (by omega) e3
      have hB : atI (r.map D.int) 1 = some (.int (r.getD 1 0)) := by
        rw [atI_map, atI_pos (by decide) (by omega), List.getD_eq_getElem?_getD, List.getElem?_eq_getElem (by omega)]; rfl
      have hC : (gone.map D.int ++ [.int c]) = (gone ++ [c]).map .int := by rw [List.map_append]; rfl
      simp only at hw
      simp only [dSeq, dIfS, dB, dOp, dVar, dCB, dCons, dNil, dRet, dRetN, dNext, dC, dAsg, dgN, dgT, dgSeq, dDrop, dCont, dAndT, dOrT, dNotT, dAndV, dOrV, dNotV, dIf, dIsN, dNotN, dNeg, dLst, dTup, dNewI, dCall, dMeth, dMake, dRaise, dFrz, dIsi, isiK, tyS, inst_NoneType_bool, inst_NoneType_int, inst_NoneType_str, inst_NoneType_list, inst_NoneType_tuple, inst_bool_bool, inst_bool_int, inst_bool_str, inst_bool_list, inst_bool_tuple, inst_int_bool, inst_int_int, inst_int_str, inst_int_list, inst_int_tuple, inst_str_bool, inst_str_int, inst_str_str, inst_str_list, inst_str_tuple, inst_list_bool, inst_list_int, inst_list_str, inst_list_list, inst_list_tuple, inst_tuple_bool, inst_tuple_int, inst_tuple_str, inst_tuple_list, inst_tuple_tuple, iiD, iiD0, subD, mulD, fdivD, modD, shrD, powD, ltI, leI, gtI, geI, addI, addD, catD, scatD, lenD, lenS, ixD, ixL, ixLK, ixK, vl, vm, newL, i2D, absD, tupleD, dLM, dLM0, dFld, getF, dGet1, dGet2, getK, dSetIx, rng1, rng2, dFor1, dFor2, dFor, dForK, eqR, rs, dstart, List.map_cons, List.map_nil, List.length_cons, List.length_nil, List.cons_append, List.nil_append, List.replicate, List.getElem?_cons_zero, List.getElem?_cons_succ, List.set_cons_zero, List.set_cons_succ, Option.isSome_some, Option.isNone_some, Option.isNone_none, Nat.add_one_sub_one, Nat.reduceAdd, Nat.reduceSub, Nat.sub_self, Nat.sub_zero, Bool.not_true, Bool.not_false, ↓reduceIte, Bool.false_eq_true, okD_int, okD_bl, okD_non, dEq_int, dEq_bl, Bool.true_xor, Bool.false_xor, Bool.not_eq_true', decide_eq_true_eq, decide_eq_false_iff_not, true_and, Bool.and_true, Bool.and_false, Bool.true_and, Bool.false_and, at_0, at_1, at_2, cast0, cast1, cast2, cast3, not_true_eq_false, not_false_eq_true, eL, Option.map_some, Option.map_none, su_same, List.map_append, getLast_snoc, c3, dEq_str, hok, hokC, decide_true, hA, hB, inR, inL]
      rw [hC]
      simp only [any_int]
      refine ⟨okD_R _, ?_⟩
      by_cases c4 : r.getD 1 0 ∈ gone ++ [c]
      · rw [if_pos c4] at hw
        rw [if_pos (by simpa using c4)]
        refine hN _ _ ⟨gone, c, _, _, rfl, ?_, .inr ⟨by decide +kernel, hw.symm, by decide +kernel⟩⟩ ?_
        · rfl
        · simp only [cellL, su_same, List.map_append, Option.map_some, Option.getD_some, List.getElem?_cons_zero, List.getElem?_cons_succ, ↓reduceIte]
          show _ + (if ("rings" : Str) = "comes" then 1 else 0) < _ + (if ("comes" : Str) = "comes" then 1 else 0)
          rw [if_neg (show ¬ (("rings" : Str) = "comes") by decide +kernel), if_pos rfl]
          exact Nat.lt_succ_self _
      · rw [if_neg c4] at hw
        rw [if_neg (by simpa using c4)]
        refine append_at su_same (by rw [List.length_map, List.length_append]; simp [sizeLine]; omega) ?_
        rw [su_su, show (gone ++ [c]).map D.int ++ [.int (r.getD 1 0)] = ((gone ++ [c]) ++ [r.getD 1 0]).map .int by rw [List.map_append (l₁ := gone ++ [c])]; rfl]
        refine hN _ _ ⟨gone ++ [c], r.getD 1 0, _, _, rfl, rfl, .inl ⟨rfl, k, hw, by rw [List.length_append, List.length_singleton]; omega, ?_, fun g hg => ?_⟩⟩ ?_
        · rw [List.nodup_append]
          exact ⟨hd, nodup_one _, fun x hx y hy z => c4 (by rw [List.mem_singleton.mp hy] at z; rw [← z]; exact hx)⟩
        · rcases List.mem_append.mp hg with hg | hg
          · exact hr g hg
          · rw [List.mem_singleton.mp hg]; exact ⟨b2, b3⟩
        · simp only [cellL, su_same, Option.map_some, Option.getD_some, List.getElem?_cons_zero, List.getElem?_cons_succ, List.length_map, List.length_append, List.length_singleton, ↓reduceIte]
          omega
  · simp only [dSeq, dIfS, dB, dOp, dVar, dCB, dCons, dNil, dRet, dRetN, dNext, dC, dAsg, dgN, dgT, dgSeq, dDrop, dCont, dAndT, dOrT, dNotT, dAndV, dOrV, dNotV, dIf, dIsN, dNotN, dNeg, dLst, dTup, dNewI, dCall, dMeth, dMake, dRaise, dFrz, dIsi, isiK, tyS, inst_NoneType_bool, inst_NoneType_int, inst_NoneType_str, inst_NoneType_list, inst_NoneType_tuple, inst_bool_bool, inst_bool_int, inst_bool_str, inst_bool_list, inst_bool_tuple, inst_int_bool, inst_int_int, inst_int_str, inst_int_list, inst_int_tuple, inst_str_bool, inst_str_int, inst_str_str, inst_str_list, inst_str_tuple, inst_list_bool, inst_list_int, inst_list_str, inst_list_list, inst_list_tuple, inst_tuple_bool, inst_tuple_int, inst_tuple_str, inst_tuple_list, inst_tuple_tuple, iiD, iiD0, subD, mulD, fdivD, modD, shrD, powD, ltI, leI, gtI, geI, addI, addD, catD, scatD, lenD, lenS, ixD, ixL, ixLK, ixK, vl, vm, newL, i2D, absD, tupleD, dLM, dLM0, dFld, getF, dGet1, dGet2, getK, dSetIx, rng1, rng2, dFor1, dFor2, dFor, dForK, eqR, rs, dstart, List.map_cons, List.map_nil, List.length_cons, List.length_nil, List.cons_append, List.nil_append, List.replicate, List.getElem?_cons_zero, List.getElem?_cons_succ, List.set_cons_zero, List.set_cons_succ, Option.isSome_some, Option.isNone_some, Option.isNone_none, Nat.add_one_sub_one, Nat.reduceAdd, Nat.reduceSub, Nat.sub_self, Nat.sub_zero, Bool.not_true, Bool.not_false, ↓reduceIte, Bool.false_eq_true, okD_int, okD_bl, okD_non, dEq_int, dEq_bl, Bool.true_xor, Bool.false_xor, Bool.not_eq_true', decide_eq_true_eq, decide_eq_false_iff_not, true_and, Bool.and_true, Bool.and_false, Bool.true_and, Bool.false_and, at_0, at_1, at_2, cast0, cast1, cast2, cast3, not_true_eq_false, not_false_eq_true, eL, Option.map_some, Option.map_none, su_same, List.map_append, getLast_snoc, dEq_str, hok, hokC, hne, decide_false]
    split
    · exact hexit hw
    · exact hexit hw
theorem read_k06_law (K : PySem.W.Frag) (a : CA) (ds : List D) (S : Sto) (Q : D → Sto → Prop) (E : Addr → Sto → Prop) (h : sp_k06_law a ds S Q E) : t_k06_law K a (wishOf E) (endsOf Q) (dstart N_k06_law ds) S := by
  obtain ⟨ns, rfl, hl, q⟩ := h
  have key : ∀ size : Nat, 1 ≤ size → size ≤ 60 → t_k06_law_2 K a (wishOf E) (endsOf Q) [some (D.scr ns), some (D.int size), none, none, none, none, none, none, none] S := by
    intro size hs1 hs2
    simp only [t_k06_law_2, dSeq, dIfS, dB, dOp, dVar, dCB, dCons, dNil, dRet, dRetN, dNext, dC, dAsg, dgN, dgT, dgSeq, dDrop, dCont, dAndT, dOrT, dNotT, dAndV, dOrV, dNotV, dIf, dIsN, dNotN, dNeg, dLst, dTup, dNewI, dCall, dMeth, dMake, dRaise, dFrz, dIsi, isiK, tyS, inst_NoneType_bool, inst_NoneType_int, inst_NoneType_str, inst_NoneType_list, inst_NoneType_tuple, inst_bool_bool, inst_bool_int, inst_bool_str, inst_bool_list, inst_bool_tuple, inst_int_bool, inst_int_int, inst_int_str, inst_int_list, inst_int_tuple, inst_str_bool, inst_str_int, inst_str_str, inst_str_list, inst_str_tuple, inst_list_bool, inst_list_int, inst_list_str, inst_list_list, inst_list_tuple, inst_tuple_bool, inst_tuple_int, inst_tuple_str, inst_tuple_list, inst_tuple_tuple, iiD, iiD0, subD, mulD, fdivD, modD, shrD, powD, ltI, leI, gtI, geI, addI, addD, catD, scatD, lenD, lenS, ixD, ixL, ixLK, ixK, vl, vm, newL, i2D, absD, tupleD, dLM, dLM0, dFld, getF, dGet1, dGet2, getK, dSetIx, rng1, rng2, dFor1, dFor2, dFor, dForK, eqR, rs, dstart, List.map_cons, List.map_nil, List.length_cons, List.length_nil, List.cons_append, List.nil_append, List.replicate, List.getElem?_cons_zero, List.getElem?_cons_succ, List.set_cons_zero, List.set_cons_succ, Option.isSome_some, Option.isNone_some, Option.isNone_none, Nat.add_one_sub_one, Nat.reduceAdd, Nat.reduceSub, Nat.sub_self, Nat.sub_zero, Bool.not_true, Bool.not_false, ↓reduceIte, Bool.false_eq_true, okD_int, okD_bl, okD_non, dEq_int, dEq_bl, Bool.true_xor, Bool.false_xor, Bool.not_eq_true', decide_eq_true_eq, decide_eq_false_iff_not, true_and, Bool.and_true, Bool.and_false, Bool.true_and, Bool.false_and, at_0, at_1, at_2, cast0, cast1, cast2, cast3, not_true_eq_false, not_false_eq_true, eL, Option.map_some, Option.map_none]
    refine ⟨ns, size, rfl, hs1, hs2, ?_⟩
    have hl : (tabUpto ns size (size - 1)).length = size := by rw [tabUpto_len]; omega
    have ht := nexts_tab ns size hs1
    generalize tabUpto ns size (size - 1) = tab at hl ht
    simp only [t_k06_law_3, dSeq, dIfS, dB, dOp, dVar, dCB, dCons, dNil, dRet, dRetN, dNext, dC, dAsg, dgN, dgT, dgSeq, dDrop, dCont, dAndT, dOrT, dNotT, dAndV, dOrV, dNotV, dIf, dIsN, dNotN, dNeg, dLst, dTup, dNewI, dCall, dMeth, dMake, dRaise, dFrz, dIsi, isiK, tyS, inst_NoneType_bool, inst_NoneType_int, inst_NoneType_str, inst_NoneType_list, inst_NoneType_tuple, inst_bool_bool, inst_bool_int, inst_bool_str, inst_bool_list, inst_bool_tuple, inst_int_bool, inst_int_int, inst_int_str, inst_int_list, inst_int_tuple, inst_str_bool, inst_str_int, inst_str_str, inst_str_list, inst_str_tuple, inst_list_bool, inst_list_int, inst_list_str, inst_list_list, inst_list_tuple, inst_tuple_bool, inst_tuple_int, inst_tuple_str, inst_tuple_list, inst_tuple_tuple, iiD, iiD0, subD, mulD, fdivD, modD, shrD, powD, ltI, leI, gtI, geI, addI, addD, catD, scatD, lenD, lenS, ixD, ixL, ixLK, ixK, vl, vm, newL, i2D, absD, tupleD, dLM, dLM0, dFld, getF, dGet1, dGet2, getK, dSetIx, rng1, rng2, dFor1, dFor2, dFor, dForK, eqR, rs, dstart, List.map_cons, List.map_nil, List.length_cons, List.length_nil, List.cons_append, List.nil_append, List.replicate, List.getElem?_cons_zero, List.getElem?_cons_succ, List.set_cons_zero, List.set_cons_succ, Option.isSome_some, Option.isNone_some, Option.isNone_none, Nat.add_one_sub_one, Nat.reduceAdd, Nat.reduceSub, Nat.sub_self, Nat.sub_zero, Bool.not_true, Bool.not_false, ↓reduceIte, Bool.false_eq_true, okD_int, okD_bl, okD_non, dEq_int, dEq_bl, Bool.true_xor, Bool.false_xor, Bool.not_eq_true', decide_eq_true_eq, decide_eq_false_iff_not, true_and, Bool.and_true, Bool.and_false, Bool.true_and, Bool.false_and, at_0, at_1, at_2, cast0, cast1, cast2, cast3, not_true_eq_false, not_false_eq_true, eL, Option.map_some, Option.map_none, x_law_cell_at, Int.reduceLE]
    refine ⟨by omega, ?_⟩
    have h0 : 0 ≤ cellAt ns 1 % (size : Int) := Int.emod_nonneg _ (by omega)
    have h1 : cellAt ns 1 % (size : Int) < size := Int.emod_lt_of_pos _ (by omega)
    generalize cellAt ns 1 % (size : Int) = house at h0 h1
    simp only [dLc, diL, diLk, dSeq, dIfS, dB, dOp, dVar, dCB, dCons, dNil, dRet, dRetN, dNext, dC, dAsg, dgN, dgT, dgSeq, dDrop, dCont, dAndT, dOrT, dNotT, dAndV, dOrV, dNotV, dIf, dIsN, dNotN, dNeg, dLst, dTup, dNewI, dCall, dMeth, dMake, dRaise, dFrz, dIsi, isiK, tyS, inst_NoneType_bool, inst_NoneType_int, inst_NoneType_str, inst_NoneType_list, inst_NoneType_tuple, inst_bool_bool, inst_bool_int, inst_bool_str, inst_bool_list, inst_bool_tuple, inst_int_bool, inst_int_int, inst_int_str, inst_int_list, inst_int_tuple, inst_str_bool, inst_str_int, inst_str_str, inst_str_list, inst_str_tuple, inst_list_bool, inst_list_int, inst_list_str, inst_list_list, inst_list_tuple, inst_tuple_bool, inst_tuple_int, inst_tuple_str, inst_tuple_list, inst_tuple_tuple, iiD, iiD0, subD, mulD, fdivD, modD, shrD, powD, ltI, leI, gtI, geI, addI, addD, catD, scatD, lenD, lenS, ixD, ixL, ixLK, ixK, vl, vm, newL, i2D, absD, tupleD, dLM, dLM0, dFld, getF, dGet1, dGet2, getK, dSetIx, rng1, rng2, dFor1, dFor2, dFor, dForK, eqR, rs, dstart, List.map_cons, List.map_nil, List.length_cons, List.length_nil, List.cons_append, List.nil_append, List.replicate, List.getElem?_cons_zero, List.getElem?_cons_succ, List.set_cons_zero, List.set_cons_succ, Option.isSome_some, Option.isNone_some, Option.isNone_none, Nat.add_one_sub_one, Nat.reduceAdd, Nat.reduceSub, Nat.sub_self, Nat.sub_zero, Bool.not_true, Bool.not_false, ↓reduceIte, Bool.false_eq_true, okD_int, okD_bl, okD_non, dEq_int, dEq_bl, Bool.true_xor, Bool.false_xor, Bool.not_eq_true', decide_eq_true_eq, decide_eq_false_iff_not, true_and, Bool.and_true, Bool.and_false, Bool.true_and, Bool.false_and, at_0, at_1, at_2, cast0, cast1, cast2, cast3, not_true_eq_false, not_false_eq_true, eL, Option.map_some, Option.map_none]
    refine lc_all (m := false) (eO eR) (eO eR) (by rw [hl]; simp [sizeLine]; omega) (fun _ _ => trivial) (fun r _ S' Y _ y => ?_) (k06_5 K a S Q E q ns size tab ht hl ⟨hs1, hs2⟩ house h0 h1 _)
    simp only [dSeq, dIfS, dB, dOp, dVar, dCB, dCons, dNil, dRet, dRetN, dNext, dC, dAsg, dgN, dgT, dgSeq, dDrop, dCont, dAndT, dOrT, dNotT, dAndV, dOrV, dNotV, dIf, dIsN, dNotN, dNeg, dLst, dTup, dNewI, dCall, dMeth, dMake, dRaise, dFrz, dIsi, isiK, tyS, inst_NoneType_bool, inst_NoneType_int, inst_NoneType_str, inst_NoneType_list, inst_NoneType_tuple, inst_bool_bool, inst_bool_int, inst_bool_str, inst_bool_list, inst_bool_tuple, inst_int_bool, inst_int_int, inst_int_str, inst_int_list, inst_int_tuple, inst_str_bool, inst_str_int, inst_str_str, inst_str_list, inst_str_tuple, inst_list_bool, inst_list_int, inst_list_str, inst_list_list, inst_list_tuple, inst_tuple_bool, inst_tuple_int, inst_tuple_str, inst_tuple_list, inst_tuple_tuple, iiD, iiD0, subD, mulD, fdivD, modD, shrD, powD, ltI, leI, gtI, geI, addI, addD, catD, scatD, lenD, lenS, ixD, ixL, ixLK, ixK, vl, vm, newL, i2D, absD, tupleD, dLM, dLM0, dFld, getF, dGet1, dGet2, getK, dSetIx, rng1, rng2, dFor1, dFor2, dFor, dForK, eqR, rs, dstart, List.map_cons, List.map_nil, List.length_cons, List.length_nil, List.cons_append, List.nil_append, List.replicate, List.getElem?_cons_zero, List.getElem?_cons_succ, List.set_cons_zero, List.set_cons_succ, Option.isSome_some, Option.isNone_some, Option.isNone_none, Nat.add_one_sub_one, Nat.reduceAdd, Nat.reduceSub, Nat.sub_self, Nat.sub_zero, Bool.not_true, Bool.not_false, ↓reduceIte, Bool.false_eq_true, okD_int, okD_bl, okD_non, dEq_int, dEq_bl, Bool.true_xor, Bool.false_xor, Bool.not_eq_true', decide_eq_true_eq, decide_eq_false_iff_not, true_and, Bool.and_true, Bool.and_false, Bool.true_and, Bool.false_and, at_0, at_1, at_2, cast0, cast1, cast2, cast3, not_true_eq_false, not_false_eq_true, eL, Option.map_some, Option.map_none, wipeD]
    cases r with
    | none => simp only [eO, dSeq, dIfS, dB, dOp, dVar, dCB, dCons, dNil, dRet, dRetN, dNext, dC, dAsg, dgN, dgT, dgSeq, dDrop, dCont, dAndT, dOrT, dNotT, dAndV, dOrV, dNotV, dIf, dIsN, dNotN, dNeg, dLst, dTup, dNewI, dCall, dMeth, dMake, dRaise, dFrz, dIsi, isiK, tyS, inst_NoneType_bool, inst_NoneType_int, inst_NoneType_str, inst_NoneType_list, inst_NoneType_tuple, inst_bool_bool, inst_bool_int, inst_bool_str, inst_bool_list, inst_bool_tuple, inst_int_bool, inst_int_int, inst_int_str, inst_int_list, inst_int_tuple, inst_str_bool, inst_str_int, inst_str_str, inst_str_list, inst_str_tuple, inst_list_bool, inst_list_int, inst_list_str, inst_list_list, inst_list_tuple, inst_tuple_bool, inst_tuple_int, inst_tuple_str, inst_tuple_list, inst_tuple_tuple, iiD, iiD0, subD, mulD, fdivD, modD, shrD, powD, ltI, leI, gtI, geI, addI, addD, catD, scatD, lenD, lenS, ixD, ixL, ixLK, ixK, vl, vm, newL, i2D, absD, tupleD, dLM, dLM0, dFld, getF, dGet1, dGet2, getK, dSetIx, rng1, rng2, dFor1, dFor2, dFor, dForK, eqR, rs, dstart, List.map_cons, List.map_nil, List.length_cons, List.length_nil, List.cons_append, List.nil_append, List.replicate, List.getElem?_cons_zero, List.getElem?_cons_succ, List.set_cons_zero, List.set_cons_succ, Option.isSome_some, Option.isNone_some, Option.isNone_none, Nat.add_one_sub_one, Nat.reduceAdd, Nat.reduceSub, Nat.sub_self, Nat.sub_zero, Bool.not_true, Bool.not_false, ↓reduceIte, Bool.false_eq_true, okD_int, okD_bl, okD_non, dEq_int, dEq_bl, Bool.true_xor, Bool.false_xor, Bool.not_eq_true', decide_eq_true_eq, decide_eq_false_iff_not, true_and, Bool.and_true, Bool.and_false, Bool.true_and, Bool.false_and, at_0, at_1, at_2, cast0, cast1, cast2, cast3, not_true_eq_false, not_false_eq_true, eL, Option.map_some, Option.map_none]; exact y
    | some r => simp only [eO, dSeq, dIfS, dB, dOp, dVar, dCB, dCons, dNil, dRet, dRetN, dNext, dC, dAsg, dgN, dgT, dgSeq, dDrop, dCont, dAndT, dOrT, dNotT, dAndV, dOrV, dNotV, dIf, dIsN, dNotN, dNeg, dLst, dTup, dNewI, dCall, dMeth, dMake, dRaise, dFrz, dIsi, isiK, tyS, inst_NoneType_bool, inst_NoneType_int, inst_NoneType_str, inst_NoneType_list, inst_NoneType_tuple, inst_bool_bool, inst_bool_int, inst_bool_str, inst_bool_list, inst_bool_tuple, inst_int_bool, inst_int_int, inst_int_str, inst_int_list, inst_int_tuple, inst_str_bool, inst_str_int, inst_str_str, inst_str_list, inst_str_tuple, inst_list_bool, inst_list_int, inst_list_str, inst_list_list, inst_list_tuple, inst_tuple_bool, inst_tuple_int, inst_tuple_str, inst_tuple_list, inst_tuple_tuple, iiD, iiD0, subD, mulD, fdivD, modD, shrD, powD, ltI, leI, gtI, geI, addI, addD, catD, scatD, lenD, lenS, ixD, ixL, ixLK, ixK, vl, vm, newL, i2D, absD, tupleD, dLM, dLM0, dFld, getF, dGet1, dGet2, getK, dSetIx, rng1, rng2, dFor1, dFor2, dFor, dForK, eqR, rs, dstart, List.map_cons, List.map_nil, List.length_cons, List.length_nil, List.cons_append, List.nil_append, List.replicate, List.getElem?_cons_zero, List.getElem?_cons_succ, List.set_cons_zero, List.set_cons_succ, Option.isSome_some, Option.isNone_some, Option.isNone_none, Nat.add_one_sub_one, Nat.reduceAdd, Nat.reduceSub, Nat.sub_self, Nat.sub_zero, Bool.not_true, Bool.not_false, ↓reduceIte, Bool.false_eq_true, okD_int, okD_bl, okD_non, dEq_int, dEq_bl, Bool.true_xor, Bool.false_xor, Bool.not_eq_true', decide_eq_true_eq, decide_eq_false_iff_not, true_and, Bool.and_true, Bool.and_false, Bool.true_and, Bool.false_and, at_0, at_1, at_2, cast0, cast1, cast2, cast3, not_true_eq_false, not_false_eq_true, eL, Option.map_some, Option.map_none, listD]; exact y
  simp only [t_k06_law, N_k06_law, dSeq, dIfS, dB, dOp, dVar, dCB, dCons, dNil, dRet, dRetN, dNext, dC, dAsg, dgN, dgT, dgSeq, dDrop, dCont, dAndT, dOrT, dNotT, dAndV, dOrV, dNotV, dIf, dIsN, dNotN, dNeg, dLst, dTup, dNewI, dCall, dMeth, dMake, dRaise, dFrz, dIsi, isiK, tyS, inst_NoneType_bool, inst_NoneType_int, inst_NoneType_str, inst_NoneType_list, inst_NoneType_tuple, inst_bool_bool, inst_bool_int, inst_bool_str, inst_bool_list, inst_bool_tuple, inst_int_bool, inst_int_int, inst_int_str, inst_int_list, inst_int_tuple, inst_str_bool, inst_str_int, inst_str_str, inst_str_list, inst_str_tuple, inst_list_bool, inst_list_int, inst_list_str, inst_list_list, inst_list_tuple, inst_tuple_bool, inst_tuple_int, inst_tuple_str, inst_tuple_list, inst_tuple_tuple, iiD, iiD0, subD, mulD, fdivD, modD, shrD, powD, ltI, leI, gtI, geI, addI, addD, catD, scatD, lenD, lenS, ixD, ixL, ixLK, ixK, vl, vm, newL, i2D, absD, tupleD, dLM, dLM0, dFld, getF, dGet1, dGet2, getK, dSetIx, rng1, rng2, dFor1, dFor2, dFor, dForK, eqR, rs, dstart, List.map_cons, List.map_nil, List.length_cons, List.length_nil, List.cons_append, List.nil_append, List.replicate, List.getElem?_cons_zero, List.getElem?_cons_succ, List.set_cons_zero, List.set_cons_succ, Option.isSome_some, Option.isNone_some, Option.isNone_none, Nat.add_one_sub_one, Nat.reduceAdd, Nat.reduceSub, Nat.sub_self, Nat.sub_zero, Bool.not_true, Bool.not_false, ↓reduceIte, Bool.false_eq_true, okD_int, okD_bl, okD_non, dEq_int, dEq_bl, Bool.true_xor, Bool.false_xor, Bool.not_eq_true', decide_eq_true_eq, decide_eq_false_iff_not, true_and, Bool.and_true, Bool.and_false, Bool.true_and, Bool.false_and, at_0, at_1, at_2, cast0, cast1, cast2, cast3, not_true_eq_false, not_false_eq_true, eL, Option.map_some, Option.map_none, x_law_cell_at, Int.reduceLE]
  refine ⟨by decide, ⟨by decide, by decide⟩, by decide, ?_⟩
  split
  · exact key 60 (by decide) (by decide)
  · have := key (1 + cellAt ns 0 % 8).toNat (by omega) (by omega)
    rw [show ((1 + cellAt ns 0 % 8).toNat : Int) = 1 + cellAt ns 0 % 8 by omega] at this
    exact this

end DL
namespace DL
open PySem L2
def top (i : Nat) : Stmt := PySem.Challenge.pw_heraldways_k06_a_walk.main.body.getD i (.Pass ⟨0, 0, 0, 0⟩)
abbrev s_walk : Stmt := top 4
abbrev s_law_cell_at : Stmt := top 6
abbrev s_law_whole : Stmt := top 7
abbrev s_law_same_road : Stmt := top 8
abbrev s_law_road_by : Stmt := top 9
abbrev s_law_table_by : Stmt := top 10
abbrev s_k06_law_no_house : Stmt := top 11
abbrev s_k06_law : Stmt := top 12
structure Ad where
  c : CA
  f_walk : Addr
  d_walk : FuncData
  f_law_cell_at : Addr
  d_law_cell_at : FuncData
  f_law_whole : Addr
  d_law_whole : FuncData
  f_law_same_road : Addr
  d_law_same_road : FuncData
  f_law_road_by : Addr
  d_law_road_by : FuncData
  f_law_table_by : Addr
  d_law_table_by : FuncData
  f_k06_law_no_house : Addr
  d_k06_law_no_house : FuncData
  f_k06_law : Addr
  d_k06_law : FuncData
structure Txt (K : PySem.W.Frag) (mg : Str → Option Value) (a : Ad) : Prop where
  d_walk : DefT K mg "walk" s_walk ["table", "house"] a.f_walk a.d_walk
  d_law_cell_at : DefT K mg "_law_cell_at" s_law_cell_at ["script", "k"] a.f_law_cell_at a.d_law_cell_at
  d_law_whole : DefT K mg "_law_whole" s_law_whole ["found"] a.f_law_whole a.d_law_whole
  d_law_same_road : DefT K mg "_law_same_road" s_law_same_road ["found", "due"] a.f_law_same_road a.d_law_same_road
  d_law_road_by : DefT K mg "_law_road_by" s_law_road_by ["cell", "house", "size"] a.f_law_road_by a.d_law_road_by
  d_law_table_by : DefT K mg "_law_table_by" s_law_table_by ["script", "size"] a.f_law_table_by a.d_law_table_by
  d_k06_law_no_house : DefT K mg "_law_no_house" s_k06_law_no_house ["table", "house"] a.f_k06_law_no_house a.d_k06_law_no_house
  d_k06_law : DefT K mg "law" s_k06_law ["script"] a.f_k06_law a.d_k06_law
  n_bool : mg "bool" = none
  n_int : mg "int" = none
  n_isinstance : mg "isinstance" = none
  n_len : mg "len" = none
  n_list : mg "list" = none
  n_range : mg "range" = none
  n_str : mg "str" = none
  n_tuple : mg "tuple" = none
  x_GuildError : ExcT K mg "GuildError" a.c.GuildError
  x_NoHouse : ExcT K mg "NoHouse" a.c.NoHouse
  ex : ExK K a.c
theorem sc_walk : FnScope N_walk ["table", "house"] (defScope s_walk) := ⟨rfl, rfl, rfl, by decide +kernel, rfl, by decide +kernel, by decide +kernel⟩
theorem ok_walk {P : Program} {w : World} {K : PySem.W.Frag} {mg : Str → Option Value} {base : Heap} {a : Ad} (T : Txt K mg a) : FnOk P w K mg base (L2.CX P w) 1 a.f_walk a.d_walk ["table", "house"] (upSp K (sp_walk a.c)) :=
  def_ok (t := t_walk K a.c) T.d_walk.F sc_walk (len_walk a.c) (fun cdv A outer s H E G0 W hr tk po =>
  (dss_cons (ds_if (dt_w (dw_or (dt_lt (dv 1) de_int) (dw_or1 (dt_ge (dv 1) (de_len T.n_len (da_cons (dv 0) da_nil))))))
    (dss_one (ds_raise rfl tk (T.x_NoHouse.mk' rfl)))
    dss_nil)
  (dss_cons (ds_set 2 sc_walk.nd (de_lst true (da_cons (dv 1) da_nil)))
  (dss_cons (ds_while po (dt_ne hr (dv 1) de_int)
    (dss_cons (ds_set 3 sc_walk.nd (de_at hr (dv 0) (dv 1)))
    (dss_cons (ds_if (dt_isN (dv 3))
      (dss_one (ds_ret (de_tup (da_cons de_str (da_cons (de_frz (dv 2)) da_nil)))))
      dss_nil)
    (dss_cons (ds_set 1 sc_walk.nd (de_at hr (dv 3) de_int))
    (dss_cons (ds_if (dt_in hr (dv 1) (dv 2))
      (dss_one (ds_ret (de_tup (da_cons de_str (da_cons (de_frz (dv 2)) da_nil)))))
      dss_nil)
    (dss_one (ds_expr (de_lm PySem.F.slot_list_append PySem.F.type_list_append mt_append lift_append (dv 2) (da_cons (dv 1) da_nil)))))))))
  (dss_one (ds_ret (de_tup (da_cons de_str (da_cons (de_frz (dv 2)) da_nil)))))))))
  (read_walk K a.c)
theorem sc_law_cell_at : FnScope N_law_cell_at ["script", "k"] (defScope s_law_cell_at) := ⟨rfl, rfl, rfl, by decide +kernel, rfl, by decide +kernel, by decide +kernel⟩
theorem ok_law_cell_at {P : Program} {w : World} {K : PySem.W.Frag} {mg : Str → Option Value} {base : Heap} {a : Ad} (T : Txt K mg a) : FnOk P w K mg base (L2.CX P w) 1 a.f_law_cell_at a.d_law_cell_at ["script", "k"] (upSp K (sp_law_cell_at a.c)) :=
  def_ok (t := t_law_cell_at K a.c) T.d_law_cell_at.F sc_law_cell_at (len_law_cell_at a.c) (fun cdv A outer s H E G0 W hr tk po =>
  (dss_cons (ds_if (dt_lt (dv 1) (de_len T.n_len (da_cons (dv 0) da_nil)))
    (dss_one (ds_ret (de_at hr (dv 0) (dv 1))))
    dss_nil)
  (dss_one (ds_ret de_int))))
  (read_law_cell_at K a.c)
theorem sc_law_whole : FnScope N_law_whole ["found"] (defScope s_law_whole) := ⟨rfl, rfl, rfl, by decide +kernel, rfl, by decide +kernel, by decide +kernel⟩
theorem ok_law_whole {P : Program} {w : World} {K : PySem.W.Frag} {mg : Str → Option Value} {base : Heap} {a : Ad} (T : Txt K mg a) : FnOk P w K mg base (L2.CX P w) 1 a.f_law_whole a.d_law_whole ["found"] (upSp K (sp_law_whole a.c)) :=
  def_ok (t := t_law_whole K a.c) T.d_law_whole.F sc_law_whole (len_law_whole a.c) (fun cdv A outer s H E G0 W hr tk po =>
  (dss_one (ds_ret (de_and (de_isi "int" (by decide) T.n_isinstance T.n_int (dv 0) (by decide +kernel)) (de_one (de_not (de_isi "bool" (by decide) T.n_isinstance T.n_bool (dv 0) (by decide +kernel))))))))
  (read_law_whole K a.c)
theorem sc_law_same_road : FnScope N_law_same_road ["found", "due"] (defScope s_law_same_road) := ⟨rfl, rfl, rfl, by decide +kernel, rfl, by decide +kernel, by decide +kernel⟩
theorem ok_law_same_road {P : Program} {w : World} {K : PySem.W.Frag} {mg : Str → Option Value} {base : Heap} {a : Ad} (T : Txt K mg a) : FnOk P w K mg base (L2.CX P w) 2 a.f_law_same_road a.d_law_same_road ["found", "due"] (upSp K (sp_law_same_road a.c)) :=
  def_ok (t := t_law_same_road K a.c) T.d_law_same_road.F sc_law_same_road (len_law_same_road a.c) (fun cdv A outer s H E G0 W hr tk po =>
  (dss_cons (ds_if (dt_isN (dv 1))
    (dss_one (ds_ret (de_isN (dv 0))))
    dss_nil)
  (dss_cons (ds_if (dt_w (dw_or (dt_not (dt_val (de_isi "list" (by decide) T.n_isinstance T.n_list (dv 0) (by decide +kernel)))) (dw_or1 (dt_ne hr (de_len T.n_len (da_cons (dv 0) da_nil)) (de_len T.n_len (da_cons (dv 1) da_nil))))))
    (dss_one (ds_ret de_bl))
    dss_nil)
  (dss_cons (ds_for po rfl tk (dv 0) (pg_name (i := 2) sc_law_same_road.nd rfl (by first | exact Or.inl rfl | exact Or.inr rfl)) lift_gN (fun _ tk =>
    (dss_one (ds_if (dt_not (dt_val (de_call (ok_law_whole T) (hr.mono (by decide)) T.d_law_whole.g T.d_law_whole.F.kp T.d_law_whole.b tk (da_cons (dv 2) da_nil))))
      (dss_one (ds_ret de_bl))
      dss_nil))))
  (dss_one (ds_ret (de_eq hr (dv 0) (dv 1))))))))
  (read_law_same_road K a.c)
theorem sc_law_road_by : FnScope N_law_road_by ["cell", "house", "size"] (defScope s_law_road_by) := ⟨rfl, rfl, rfl, by decide +kernel, rfl, by decide +kernel, by decide +kernel⟩
theorem ok_law_road_by {P : Program} {w : World} {K : PySem.W.Frag} {mg : Str → Option Value} {base : Heap} {a : Ad} (T : Txt K mg a) : FnOk P w K mg base (L2.CX P w) 1 a.f_law_road_by a.d_law_road_by ["cell", "house", "size"] (upSp K (sp_law_road_by a.c)) :=
  def_ok (t := t_law_road_by K a.c) T.d_law_road_by.F sc_law_road_by (len_law_road_by a.c) (fun cdv A outer s H E G0 W hr tk po =>
  (dss_cons (ds_setLc (own := [("far", 4)]) 3 true rfl sc_law_road_by.nd rfl rfl (sw_true rfl rfl rfl (by decide +kernel)) (pi_range2 rfl T.n_range (da_cons de_int (da_cons (dv 2) da_nil))) lift_iR2 lift_gN wipeG_name (blkOk_by (own := [("far", 4)]) (N := N_law_road_by) (sc := defScope s_law_road_by) (by decide +kernel)) (fun _ _ _ _ _ => pg_name (i := 4) sc_law_road_by.nd rfl (Or.inl rfl)) (fun _ _ _ _ _ _ tk => dts_one (dt_ne hr (dv 4) (dv 1))) (fun _ _ _ _ _ _ tk => (dv 4)))
  (dss_cons (ds_set 5 sc_law_road_by.nd (de_lst true (da_cons (dv 1) da_nil)))
  (dss_cons (ds_set 6 sc_law_road_by.nd (de_mod (dv 0) de_int))
  (dss_cons (ds_if (dt_eq hr (de_mod (de_fdiv (dv 0) de_int) de_int) de_int)
    (dss_one (ds_set 6 sc_law_road_by.nd (dv 2)))
    dss_nil)
  (dss_cons (ds_set 0 sc_law_road_by.nd (de_fdiv (dv 0) de_int))
  (dss_cons (ds_while po (dt_w (dw_and (dt_gt (dv 6) de_int) (dw_and1 (dt_gt (de_len T.n_len (da_cons (dv 3) da_nil)) de_int))))
    (dss_cons (ds_expr (de_lm PySem.F.slot_list_append PySem.F.type_list_append mt_append lift_append (dv 5) (da_cons (de_lm PySem.F.slot_list_pop PySem.F.type_list_pop mt_popAt lift_popAt (dv 3) (da_cons (de_mod (dv 0) (de_len T.n_len (da_cons (dv 3) da_nil))) da_nil)) da_nil)))
    (dss_cons (ds_set 0 sc_law_road_by.nd (de_fdiv (dv 0) de_int))
    (dss_one (ds_set 6 sc_law_road_by.nd (de_sub (dv 6) de_int))))))
  (dss_one (ds_ret (de_add false (dv 5) (de_lst false (da_cons de_int da_nil))))))))))))
  (read_law_road_by K a.c)
theorem sc_law_table_by : FnScope N_law_table_by ["script", "size"] (defScope s_law_table_by) := ⟨rfl, rfl, rfl, by decide +kernel, rfl, by decide +kernel, by decide +kernel⟩
theorem ok_law_table_by {P : Program} {w : World} {K : PySem.W.Frag} {mg : Str → Option Value} {base : Heap} {a : Ad} (T : Txt K mg a) : FnOk P w K mg base (L2.CX P w) 2 a.f_law_table_by a.d_law_table_by ["script", "size"] (upSp K (sp_law_table_by a.c)) :=
  def_ok (t := t_law_table_by K a.c) T.d_law_table_by.F sc_law_table_by (len_law_table_by a.c) (fun cdv A outer s H E G0 W hr tk po =>
  (dss_cons (ds_set 2 sc_law_table_by.nd (de_lst true (da_cons (de_lst false (da_cons de_int da_nil)) da_nil)))
  (dss_cons (ds_for2 po rfl tk T.n_range (da_cons de_int (da_cons (dv 1) da_nil)) (pg_name (i := 3) sc_law_table_by.nd rfl (by first | exact Or.inl rfl | exact Or.inr rfl)) lift_gN (fun _ tk =>
    (dss_cons (ds_set 4 sc_law_table_by.nd (de_add false (de_call (ok_law_cell_at T) (hr.mono (by decide)) T.d_law_cell_at.g T.d_law_cell_at.F.kp T.d_law_cell_at.b tk (da_cons (dv 0) (da_cons (de_add false de_int (de_mod (dv 3) de_int)) da_nil))) (de_mul (dv 3) (de_call (ok_law_cell_at T) (hr.mono (by decide)) T.d_law_cell_at.g T.d_law_cell_at.F.kp T.d_law_cell_at.b tk (da_cons (dv 0) (da_cons de_int da_nil))))))
    (dss_one (ds_if (dt_eq hr (de_mod (dv 4) de_int) de_int)
      (dss_one (ds_expr (de_lm PySem.F.slot_list_append PySem.F.type_list_append mt_append lift_append (dv 2) (da_cons de_non da_nil))))
      (dss_one (ds_expr (de_lm PySem.F.slot_list_append PySem.F.type_list_append mt_append lift_append (dv 2) (da_cons (de_call (ok_law_road_by T) (hr.mono (by decide)) T.d_law_road_by.g T.d_law_road_by.F.kp T.d_law_road_by.b tk (da_cons (de_fdiv (dv 4) de_int) (da_cons (dv 3) (da_cons (dv 1) da_nil)))) da_nil)))))))))
  (dss_one (ds_ret (de_frz (dv 2)))))))
  (read_law_table_by K a.c)
theorem sc_k06_law_no_house : FnScope N_k06_law_no_house ["table", "house"] (defScope s_k06_law_no_house) := ⟨rfl, rfl, rfl, by decide +kernel, rfl, by decide +kernel, by decide +kernel⟩
theorem ok_k06_law_no_house {P : Program} {w : World} {K : PySem.W.Frag} {mg : Str → Option Value} {base : Heap} {a : Ad} (T : Txt K mg a) : FnOk P w K mg base (L2.CX P w) 2 a.f_k06_law_no_house a.d_k06_law_no_house ["table", "house"] (upSp K (sp_k06_law_no_house a.c)) :=
  def_ok (t := t_k06_law_no_house K a.c) T.d_k06_law_no_house.F sc_k06_law_no_house (len_k06_law_no_house a.c) (fun cdv A outer s H E G0 W hr tk po =>
  (dss_cons (ds_set 2 sc_k06_law_no_house.nd de_bl)
  (dss_cons (ds_try_as 3 rfl rfl sc_k06_law_no_house.nd rfl rfl ⟨rfl, by decide, .inl T.x_NoHouse.g⟩ tk
    (fun W pn xe tk po => (dss_one (ds_expr (de_call (ok_walk T) (hr.mono (by decide)) T.d_walk.g T.d_walk.F.kp T.d_walk.b tk (da_cons (dv 0) (da_cons (dv 1) da_nil))))))
    (fun x oe C pn hz hf => (dss_one (ds_set 2 sc_k06_law_no_house.nd (de_isE hz hf T.n_isinstance (da_cons (dv 3) (da_cons (de_cls rfl T.x_GuildError.g) da_nil)))))))
  (dss_one (ds_ret (dv 2))))))
  (read_k06_law_no_house K a.c T.ex)
theorem sc_k06_law : FnScope N_k06_law ["script"] (defScope s_k06_law) := ⟨rfl, rfl, rfl, by decide +kernel, rfl, by decide +kernel, by decide +kernel⟩
theorem ok_k06_law {P : Program} {w : World} {K : PySem.W.Frag} {mg : Str → Option Value} {base : Heap} {a : Ad} (T : Txt K mg a) : FnOk P w K mg base (L2.CX P w) 3 a.f_k06_law a.d_k06_law ["script"] (upSp K (sp_k06_law a.c)) :=
  def_ok (t := t_k06_law K a.c) T.d_k06_law.F sc_k06_law (len_k06_law a.c) (fun cdv A outer s H E G0 W hr tk po =>
  (dss_cons (ds_set 1 sc_k06_law.nd (de_add false de_int (de_mod (de_call (ok_law_cell_at T) (hr.mono (by decide)) T.d_law_cell_at.g T.d_law_cell_at.F.kp T.d_law_cell_at.b tk (da_cons (dv 0) (da_cons de_int da_nil))) de_int)))
  (dss_cons (ds_if (dt_eq hr (de_mod (de_fdiv (de_call (ok_law_cell_at T) (hr.mono (by decide)) T.d_law_cell_at.g T.d_law_cell_at.F.kp T.d_law_cell_at.b tk (da_cons (dv 0) (da_cons de_int da_nil))) de_int) de_int) de_int)
    (dss_one (ds_set 1 sc_k06_law.nd de_int))
    dss_nil)
  (dss_cons (ds_set 2 sc_k06_law.nd (de_call (ok_law_table_by T) (hr.mono (by decide)) T.d_law_table_by.g T.d_law_table_by.F.kp T.d_law_table_by.b tk (da_cons (dv 0) (da_cons (dv 1) da_nil))))
  (dss_cons (ds_set 3 sc_k06_law.nd (de_mod (de_call (ok_law_cell_at T) (hr.mono (by decide)) T.d_law_cell_at.g T.d_law_cell_at.F.kp T.d_law_cell_at.b tk (da_cons (dv 0) (da_cons de_int da_nil))) (dv 1)))
  (dss_cons (ds_setLc (own := [("road", 5)]) 4 false rfl sc_k06_law.nd rfl rfl (sw_true rfl rfl rfl (by decide +kernel)) (pi_list (dv 2)) lift_iL lift_gN wipeG_name (blkOk_by (own := [("road", 5)]) (N := N_k06_law) (sc := defScope s_k06_law) (by decide +kernel)) (fun _ _ _ _ _ => pg_name (i := 5) sc_k06_law.nd rfl (Or.inl rfl)) (fun _ _ _ _ _ _ _ => dts_nil) (fun _ _ _ _ _ _ tk => (de_if (dt_isN (dv 5)) de_non (de_list false rfl T.n_list (da_cons (dv 5) da_nil)))))
  (dss_cons (ds_set 6 sc_k06_law.nd (de_call (ok_walk T) (hr.mono (by decide)) T.d_walk.g T.d_walk.F.kp T.d_walk.b tk (da_cons (dv 4) (da_cons (dv 3) da_nil))))
  (dss_cons (ds_set 7 sc_k06_law.nd (de_lst true (da_cons (dv 3) da_nil)))
  (dss_cons (ds_set 8 sc_k06_law.nd de_str)
  (dss_cons (ds_while po (dt_w (dw_and (dt_ne hr (de_at hr (dv 7) (de_neg de_int)) de_int) (dw_and1 (dt_eq hr (dv 8) de_str))))
    (dss_cons (ds_set 5 sc_k06_law.nd (de_at hr (dv 2) (de_at hr (dv 7) (de_neg de_int))))
    (dss_one (ds_if (dt_isN (dv 5))
      (dss_one (ds_set 8 sc_k06_law.nd de_str))
      (dss_one (ds_if (dt_in hr (de_at hr (dv 5) de_int) (dv 7))
        (dss_one (ds_set 8 sc_k06_law.nd de_str))
        (dss_one (ds_expr (de_lm PySem.F.slot_list_append PySem.F.type_list_append mt_append lift_append (dv 7) (da_cons (de_at hr (dv 5) de_int) da_nil))))))))))
  (dss_cons (ds_if (dt_w (dw_or (dt_ne hr (dv 4) (dv 2)) (dw_or (dt_not (dt_val (de_isi "tuple" (by decide) T.n_isinstance T.n_tuple (dv 6) (by decide +kernel)))) (dw_or1 (dt_ne hr (de_len T.n_len (da_cons (dv 6) da_nil)) de_int)))))
    (dss_one (ds_ret de_bl))
    dss_nil)
  (dss_cons (ds_if (dt_w (dw_or (dt_not (dt_val (de_isi "str" (by decide) T.n_isinstance T.n_str (de_at hr (dv 6) de_int) (by decide +kernel)))) (dw_or (dt_ne hr (de_at hr (dv 6) de_int) (dv 8)) (dw_or1 (dt_not (dt_val (de_call (ok_law_same_road T) (hr.mono (by decide)) T.d_law_same_road.g T.d_law_same_road.F.kp T.d_law_same_road.b tk (da_cons (de_at hr (dv 6) de_int) (da_cons (dv 7) da_nil)))))))))
    (dss_one (ds_ret de_bl))
    dss_nil)
  (dss_one (ds_ret (de_and (de_call (ok_k06_law_no_house T) (hr.mono (by decide)) T.d_k06_law_no_house.g T.d_k06_law_no_house.F.kp T.d_k06_law_no_house.b tk (da_cons (dv 2) (da_cons (de_neg de_int) da_nil))) (de_one (de_call (ok_k06_law_no_house T) (hr.mono (by decide)) T.d_k06_law_no_house.g T.d_k06_law_no_house.F.kp T.d_k06_law_no_house.b tk (da_cons (dv 2) (da_cons (de_add false (dv 1) (de_mod (de_call (ok_law_cell_at T) (hr.mono (by decide)) T.d_law_cell_at.g T.d_law_cell_at.F.kp T.d_law_cell_at.b tk (da_cons (dv 0) (da_cons de_int da_nil))) de_int)) da_nil)))))))))))))))))))
  (read_k06_law K a.c)
theorem all_mk {l : PySem.W.OpenLaw} {w : World} {K : PySem.W.Frag} {h : Heap} {mg : Str → Option Value} {fa : Addr} (X : K.In h) (G : h.Ns mainGlobals mg) (hfa : mg "law" = some (.ref fa))
    {C_GuildError C_NoHouse f_walk f_law_cell_at f_law_whole f_law_same_road f_law_road_by f_law_table_by f_k06_law_no_house f_k06_law : Addr}
    {od_walk an_walk od_law_cell_at an_law_cell_at od_law_whole an_law_whole od_law_same_road an_law_same_road od_law_road_by an_law_road_by od_law_table_by an_law_table_by od_k06_law_no_house an_k06_law_no_house od_k06_law an_k06_law : Option Addr}
    {sl_walk sl_law_cell_at sl_law_whole sl_law_same_road sl_law_road_by sl_law_table_by sl_k06_law_no_house sl_k06_law : Array (Option Value)}
    {oc_walk kV_walk dc_walk pm_walk cd_walk ct_walk oc_law_cell_at kV_law_cell_at dc_law_cell_at pm_law_cell_at cd_law_cell_at ct_law_cell_at oc_law_whole kV_law_whole dc_law_whole pm_law_whole cd_law_whole ct_law_whole oc_law_same_road kV_law_same_road dc_law_same_road pm_law_same_road cd_law_same_road ct_law_same_road oc_law_road_by kV_law_road_by dc_law_road_by pm_law_road_by cd_law_road_by ct_law_road_by oc_law_table_by kV_law_table_by dc_law_table_by pm_law_table_by cd_law_table_by ct_law_table_by oc_k06_law_no_house kV_k06_law_no_house dc_k06_law_no_house pm_k06_law_no_house cd_k06_law_no_house ct_k06_law_no_house oc_k06_law kV_k06_law dc_k06_law pm_k06_law cd_k06_law ct_k06_law : Value}
    (g_GuildError : PySem.W.nsIn K mainGlobals "GuildError" = some (some (.ref C_GuildError)))
    (g_NoHouse : PySem.W.nsIn K mainGlobals "NoHouse" = some (some (.ref C_NoHouse)))
    (a_walk : PySem.W.nsIn K mainGlobals "walk" = some (some (.ref f_walk)))
    (l_walk : K.lookup f_walk = some ⟨oc_walk, od_walk, .func (PySem.W.fnOf "walk" "walk" (defArgs s_walk) (defBody s_walk) (defScope s_walk) .none kV_walk dc_walk pm_walk an_walk cd_walk ct_walk), sl_walk⟩)
    (c_walk : PySem.W.codeIn K cd_walk "walk" = true)
    (k_walk : PySem.W.keepIn K (.ref f_walk) = true)
    (a_law_cell_at : PySem.W.nsIn K mainGlobals "_law_cell_at" = some (some (.ref f_law_cell_at)))
    (l_law_cell_at : K.lookup f_law_cell_at = some ⟨oc_law_cell_at, od_law_cell_at, .func (PySem.W.fnOf "_law_cell_at" "_law_cell_at" (defArgs s_law_cell_at) (defBody s_law_cell_at) (defScope s_law_cell_at) .none kV_law_cell_at dc_law_cell_at pm_law_cell_at an_law_cell_at cd_law_cell_at ct_law_cell_at), sl_law_cell_at⟩)
    (c_law_cell_at : PySem.W.codeIn K cd_law_cell_at "_law_cell_at" = true)
    (k_law_cell_at : PySem.W.keepIn K (.ref f_law_cell_at) = true)
    (a_law_whole : PySem.W.nsIn K mainGlobals "_law_whole" = some (some (.ref f_law_whole)))
    (l_law_whole : K.lookup f_law_whole = some ⟨oc_law_whole, od_law_whole, .func (PySem.W.fnOf "_law_whole" "_law_whole" (defArgs s_law_whole) (defBody s_law_whole) (defScope s_law_whole) .none kV_law_whole dc_law_whole pm_law_whole an_law_whole cd_law_whole ct_law_whole), sl_law_whole⟩)
    (c_law_whole : PySem.W.codeIn K cd_law_whole "_law_whole" = true)
    (k_law_whole : PySem.W.keepIn K (.ref f_law_whole) = true)
    (a_law_same_road : PySem.W.nsIn K mainGlobals "_law_same_road" = some (some (.ref f_law_same_road)))
    (l_law_same_road : K.lookup f_law_same_road = some ⟨oc_law_same_road, od_law_same_road, .func (PySem.W.fnOf "_law_same_road" "_law_same_road" (defArgs s_law_same_road) (defBody s_law_same_road) (defScope s_law_same_road) .none kV_law_same_road dc_law_same_road pm_law_same_road an_law_same_road cd_law_same_road ct_law_same_road), sl_law_same_road⟩)
    (c_law_same_road : PySem.W.codeIn K cd_law_same_road "_law_same_road" = true)
    (k_law_same_road : PySem.W.keepIn K (.ref f_law_same_road) = true)
    (a_law_road_by : PySem.W.nsIn K mainGlobals "_law_road_by" = some (some (.ref f_law_road_by)))
    (l_law_road_by : K.lookup f_law_road_by = some ⟨oc_law_road_by, od_law_road_by, .func (PySem.W.fnOf "_law_road_by" "_law_road_by" (defArgs s_law_road_by) (defBody s_law_road_by) (defScope s_law_road_by) .none kV_law_road_by dc_law_road_by pm_law_road_by an_law_road_by cd_law_road_by ct_law_road_by), sl_law_road_by⟩)
    (c_law_road_by : PySem.W.codeIn K cd_law_road_by "_law_road_by" = true)
    (k_law_road_by : PySem.W.keepIn K (.ref f_law_road_by) = true)
    (a_law_table_by : PySem.W.nsIn K mainGlobals "_law_table_by" = some (some (.ref f_law_table_by)))
    (l_law_table_by : K.lookup f_law_table_by = some ⟨oc_law_table_by, od_law_table_by, .func (PySem.W.fnOf "_law_table_by" "_law_table_by" (defArgs s_law_table_by) (defBody s_law_table_by) (defScope s_law_table_by) .none kV_law_table_by dc_law_table_by pm_law_table_by an_law_table_by cd_law_table_by ct_law_table_by), sl_law_table_by⟩)
    (c_law_table_by : PySem.W.codeIn K cd_law_table_by "_law_table_by" = true)
    (k_law_table_by : PySem.W.keepIn K (.ref f_law_table_by) = true)
    (a_k06_law_no_house : PySem.W.nsIn K mainGlobals "_law_no_house" = some (some (.ref f_k06_law_no_house)))
    (l_k06_law_no_house : K.lookup f_k06_law_no_house = some ⟨oc_k06_law_no_house, od_k06_law_no_house, .func (PySem.W.fnOf "_law_no_house" "_law_no_house" (defArgs s_k06_law_no_house) (defBody s_k06_law_no_house) (defScope s_k06_law_no_house) .none kV_k06_law_no_house dc_k06_law_no_house pm_k06_law_no_house an_k06_law_no_house cd_k06_law_no_house ct_k06_law_no_house), sl_k06_law_no_house⟩)
    (c_k06_law_no_house : PySem.W.codeIn K cd_k06_law_no_house "_law_no_house" = true)
    (k_k06_law_no_house : PySem.W.keepIn K (.ref f_k06_law_no_house) = true)
    (a_k06_law : PySem.W.nsIn K mainGlobals "law" = some (some (.ref f_k06_law)))
    (l_k06_law : K.lookup f_k06_law = some ⟨oc_k06_law, od_k06_law, .func (PySem.W.fnOf "law" "law" (defArgs s_k06_law) (defBody s_k06_law) (defScope s_k06_law) .none kV_k06_law dc_k06_law pm_k06_law an_k06_law cd_k06_law ct_k06_law), sl_k06_law⟩)
    (c_k06_law : PySem.W.codeIn K cd_k06_law "law" = true)
    (k_k06_law : PySem.W.keepIn K (.ref f_k06_law) = true)
    (z_bool : PySem.W.nsIn K mainGlobals "bool" = some none)
    (z_int : PySem.W.nsIn K mainGlobals "int" = some none)
    (z_isinstance : PySem.W.nsIn K mainGlobals "isinstance" = some none)
    (z_len : PySem.W.nsIn K mainGlobals "len" = some none)
    (z_list : PySem.W.nsIn K mainGlobals "list" = some none)
    (z_range : PySem.W.nsIn K mainGlobals "range" = some none)
    (z_str : PySem.W.nsIn K mainGlobals "str" = some none)
    (z_tuple : PySem.W.nsIn K mainGlobals "tuple" = some none)
    (xi_GuildError : PySem.W.excIn K C_GuildError [.type "ValueError", .type "Exception", .type "BaseException", .type "object"] "ValueError.__new__" = true)
    (kx_GuildError : PySem.W.keepIn K (.ref C_GuildError) = true)
    (bx_GuildError : PySem.W.subIn K (.ref C_GuildError) (.type "BaseException") = some true)
    (tx_GuildError : PySem.W.typeIn K (.ref C_GuildError) = some (.type "type"))
    (xi_NoHouse : PySem.W.excIn K C_NoHouse [.type "ValueError", .type "Exception", .type "BaseException", .type "object"] "ValueError.__new__" = true)
    (kx_NoHouse : PySem.W.keepIn K (.ref C_NoHouse) = true)
    (bx_NoHouse : PySem.W.subIn K (.ref C_NoHouse) (.type "BaseException") = some true)
    (tx_NoHouse : PySem.W.typeIn K (.ref C_NoHouse) = some (.type "type"))
    (q_n : PySem.W.specialIn K (.builtin "object.__class__") "__get__" = some (some (.builtin "getset_descriptor.__get__")))
    (q_t : PySem.W.takesIn K (.builtin "object.__class__") = some true)
    (q1_GuildError : PySem.W.findIn K (.ref C_GuildError) "__getattribute__" = some (some (.builtin "BaseException.__getattribute__")))
    (q2_GuildError : PySem.W.findIn K (.ref C_GuildError) "__getattr__" = some none)
    (q3_GuildError : PySem.W.hasDictIn K C_GuildError = true)
    (q4_GuildError : PySem.W.findIn K (.ref C_GuildError) "__class__" = some (some (.builtin "object.__class__")))
    (q5_GuildError : PySem.W.mroIn K C_GuildError (.type "object") = some true)
    (q1_NoHouse : PySem.W.findIn K (.ref C_NoHouse) "__getattribute__" = some (some (.builtin "BaseException.__getattribute__")))
    (q2_NoHouse : PySem.W.findIn K (.ref C_NoHouse) "__getattr__" = some none)
    (q3_NoHouse : PySem.W.hasDictIn K C_NoHouse = true)
    (q4_NoHouse : PySem.W.findIn K (.ref C_NoHouse) "__class__" = some (some (.builtin "object.__class__")))
    (q5_NoHouse : PySem.W.mroIn K C_NoHouse (.type "object") = some true)
    (su_GuildError_GuildError : PySem.W.subIn K (.ref C_GuildError) (.ref C_GuildError) = some true)
    (ki_GuildError_GuildError : PySem.W.kitOne K (.ref C_GuildError) (.ref C_GuildError) = some true)
    (su_GuildError_NoHouse : PySem.W.subIn K (.ref C_GuildError) (.ref C_NoHouse) = some false)
    (ki_GuildError_NoHouse : PySem.W.kitOne K (.ref C_GuildError) (.ref C_NoHouse) = some false)
    (kv_GuildError : PySem.W.kitOne K (.ref C_GuildError) (.type "ValueError") = some true)
    (su_NoHouse_GuildError : PySem.W.subIn K (.ref C_NoHouse) (.ref C_GuildError) = some true)
    (ki_NoHouse_GuildError : PySem.W.kitOne K (.ref C_NoHouse) (.ref C_GuildError) = some true)
    (su_NoHouse_NoHouse : PySem.W.subIn K (.ref C_NoHouse) (.ref C_NoHouse) = some true)
    (ki_NoHouse_NoHouse : PySem.W.kitOne K (.ref C_NoHouse) (.ref C_NoHouse) = some true)
    (kv_NoHouse : PySem.W.kitOne K (.ref C_NoHouse) (.type "ValueError") = some true)
    : ∃ fd : FuncData, (∀ (s : Shared) (v : Value), BindsTo s fd ⟨[v], []⟩ [("script", v)]) ∧ ∀ base : Heap, K.In base → base.Ns mainGlobals mg → FnOk l.prog w K mg base (L2.CX l.prog w) 3 fa fd ["script"] (upSp K (sp_k06_law (⟨0, 0, C_GuildError, C_NoHouse, 0, 0, 0, 0, 0, 0⟩ : CA))) := by
  have e := hfa.symm.trans (PySem.W.mg_of X G a_k06_law)
  cases e
  have F_walk := fun_mk (st := s_walk) l_walk c_walk k_walk
  have b_walk := F_walk.binds (ps := ["table", "house"]) fun _ _ _ _ _ _ us hl => match us, hl with | [_, _], _ => rfl
  have F_law_cell_at := fun_mk (st := s_law_cell_at) l_law_cell_at c_law_cell_at k_law_cell_at
  have b_law_cell_at := F_law_cell_at.binds (ps := ["script", "k"]) fun _ _ _ _ _ _ us hl => match us, hl with | [_, _], _ => rfl
  have F_law_whole := fun_mk (st := s_law_whole) l_law_whole c_law_whole k_law_whole
  have b_law_whole := F_law_whole.binds (ps := ["found"]) fun _ _ _ _ _ _ us hl => match us, hl with | [_], _ => rfl
  have F_law_same_road := fun_mk (st := s_law_same_road) l_law_same_road c_law_same_road k_law_same_road
  have b_law_same_road := F_law_same_road.binds (ps := ["found", "due"]) fun _ _ _ _ _ _ us hl => match us, hl with | [_, _], _ => rfl
  have F_law_road_by := fun_mk (st := s_law_road_by) l_law_road_by c_law_road_by k_law_road_by
  have b_law_road_by := F_law_road_by.binds (ps := ["cell", "house", "size"]) fun _ _ _ _ _ _ us hl => match us, hl with | [_, _, _], _ => rfl
  have F_law_table_by := fun_mk (st := s_law_table_by) l_law_table_by c_law_table_by k_law_table_by
  have b_law_table_by := F_law_table_by.binds (ps := ["script", "size"]) fun _ _ _ _ _ _ us hl => match us, hl with | [_, _], _ => rfl
  have F_k06_law_no_house := fun_mk (st := s_k06_law_no_house) l_k06_law_no_house c_k06_law_no_house k_k06_law_no_house
  have b_k06_law_no_house := F_k06_law_no_house.binds (ps := ["table", "house"]) fun _ _ _ _ _ _ us hl => match us, hl with | [_, _], _ => rfl
  have F_k06_law := fun_mk (st := s_k06_law) l_k06_law c_k06_law k_k06_law
  have b_k06_law := F_k06_law.binds (ps := ["script"]) fun _ _ _ _ _ _ us hl => match us, hl with | [_], _ => rfl
  have T : Txt K mg (⟨⟨0, 0, C_GuildError, C_NoHouse, 0, 0, 0, 0, 0, 0⟩, f_walk, PySem.W.fnOf "walk" "walk" (defArgs s_walk) (defBody s_walk) (defScope s_walk) .none kV_walk dc_walk pm_walk an_walk cd_walk ct_walk, f_law_cell_at, PySem.W.fnOf "_law_cell_at" "_law_cell_at" (defArgs s_law_cell_at) (defBody s_law_cell_at) (defScope s_law_cell_at) .none kV_law_cell_at dc_law_cell_at pm_law_cell_at an_law_cell_at cd_law_cell_at ct_law_cell_at, f_law_whole, PySem.W.fnOf "_law_whole" "_law_whole" (defArgs s_law_whole) (defBody s_law_whole) (defScope s_law_whole) .none kV_law_whole dc_law_whole pm_law_whole an_law_whole cd_law_whole ct_law_whole, f_law_same_road, PySem.W.fnOf "_law_same_road" "_law_same_road" (defArgs s_law_same_road) (defBody s_law_same_road) (defScope s_law_same_road) .none kV_law_same_road dc_law_same_road pm_law_same_road an_law_same_road cd_law_same_road ct_law_same_road, f_law_road_by, PySem.W.fnOf "_law_road_by" "_law_road_by" (defArgs s_law_road_by) (defBody s_law_road_by) (defScope s_law_road_by) .none kV_law_road_by dc_law_road_by pm_law_road_by an_law_road_by cd_law_road_by ct_law_road_by, f_law_table_by, PySem.W.fnOf "_law_table_by" "_law_table_by" (defArgs s_law_table_by) (defBody s_law_table_by) (defScope s_law_table_by) .none kV_law_table_by dc_law_table_by pm_law_table_by an_law_table_by cd_law_table_by ct_law_table_by, f_k06_law_no_house, PySem.W.fnOf "_law_no_house" "_law_no_house" (defArgs s_k06_law_no_house) (defBody s_k06_law_no_house) (defScope s_k06_law_no_house) .none kV_k06_law_no_house dc_k06_law_no_house pm_k06_law_no_house an_k06_law_no_house cd_k06_law_no_house ct_k06_law_no_house, fa, PySem.W.fnOf "law" "law" (defArgs s_k06_law) (defBody s_k06_law) (defScope s_k06_law) .none kV_k06_law dc_k06_law pm_k06_law an_k06_law cd_k06_law ct_k06_law⟩ : Ad) :=
    { d_walk := ⟨F_walk, PySem.W.mg_of X G a_walk, b_walk⟩,
      d_law_cell_at := ⟨F_law_cell_at, PySem.W.mg_of X G a_law_cell_at, b_law_cell_at⟩,
      d_law_whole := ⟨F_law_whole, PySem.W.mg_of X G a_law_whole, b_law_whole⟩,
      d_law_same_road := ⟨F_law_same_road, PySem.W.mg_of X G a_law_same_road, b_law_same_road⟩,
      d_law_road_by := ⟨F_law_road_by, PySem.W.mg_of X G a_law_road_by, b_law_road_by⟩,
      d_law_table_by := ⟨F_law_table_by, PySem.W.mg_of X G a_law_table_by, b_law_table_by⟩,
      d_k06_law_no_house := ⟨F_k06_law_no_house, PySem.W.mg_of X G a_k06_law_no_house, b_k06_law_no_house⟩,
      d_k06_law := ⟨F_k06_law, PySem.W.mg_of X G a_k06_law, b_k06_law⟩,
      n_bool := PySem.W.mg_none_of X G z_bool,
      n_int := PySem.W.mg_none_of X G z_int,
      n_isinstance := PySem.W.mg_none_of X G z_isinstance,
      n_len := PySem.W.mg_none_of X G z_len,
      n_list := PySem.W.mg_none_of X G z_list,
      n_range := PySem.W.mg_none_of X G z_range,
      n_str := PySem.W.mg_none_of X G z_str,
      n_tuple := PySem.W.mg_none_of X G z_tuple,
      x_GuildError := ⟨PySem.W.mg_of X G g_GuildError, xi_GuildError, kx_GuildError, bx_GuildError, tx_GuildError⟩,
      x_NoHouse := ⟨PySem.W.mg_of X G g_NoHouse, xi_NoHouse, kx_NoHouse, bx_NoHouse, tx_NoHouse⟩,
      ex := ⟨trivial, ⟨q1_GuildError, q2_GuildError, bx_GuildError, q3_GuildError, q4_GuildError, q_n, q_t, q5_GuildError⟩, PySem.W.exm_ref bx_GuildError q3_GuildError tx_GuildError su_GuildError_GuildError, ki_GuildError_GuildError, PySem.W.exm_ref bx_NoHouse q3_NoHouse tx_NoHouse su_GuildError_NoHouse, ki_GuildError_NoHouse, kv_GuildError, ⟨q1_NoHouse, q2_NoHouse, bx_NoHouse, q3_NoHouse, q4_NoHouse, q_n, q_t, q5_NoHouse⟩, PySem.W.exm_ref bx_GuildError q3_GuildError tx_GuildError su_NoHouse_GuildError, ki_NoHouse_GuildError, PySem.W.exm_ref bx_NoHouse q3_NoHouse tx_NoHouse su_NoHouse_NoHouse, ki_NoHouse_NoHouse, kv_NoHouse⟩ }
  exact ⟨PySem.W.fnOf "law" "law" (defArgs s_k06_law) (defBody s_k06_law) (defScope s_k06_law) .none kV_k06_law dc_k06_law pm_k06_law an_k06_law cd_k06_law ct_k06_law, fun s v => .of_eq rfl, fun base _ _ => ok_k06_law T⟩
theorem law_walk {l : PySem.W.OpenLaw} {q : Program} {loose : List Str} {XP : (Str → Option Value) → Heap → Prop} {YP : World → Heap → Prop} {d : DefRec} {K : Params → PySem.W.Frag} (hn : l.most = some 63) (hdf : d.params.defaults = [])
    (hY : ∀ (w : World) (h : Heap), YP w h → (K w.params).In h)
    (F : ∀ (w : World) (mg : Str → Option Value) (fa : Addr) (h : Heap), (K w.params).In h → h.Ns mainGlobals mg → mg d.name = some (.ref fa) →
      ∃ (c : CA) (fd : FuncData), (∀ (s : Shared) (u : Value), BindsTo s fd ⟨[u], []⟩ [("script", u)]) ∧ ∀ base : Heap, (K w.params).In base → base.Ns mainGlobals mg → FnOk l.prog w (K w.params) mg base (L2.CX l.prog w) 3 fa fd ["script"] (upSp (K w.params) (sp_k06_law c))) :
    PySem.W.WalkO q loose XP YP l.row.toRowW d [] (fun f vs => PySem.call f vs) :=
  L2.walk_of (n := 63) (k := 3) (x := "script") (CX := fun w => L2.CX l.prog w) (sp := fun w => spTop (K w.params)) hn (by decide) hdf ⟨rfl, by decide, by decide⟩ hY
    (fun w mg fa h KX G hmg => by
      obtain ⟨c, fd, hb, hF⟩ := F w mg fa h KX G hmg
      exact ⟨fd, hb, fun base hk hg => (hF base hk hg).imp fun vs H Q E h => top_up (len_k06_law c) (fun ns hl => top_k06_law c ns hl) vs H Q E h⟩)
    (fun _ _ a ns hl _ hS => ⟨a, ns, rfl, hS, hl, fun _ => rfl⟩) fun w H s e s' ⟨_, _, _, _, _, _, _, _, _, _, _, _, z⟩ => z
end DL
open PySem PySem.W PyProof.Rows
set_option maxRecDepth 100000 in
set_option maxHeartbeats 0 in
theorem PySem.Challenge.cw_heraldways_k06_a_walk_holds : PySem.Challenge.rw_heraldways_k06_a_walk.Holds := by
  w_on; o_law; k_head; (case hw => w_witness2)
  k_fill
  refine DL.law_walk (l := PySem.Challenge.rw_heraldways_k06_a_walk) rfl rfl (fun w h Y => PySem.W.kIn_of Y) ?F
  case F =>
    intro w mg fa h KX G hmg
    refine' ⟨_, DL.all_mk KX G hmg ?g_GuildError ?g_NoHouse ?a_walk ?l_walk ?c_walk ?k_walk ?a_law_cell_at ?l_law_cell_at ?c_law_cell_at ?k_law_cell_at ?a_law_whole ?l_law_whole ?c_law_whole ?k_law_whole ?a_law_same_road ?l_law_same_road ?c_law_same_road ?k_law_same_road ?a_law_road_by ?l_law_road_by ?c_law_road_by ?k_law_road_by ?a_law_table_by ?l_law_table_by ?c_law_table_by ?k_law_table_by ?a_k06_law_no_house ?l_k06_law_no_house ?c_k06_law_no_house ?k_k06_law_no_house ?a_k06_law ?l_k06_law ?c_k06_law ?k_k06_law ?z_bool ?z_int ?z_isinstance ?z_len ?z_list ?z_range ?z_str ?z_tuple ?xi_GuildError ?kx_GuildError ?bx_GuildError ?tx_GuildError ?xi_NoHouse ?kx_NoHouse ?bx_NoHouse ?tx_NoHouse ?q_n ?q_t ?q1_GuildError ?q2_GuildError ?q3_GuildError ?q4_GuildError ?q5_GuildError ?q1_NoHouse ?q2_NoHouse ?q3_NoHouse ?q4_NoHouse ?q5_NoHouse ?su_GuildError_GuildError ?ki_GuildError_GuildError ?su_GuildError_NoHouse ?ki_GuildError_NoHouse ?kv_GuildError ?su_NoHouse_GuildError ?ki_NoHouse_GuildError ?su_NoHouse_NoHouse ?ki_NoHouse_NoHouse ?kv_NoHouse⟩
    (case g_GuildError => k_is)
    (case g_NoHouse => k_is)
    (case a_walk => k_is)
    (case l_walk => k_is)
    (case c_walk => k_is)
    (case k_walk => k_is)
    (case a_law_cell_at => k_is)
    (case l_law_cell_at => k_is)
    (case c_law_cell_at => k_is)
    (case k_law_cell_at => k_is)
    (case a_law_whole => k_is)
    (case l_law_whole => k_is)
    (case c_law_whole => k_is)
    (case k_law_whole => k_is)
    (case a_law_same_road => k_is)
    (case l_law_same_road => k_is)
    (case c_law_same_road => k_is)
    (case k_law_same_road => k_is)
    (case a_law_road_by => k_is)
    (case l_law_road_by => k_is)
    (case c_law_road_by => k_is)
    (case k_law_road_by => k_is)
    (case a_law_table_by => k_is)
    (case l_law_table_by => k_is)
    (case c_law_table_by => k_is)
    (case k_law_table_by => k_is)
    (case a_k06_law_no_house => k_is)
    (case l_k06_law_no_house => k_is)
    (case c_k06_law_no_house => k_is)
    (case k_k06_law_no_house => k_is)
    (case a_k06_law => k_is)
    (case l_k06_law => k_is)
    (case c_k06_law => k_is)
    (case k_k06_law => k_is)
    (case z_bool => k_is)
    (case z_int => k_is)
    (case z_isinstance => k_is)
    (case z_len => k_is)
    (case z_list => k_is)
    (case z_range => k_is)
    (case z_str => k_is)
    (case z_tuple => k_is)
    (case xi_GuildError => k_exc)
    (case kx_GuildError => k_is)
    (case bx_GuildError => k_is)
    (case tx_GuildError => k_is)
    (case xi_NoHouse => k_exc)
    (case kx_NoHouse => k_is)
    (case bx_NoHouse => k_is)
    (case tx_NoHouse => k_is)
    (case q_n => k_is)
    (case q_t => k_is)
    (case q1_GuildError => k_is)
    (case q2_GuildError => k_is)
    (case q3_GuildError => k_is)
    (case q4_GuildError => k_is)
    (case q5_GuildError => k_is)
    (case q1_NoHouse => k_is)
    (case q2_NoHouse => k_is)
    (case q3_NoHouse => k_is)
    (case q4_NoHouse => k_is)
    (case q5_NoHouse => k_is)
    (case su_GuildError_GuildError => first | rfl | k_is)
    (case ki_GuildError_GuildError => first | rfl | k_is)
    (case su_GuildError_NoHouse => first | rfl | k_is)
    (case ki_GuildError_NoHouse => first | rfl | k_is)
    (case kv_GuildError => first | rfl | k_is)
    (case su_NoHouse_GuildError => first | rfl | k_is)
    (case ki_NoHouse_GuildError => first | rfl | k_is)
    (case su_NoHouse_NoHouse => first | rfl | k_is)
    (case ki_NoHouse_NoHouse => first | rfl | k_is)
    (case kv_NoHouse => first | rfl | k_is)
