import PyProof.Rows.All
import Wide.All
import OpenK.AllK
import Wide.FinOn
import HandS.ForMost
import HandS.ForExc
import HandS.Deep
import HandS.TupLen
import HandS.Conv
import HandS.SortInts
import HandS.IsInst
import HandS.DictTup
import HandS.CallSlots
import HandS.ExcIs
import HandS.TryOnly
import HandS.ExcOwn
import KE.SortData
import KE.DataCmp
import KE.LtData
import HandS.TupSets
import HandS.SetFor
import HandS.Text
import HandS.RevTup
import HandS.Rev
import PyProof.DictMoreH
import PySem.Challenge.RW_heraldways_k21_rings_of_wishes
set_option Elab.async false
set_option linter.all false
set_option maxRecDepth 100000
namespace DL
open PySem L2
inductive D where
  | non | bl (b : Bool) | int (i : Int) | str (x : Str) | lst (xs : List D) | tup (xs : List D) | ref (a : Addr) | ty (n : String) | scr (ns : List Int)
inductive Cl where
  | ml (xs : List D)
  | dI (kvs : List (List Int × D))
  | dS (kvs : List (Str × D))
  | ins (C : Addr) (fs : List (Str × D))
abbrev Sto := Addr → Option Cl
abbrev Env' := List (Option D)
def su (S : Sto) (p : Addr) (c : Cl) : Sto := fun b => if b = p then some c else S b
def sd (S : Sto) (p : Addr) : Sto := fun b => if b = p then none else S b
theorem su_same {S : Sto} {p : Addr} {c : Cl} : su S p c p = some c := by unfold su; rw [if_pos rfl]
theorem su_ne {S : Sto} {p b : Addr} {c : Cl} (h : b ≠ p) : su S p c b = S b := by unfold su; rw [if_neg h]
theorem su_su {S : Sto} {p : Addr} {c c' : Cl} : su (su S p c) p c' = su S p c' := by
  funext b; unfold su; split <;> rfl
theorem sd_same {S : Sto} {p : Addr} : sd S p p = none := by unfold sd; rw [if_pos rfl]
theorem sd_ne {S : Sto} {p b : Addr} (h : b ≠ p) : sd S p b = S b := by unfold sd; rw [if_neg h]
theorem sd_su {S : Sto} {p : Addr} {c : Cl} (h : S p = none) : sd (su S p c) p = S := by
  funext b; unfold sd su; split
  · rename_i e; subst e; exact h.symm
  · rfl
theorem su_self {S : Sto} {p : Addr} {c : Cl} (h : S p = some c) : su S p c = S := by
  funext b; unfold su; split
  · rename_i e; subst e; exact h.symm
  · rfl
theorem su_comm {S : Sto} {p q : Addr} {c d : Cl} (h : p ≠ q) : su (su S p c) q d = su (su S q d) p c := by
  funext b
  by_cases e : b = p
  · subst e; rw [su_ne h, su_same, su_same]
  · by_cases e2 : b = q
    · subst e2; rw [su_same, su_ne e, su_same]
    · rw [su_ne e2, su_ne e, su_ne e, su_ne e2]
def wo (H : Hp) (S : Sto) : Hp := fun b => match S b with
  | some _ => none
  | none => H b
theorem wo_none {H : Hp} {S : Sto} {b : Addr} (h : S b = none) : wo H S b = H b := by unfold wo; rw [h]
theorem wo_some {H : Hp} {S : Sto} {b : Addr} {c : Cl} (h : S b = some c) : wo H S b = none := by unfold wo; rw [h]
theorem wo_le (H : Hp) (S : Sto) : Same (wo H S) H := fun b o e => by
  cases h : S b with
  | some c => rw [wo_some h] at e; cases e
  | none => rw [wo_none h] at e; exact e

mutual
def Rep (K : PySem.W.Frag) (G : Hp) : D → V → Prop
  | .non, v => v = .non
  | .bl b, v => v = .bl b
  | .int i, v => v = .int i
  | .str x, v => v = .str x
  | .ref a, v => v = .ref a
  | .ty n, v => v = .ty n
  | .lst ds, v => ∃ a vs, v = .ref a ∧ G a = some (.lst vs) ∧ Reps K G ds vs
  | .scr ns, v => ∃ a, v = .ref a ∧ SqL K G a (ns.map V.int)
  | .tup ds, v => ∃ a vs, v = .ref a ∧ G a = some (.tup vs) ∧ Reps K G ds vs
def Reps (K : PySem.W.Frag) (G : Hp) : List D → List V → Prop
  | [], vs => vs = []
  | d :: ds, vs => ∃ v r, vs = v :: r ∧ Rep K G d v ∧ Reps K G ds r
end
mutual
theorem Rep.mono {K : PySem.W.Frag} {G G' : Hp} (s : Same G G') : ∀ (d : D) (v : V), Rep K G d v → Rep K G' d v
  | .non, v, h => by simpa only [Rep] using h
  | .bl b, v, h => by simpa only [Rep] using h
  | .int i, v, h => by simpa only [Rep] using h
  | .str x, v, h => by simpa only [Rep] using h
  | .ref a, v, h => by simpa only [Rep] using h
  | .ty n, v, h => by simpa only [Rep] using h
  | .lst ds, v, h => by
    simp only [Rep] at h ⊢
    obtain ⟨a, vs, e, q, r⟩ := h
    exact ⟨a, vs, e, s _ _ q, Reps.mono s ds vs r⟩
  | .scr ns, v, h => by
    simp only [Rep] at h ⊢
    obtain ⟨a, e, q⟩ := h
    exact ⟨a, e, s.seq q⟩
  | .tup ds, v, h => by
    simp only [Rep] at h ⊢
    obtain ⟨a, vs, e, q, r⟩ := h
    exact ⟨a, vs, e, s _ _ q, Reps.mono s ds vs r⟩
theorem Reps.mono {K : PySem.W.Frag} {G G' : Hp} (s : Same G G') : ∀ (ds : List D) (vs : List V), Reps K G ds vs → Reps K G' ds vs
  | [], vs, h => by simpa only [Reps] using h
  | d :: ds, vs, h => by
    simp only [Reps] at h ⊢
    obtain ⟨v, r, e, q, t⟩ := h
    exact ⟨v, r, e, Rep.mono s d v q, Reps.mono s ds r t⟩
end
section
variable {K : PySem.W.Frag} {G G' : Hp}
theorem Reps.nil : Reps K G [] [] := by simp only [Reps]
theorem Reps.cons {d : D} {v : V} {ds : List D} {vs : List V} (h : Rep K G d v) (t : Reps K G ds vs) : Reps K G (d :: ds) (v :: vs) := by
  simp only [Reps]; exact ⟨v, vs, rfl, h, t⟩
theorem Reps.len : ∀ {ds : List D} {vs : List V}, Reps K G ds vs → ds.length = vs.length
  | [], vs, h => by simp only [Reps] at h; subst h; rfl
  | d :: ds, vs, h => by
    simp only [Reps] at h
    obtain ⟨v, r, rfl, _, t⟩ := h
    rw [List.length_cons, List.length_cons, Reps.len t]
theorem Reps.get : ∀ {ds : List D} {vs : List V} {i : Nat} {d : D}, Reps K G ds vs → ds[i]? = some d → ∃ v, vs[i]? = some v ∧ Rep K G d v
  | [], vs, i, d, h, e => by simp at e
  | d :: ds, vs, 0, d', h, e => by
    simp only [Reps] at h
    obtain ⟨v, r, rfl, q, t⟩ := h
    simp at e; subst e
    exact ⟨v, rfl, q⟩
  | d :: ds, vs, i + 1, d', h, e => by
    simp only [Reps] at h
    obtain ⟨v, r, rfl, q, t⟩ := h
    obtain ⟨v', e', q'⟩ := Reps.get (i := i) (d := d') t (by simpa using e)
    exact ⟨v', by simpa using e', q'⟩
theorem Reps.app : ∀ {ds es : List D} {vs us : List V}, Reps K G ds vs → Reps K G es us → Reps K G (ds ++ es) (vs ++ us)
  | [], es, vs, us, h, t => by simp only [Reps] at h; subst h; exact t
  | d :: ds, es, vs, us, h, t => by
    simp only [Reps] at h
    obtain ⟨v, r, rfl, q, s⟩ := h
    exact Reps.cons q (Reps.app s t)
theorem Reps.set {d : D} {v : V} (q : Rep K G d v) : ∀ {ds : List D} {vs : List V} (i : Nat), Reps K G ds vs → Reps K G (ds.set i d) (vs.set i v)
  | [], vs, i, h => by simp only [Reps] at h; subst h; simpa using Reps.nil
  | d' :: ds, vs, 0, h => by
    simp only [Reps] at h
    obtain ⟨v', r, rfl, q', s⟩ := h
    exact Reps.cons q s
  | d' :: ds, vs, i + 1, h => by
    simp only [Reps] at h
    obtain ⟨v', r, rfl, q', s⟩ := h
    exact Reps.cons q' (Reps.set q i s)
theorem Reps.take : ∀ {ds : List D} {vs : List V} (n : Nat), Reps K G ds vs → Reps K G (ds.take n) (vs.take n)
  | [], vs, n, h => by simp only [Reps] at h; subst h; simpa using Reps.nil
  | d :: ds, vs, 0, h => by simpa using Reps.nil
  | d :: ds, vs, n + 1, h => by
    simp only [Reps] at h
    obtain ⟨v, r, rfl, q, s⟩ := h
    exact Reps.cons q (Reps.take n s)
theorem Reps.drop : ∀ {ds : List D} {vs : List V} (n : Nat), Reps K G ds vs → Reps K G (ds.drop n) (vs.drop n)
  | [], vs, n, h => by simp only [Reps] at h; subst h; simpa using Reps.nil
  | d :: ds, vs, 0, h => h
  | d :: ds, vs, n + 1, h => by
    simp only [Reps] at h
    obtain ⟨v, r, rfl, q, s⟩ := h
    exact Reps.drop n s
theorem Reps.rev : ∀ {ds : List D} {vs : List V}, Reps K G ds vs → Reps K G ds.reverse vs.reverse
  | [], vs, h => by simp only [Reps] at h; subst h; exact Reps.nil
  | d :: ds, vs, h => by
    simp only [Reps] at h
    obtain ⟨v, r, rfl, q, s⟩ := h
    rw [List.reverse_cons, List.reverse_cons]
    exact Reps.app (Reps.rev s) (Reps.cons q Reps.nil)
theorem Reps.ints : ∀ {ns : List Int} {vs : List V}, Reps K G (ns.map D.int) vs → vs = ns.map V.int
  | [], vs, h => by simpa only [List.map_nil, Reps] using h
  | n :: ns, vs, h => by
    simp only [List.map_cons, Reps] at h
    obtain ⟨v, r, rfl, q, s⟩ := h
    simp only [Rep] at q
    rw [q, Reps.ints s]; rfl
theorem Reps.of_ints : ∀ (ns : List Int), Reps K G (ns.map D.int) (ns.map V.int)
  | [] => Reps.nil
  | n :: ns => Reps.cons (by simp only [Rep]) (Reps.of_ints ns)
theorem Reps.ints' {ns : List Int} : ∀ {ds : List D}, Reps K G ds (ns.map V.int) → ∀ ks : List Int, ds = ks.map D.int → ks = ns := fun {ds} h ks e => by
  subst e
  have h2 := Reps.ints h
  have : ∀ {a b : List Int}, a.map V.int = b.map V.int → a = b := by
    intro a
    induction a with
    | nil => intro b h; cases b with | nil => rfl | cons _ _ => simp at h
    | cons x xs ih =>
      intro b h
      cases b with
      | nil => simp at h
      | cons y ys =>
        simp only [List.map_cons, List.cons.injEq, V.int.injEq] at h
        rw [h.1, ih h.2]
  exact (this h2).symm
end
def CellOk (K : PySem.W.Frag) (H G : Hp) (a : Addr) : Cl → Prop
  | .ml ds => ∃ vs, H a = some (.lst vs) ∧ Reps K G ds vs
  | .dI kvs => ∃ vs, H a = some (.dT ((kvs.map fun p => p.1.map Sum.inl).zip vs)) ∧ Reps K G (kvs.map (·.2)) vs
  | .dS kvs => ∃ vs, H a = some (.dK ((kvs.map fun p => Sum.inr p.1).zip vs)) ∧ Reps K G (kvs.map (·.2)) vs
  | .ins C fs => ∃ dx vs, H a = some (.ins C dx ((fs.map (·.1)).zip vs)) ∧ Reps K G (fs.map (·.2)) vs
theorem CellOk.mono {K : PySem.W.Frag} {H H' G G' : Hp} {a : Addr} {c : Cl} (x : CellOk K H G a c) (h : ∀ o, H a = some o → H' a = some o) (s : Same G G') : CellOk K H' G' a c := by
  cases c with
  | ml ds => obtain ⟨vs, e, r⟩ := x; exact ⟨vs, h _ e, r.mono s⟩
  | dI kvs => obtain ⟨vs, e, r⟩ := x; exact ⟨vs, h _ e, r.mono s⟩
  | dS kvs => obtain ⟨vs, e, r⟩ := x; exact ⟨vs, h _ e, r.mono s⟩
  | ins C fs => obtain ⟨dx, vs, e, r⟩ := x; exact ⟨dx, vs, h _ e, r.mono s⟩
theorem CellOk.there {K : PySem.W.Frag} {H G : Hp} {a : Addr} {c : Cl} (x : CellOk K H G a c) : ∃ o, H a = some o := by
  cases c with
  | ml ds => obtain ⟨vs, e, r⟩ := x; exact ⟨_, e⟩
  | dI kvs => obtain ⟨vs, e, r⟩ := x; exact ⟨_, e⟩
  | dS kvs => obtain ⟨vs, e, r⟩ := x; exact ⟨_, e⟩
  | ins C fs => obtain ⟨dx, vs, e, r⟩ := x; exact ⟨_, e⟩
structure Nx (K : PySem.W.Frag) (G : Hp) (S : Sto) (H : Hp) : Prop where
  st : Same G (wo H S)
  ok : ∀ a c, S a = some c → CellOk K H (wo H S) a c
section
variable {K : PySem.W.Frag} {G G' H H' : Hp} {S S' : Sto} {p : Addr} {c : Cl}
theorem Nx.refl (x : Nx K G S H) : Nx K (wo H S) S H := ⟨Same.refl _, x.ok⟩
theorem Nx.trans (x : Nx K G S H) (y : Nx K (wo H S) S' H') : Nx K G S' H' := ⟨x.st.trans y.st, y.ok⟩
theorem Nx.le (x : Nx K G S H) (s : Same G' G) : Nx K G' S H := ⟨s.trans x.st, x.ok⟩
theorem Nx.free (x : Nx K G S H) (h : H p = none) : S p = none := by
  cases e : S p with
  | none => rfl
  | some c =>
    obtain ⟨o, q⟩ := (x.ok p c e).there
    rw [h] at q; cases q
theorem Nx.grow (x : Nx K G S H) (s : Same H H') : Nx K (wo H S) S H' := by
  have s2 : Same (wo H S) (wo H' S) := fun b o e => by
    cases h : S b with
    | some c => rw [wo_some h] at e; cases e
    | none => rw [wo_none h] at e ⊢; exact s _ _ e
  exact ⟨s2, fun a c e => (x.ok a c e).mono (fun o q => s _ _ q) s2⟩
theorem same_new {o : HO} (h : H p = none) : Same H (upd H p o) := fun b u e => by rw [upd_ne (ne_of_none e h)]; exact e
theorem Nx.alloc {o : HO} (x : Nx K G S H) (h : H p = none) : Nx K (wo H S) S (upd H p o) := x.grow (same_new h)
theorem wo_new {o : HO} (x : Nx K G S H) (h : H p = none) : wo (upd H p o) S p = some o := by rw [wo_none (x.free h)]; exact upd_same
theorem Nx.cell {o : HO} (x : Nx K G S H) (h : H p = none) (n : ∀ G', Same (wo H S) G' → CellOk K (upd H p o) G' p c) : Nx K (wo H S) (su S p c) (upd H p o) := by
  have s2 : Same (wo H S) (wo (upd H p o) (su S p c)) := fun b u e => by
    have q : H b = some u := wo_le _ _ _ _ e
    have nb : b ≠ p := ne_of_none q h
    cases e2 : S b with
    | some c => rw [wo_some e2] at e; cases e
    | none => rw [wo_none (by rw [su_ne nb]; exact e2), upd_ne nb]; exact q
  refine ⟨s2, fun a c' e => ?_⟩
  by_cases q : a = p
  · subst q
    rw [su_same] at e; cases e
    exact n _ s2
  · rw [su_ne q] at e
    exact (x.ok a c' e).mono (fun o r => by rw [upd_ne q]; exact r) s2
theorem wo_write {o : HO} {c0 : Cl} (h : S p = some c0) : wo (upd H p o) (su S p c) = wo H S := by
  funext b
  by_cases q : b = p
  · subst q
    rw [wo_some su_same, wo_some h]
  · unfold wo
    rw [su_ne q, upd_ne q]
theorem Nx.write {o : HO} {c0 : Cl} (x : Nx K G S H) (h : S p = some c0) (n : CellOk K (upd H p o) (wo H S) p c) : Nx K (wo H S) (su S p c) (upd H p o) := by
  have e0 := wo_write (H := H) (o := o) (c := c) h
  refine ⟨by rw [e0]; exact Same.refl _, fun a c' e => ?_⟩
  rw [e0]
  by_cases q : a = p
  · subst q
    rw [su_same] at e; cases e
    exact n
  · rw [su_ne q] at e
    exact (x.ok a c' e).mono (fun o r => by rw [upd_ne q]; exact r) (Same.refl _)
theorem Nx.less (x : Nx K G S H) (h : ∀ a c, S' a = some c → S a = some c) : Nx K (wo H S) S' H := by
  have s2 : Same (wo H S) (wo H S') := fun b u e => by
    have q : H b = some u := wo_le _ _ _ _ e
    cases e2 : S b with
    | some c => rw [wo_some e2] at e; cases e
    | none =>
      have e3 : S' b = none := by
        cases e4 : S' b with
        | none => rfl
        | some c => rw [h _ _ e4] at e2; cases e2
      rw [wo_none e3]; exact q
  exact ⟨s2, fun a c e => (x.ok a c (h _ _ e)).mono (fun o r => r) s2⟩
theorem Nx.frz {ds : List D} (x : Nx K G S H) (h : S p = some (.ml ds)) : Nx K (wo H S) (sd S p) H ∧ Rep K (wo H (sd S p)) (.lst ds) (.ref p) := by
  have n := x.less (S' := sd S p) fun a c e => by
    unfold sd at e
    split at e
    · cases e
    · exact e
  refine ⟨n, ?_⟩
  obtain ⟨vs, e, r⟩ := x.ok p _ h
  simp only [Rep]
  exact ⟨p, vs, rfl, by rw [wo_none sd_same]; exact e, r.mono n.st⟩
end
def REnv (K : PySem.W.Frag) (G : Hp) (ρ : Env') (σ : St) : Prop := ρ.length = σ.length ∧ ∀ (i : Nat) (d : D), ρ[i]? = some (some d) → ∃ v : V, σ[i]? = some (some v) ∧ Rep K G d v
structure Stt (K : PySem.W.Frag) (G0 : Hp) (ρ : Env') (S : Sto) (σ : St) (H : Hp) : Prop where
  env : REnv K (wo H S) ρ σ
  nx : Nx K G0 S H
section
variable {K : PySem.W.Frag} {G G0 G' H H' : Hp} {S S' : Sto} {ρ : Env'} {σ : St}
theorem REnv.mono (x : REnv K G ρ σ) (s : Same G G') : REnv K G' ρ σ := ⟨x.1, fun i d e => by
  obtain ⟨v, e', r⟩ := x.2 i d e
  exact ⟨v, e', r.mono s⟩⟩
theorem REnv.set {i : Nat} {d : D} {v : V} (x : REnv K G ρ σ) (r : Rep K G d v) : REnv K G (ρ.set i (some d)) (σ.set i (some v)) := by
  refine ⟨by rw [List.length_set, List.length_set]; exact x.1, fun j e h => ?_⟩
  rw [List.getElem?_set] at h ⊢
  by_cases q : i = j
  · subst q
    rw [if_pos rfl] at h ⊢
    by_cases l : i < ρ.length
    · rw [if_pos l] at h
      rw [if_pos (by rw [← x.1]; exact l)]
      cases h
      exact ⟨v, rfl, r⟩
    · rw [if_neg l] at h; cases h
  · rw [if_neg q] at h ⊢
    exact x.2 j e h
theorem REnv.wipe (x : REnv K G ρ σ) (i : Nat) : REnv K G (ρ.set i none) (σ.set i none) := by
  refine ⟨by rw [List.length_set, List.length_set]; exact x.1, fun j e h => ?_⟩
  rw [List.getElem?_set] at h ⊢
  by_cases q : i = j
  · subst q
    rw [if_pos rfl] at h
    split at h <;> cases h
  · rw [if_neg q] at h ⊢
    exact x.2 j e h
theorem REnv.wipe' {i : Nat} (x : REnv K G ρ σ) : REnv K G (ρ.set i none) σ := by
  refine ⟨by rw [List.length_set]; exact x.1, fun j e h => ?_⟩
  rw [List.getElem?_set] at h
  by_cases q : i = j
  · subst q
    rw [if_pos rfl] at h
    split at h <;> cases h
  · rw [if_neg q] at h
    exact x.2 j e h
theorem Stt.next (x : Stt K G0 ρ S σ H) (y : Nx K (wo H S) S' H') : Stt K G0 ρ S' σ H' := ⟨x.env.mono y.st, x.nx.trans y⟩
theorem Stt.refl (x : Stt K G0 ρ S σ H) : Nx K (wo H S) S H := x.nx.refl
end
abbrev TDE := Env' → Sto → (D → Sto → Prop) → Prop
abbrev TDT := Env' → Sto → (Bool → Sto → Prop) → Prop
abbrev TDA := Env' → Sto → (List D → Sto → Prop) → Prop
structure DEnds where
  nx : Env' → Sto → Prop
  rt : D → Sto → Prop
  bk : Env' → Sto → Prop := fun _ _ => False
  ct : Env' → Sto → Prop := fun _ _ => False
abbrev TDS := DEnds → Env' → Sto → Prop
abbrev WD := Addr → Env' → Sto → Prop

def upE (K : PySem.W.Frag) (G0 : Hp) (t : TDE) : TE := fun σ H Q => ∃ ρ S P, Stt K G0 ρ S σ H ∧ t ρ S P ∧
  ∀ d S' v H', P d S' → Nx K (wo H S) S' H' → Rep K (wo H' S') d v → Q v H'
def upT (K : PySem.W.Frag) (G0 : Hp) (t : TDT) : TT := fun σ H Q => ∃ ρ S P, Stt K G0 ρ S σ H ∧ t ρ S P ∧
  ∀ b S' H', P b S' → Nx K (wo H S) S' H' → Q b H'
def upA (K : PySem.W.Frag) (G0 : Hp) (t : TDA) : TA := fun σ H Q => ∃ ρ S P, Stt K G0 ρ S σ H ∧ t ρ S P ∧
  ∀ ds S' vs H', P ds S' → Nx K (wo H S) S' H' → Reps K (wo H' S') ds vs → Q vs H'
structure EndsUp (K : PySem.W.Frag) (G0 : Hp) (dD : DEnds) (D : Ends) : Prop where
  nx : ∀ ρ S σ H, dD.nx ρ S → Stt K G0 ρ S σ H → D.nx σ H
  rt : ∀ d S v H, dD.rt d S → Nx K G0 S H → Rep K (wo H S) d v → D.rt v H
  bk : ∀ ρ S σ H, dD.bk ρ S → Stt K G0 ρ S σ H → D.bk σ H
  ct : ∀ ρ S σ H, dD.ct ρ S → Stt K G0 ρ S σ H → D.ct σ H
def upS (K : PySem.W.Frag) (G0 : Hp) (t : TDS) : TS := fun D σ H => ∃ ρ S dD, Stt K G0 ρ S σ H ∧ t dD ρ S ∧ EndsUp K G0 dD D
def upW (K : PySem.W.Frag) (G0 : Hp) (W : WD) : WX := fun cls d σ H => ∃ ρ S C, cls = .ref C ∧ d = none ∧ Stt K G0 ρ S σ H ∧ W C ρ S
abbrev DE (X : Cx) (G0 : Hp) (e : Expr) (t : TDE) : Prop := PE X e (upE X.K G0 t)
abbrev DT (X : Cx) (G0 : Hp) (e : Expr) (t : TDT) : Prop := PT X e (upT X.K G0 t)
abbrev DW (X : Cx) (G0 : Hp) (e : Expr) (t : TDT) : Prop := PW X e (upT X.K G0 t)
abbrev DA (X : Cx) (G0 : Hp) (es : List Expr) (t : TDA) : Prop := PA X es (upA X.K G0 t)
abbrev DS (X : Cx) (G0 : Hp) (st : Stmt) (t : TDS) : Prop := PS X st (upS X.K G0 t)
abbrev DSs (X : Cx) (G0 : Hp) (st : List Stmt) (t : TDS) : Prop := PSs X st (upS X.K G0 t)

section
variable {X : Cx}
theorem PE.imp {e : Expr} {t t' : TE} (h : PE X e t) (f : ∀ σ H Q, t' σ H Q → t σ H Q) : PE X e t' := ⟨fun pins s σ H Q I w => h.run pins s σ H Q I (f _ _ _ w)⟩
theorem PT.imp {e : Expr} {t t' : TT} (h : PT X e t) (f : ∀ σ H Q, t' σ H Q → t σ H Q) : PT X e t' := ⟨fun pins s σ H Q I w => h.run pins s σ H Q I (f _ _ _ w)⟩
theorem PW.imp {e : Expr} {t t' : TT} (h : PW X e t) (f : ∀ σ H Q, t' σ H Q → t σ H Q) : PW X e t' := ⟨fun wh pins s σ H Q I w => h.run wh pins s σ H Q I (f _ _ _ w)⟩
theorem PA.imp {e : List Expr} {t t' : TA} (h : PA X e t) (f : ∀ σ H Q, t' σ H Q → t σ H Q) : PA X e t' := ⟨fun pos pins s σ H Q I w => h.run pos pins s σ H Q I (f _ _ _ w)⟩
theorem PS.imp {e : Stmt} {t t' : TS} (h : PS X e t) (f : ∀ D σ H, t' D σ H → t D σ H) : PS X e t' := ⟨fun pins s σ H D I w => h.run pins s σ H D I (f _ _ _ w)⟩
theorem PSs.imp {e : List Stmt} {t t' : TS} (h : PSs X e t) (f : ∀ D σ H, t' D σ H → t D σ H) : PSs X e t' := ⟨fun pins s σ H D I w => h.run pins s σ H D I (f _ _ _ w)⟩
theorem PE.or {e : Expr} {t t' : TE} (h : PE X e t) (h' : PE X e t') : PE X e (fun σ H Q => t σ H Q ∨ t' σ H Q) := ⟨fun pins s σ H Q I w => w.elim (h.run pins s σ H Q I) (h'.run pins s σ H Q I)⟩
theorem PS.or {e : Stmt} {t t' : TS} (h : PS X e t) (h' : PS X e t') : PS X e (fun D σ H => t D σ H ∨ t' D σ H) := ⟨fun pins s σ H D I w => w.elim (h.run pins s σ H D I) (h'.run pins s σ H D I)⟩
theorem PT.or {e : Expr} {t t' : TT} (h : PT X e t) (h' : PT X e t') : PT X e (fun σ H Q => t σ H Q ∨ t' σ H Q) := ⟨fun pins s σ H Q I w => w.elim (h.run pins s σ H Q I) (h'.run pins s σ H Q I)⟩
end
end DL
namespace DL
open PySem L2
def vm (S : Sto) : D → Option (List D)
  | .lst xs => some xs
  | .ref p => match S p with
    | some (.ml xs) => some xs
    | _ => none
  | _ => none
def vl (S : Sto) : D → Option (List D)
  | .scr ns => some (ns.map .int)
  | d => vm S d
def rs (S : Sto) (d : D) : D := match vm S d with
  | some xs => .lst xs
  | none => d
def newL (m : Bool) (xs : List D) (S : Sto) (P : D → Sto → Prop) : Prop := match m with
  | true => ∀ p, S p = none → P (.ref p) (su S p (.ml xs))
  | false => P (.lst xs) S
abbrev Owe (K : PySem.W.Frag) (S : Sto) (H : Hp) (P : D → Sto → Prop) (Q : VK) : Prop := ∀ d S' v H', P d S' → Nx K (wo H S) S' H' → Rep K (wo H' S') d v → Q v H'
section
variable {K : PySem.W.Frag} {G H : Hp} {S : Sto} {d : D} {v : V} {xs : List D} {vs : List V} {P : D → Sto → Prop} {Q : VK} {p : Addr}
theorem vm_rep (x : Nx K G S H) (r : Rep K (wo H S) d v) (e : vm S d = some xs) : ∃ a vs, v = .ref a ∧ H a = some (.lst vs) ∧ Reps K (wo H S) xs vs := by
  cases d with
  | lst ys =>
    cases e
    simp only [Rep] at r
    obtain ⟨a, vs, e1, q, t⟩ := r
    exact ⟨a, vs, e1, wo_le H S _ _ q, t⟩
  | ref p =>
    simp only [Rep] at r
    cases h : S p with
    | none => simp only [vm, h] at e; cases e
    | some c =>
      cases c with
      | ml ys =>
        simp only [vm, h] at e
        cases e
        obtain ⟨vs, q, t⟩ := x.ok p _ h
        exact ⟨p, vs, r, q, t⟩
      | dI _ => simp only [vm, h] at e; cases e
      | dS _ => simp only [vm, h] at e; cases e
      | ins _ _ => simp only [vm, h] at e; cases e
  | _ => cases e
theorem vl_rep (x : Nx K G S H) (r : Rep K (wo H S) d v) (e : vl S d = some xs) : ∃ a vs, v = .ref a ∧ SqL K H a vs ∧ Reps K (wo H S) xs vs := by
  have go : vm S d = some xs → ∃ a vs, v = .ref a ∧ SqL K H a vs ∧ Reps K (wo H S) xs vs := fun e => by
    obtain ⟨a, vs, h1, h2, h3⟩ := vm_rep x r e
    exact ⟨a, vs, h1, SqL.of h2, h3⟩
  cases d with
  | scr ns =>
    cases e
    simp only [Rep] at r
    obtain ⟨a, e1, q⟩ := r
    exact ⟨a, _, e1, (wo_le H S).seq q, Reps.of_ints ns⟩
  | _ => exact go e
theorem newL_ok {m : Bool} (x : Nx K G S H) (r : Reps K (wo H S) xs vs) (hp : H p = none) (h : newL m xs S P) (o : Owe K S H P Q) : Q (.ref p) (upd H p (.lst vs)) := by
  cases m with
  | false =>
    have n := x.alloc (o := .lst vs) hp
    exact o _ _ _ _ h n (by simp only [Rep]; exact ⟨p, vs, rfl, wo_new x hp, r.mono n.st⟩)
  | true =>
    have n := x.cell (c := .ml xs) (o := .lst vs) hp fun G' s => ⟨vs, upd_same, r.mono s⟩
    exact o _ _ _ _ (h p (x.free hp)) n (by simp only [Rep])
theorem newT_ok (x : Nx K G S H) (r : Reps K (wo H S) xs vs) (hp : H p = none) (h : P (.tup xs) S) (o : Owe K S H P Q) : Q (.ref p) (upd H p (.tup vs)) := by
  have n := x.alloc (o := .tup vs) hp
  exact o _ _ _ _ h n (by simp only [Rep]; exact ⟨p, vs, rfl, wo_new x hp, r.mono n.st⟩)
theorem Owe.now (o : Owe K S H P Q) (x : Nx K G S H) (h : P d S) (r : Rep K (wo H S) d v) : Q v H := o _ _ _ _ h x.refl r
end
def dVar (i : Nat) : TDE := fun ρ S P => match ρ[i]? with
  | some (some d) => P d S
  | _ => False
def dC (d : D) : TDE := fun _ S P => P d S
section
variable {X : Cx} {G0 : Hp} {pos : Pos}
theorem de_of_var {e : Expr} {i : Nat} (h : PE X e (tVar i)) : DE X G0 e (dVar i) := PE.imp h fun σ H Q ⟨ρ, S, P, st, t, o⟩ => by
  unfold dVar at t
  cases e : ρ[i]? with
  | none => rw [e] at t; exact t.elim
  | some z =>
    cases z with
    | none => rw [e] at t; exact t.elim
    | some d =>
      rw [e] at t
      obtain ⟨v, ev, r⟩ := st.env.2 i d e
      exact ⟨v, ev, o _ _ _ _ t st.refl r⟩
theorem dv (i : Nat) {x : Str} (hN : X.N[i]? = some x := by rfl) (hv : Vis X.env.scope x := by first | exact Or.inl rfl | exact Or.inr (Or.inl rfl) | exact Or.inr (Or.inr rfl)) (hd : (x == ("__debug__" : Str)) = false := by decide)
    (hcd : (x == ("__classdict__" : Str)) = false := by decide) : DE X G0 (.Name x pos) (dVar i) := de_of_var (pe_var hN hv hd hcd)
theorem de_of_C {e : Expr} {v : V} {d : D} (h : PE X e (tC v)) (r : ∀ K G, Rep K G d v) : DE X G0 e (dC d) := PE.imp h fun σ H Q ⟨ρ, S, P, st, t, o⟩ => o _ _ _ _ t st.refl (r _ _)
theorem de_int {i j pos} : DE X G0 (.Constant (.int i) j pos) (dC (.int i)) := de_of_C pe_int fun _ _ => by simp only [Rep]
theorem de_bl {b j pos} : DE X G0 (.Constant (.bool b) j pos) (dC (.bl b)) := de_of_C pe_bl fun _ _ => by simp only [Rep]
theorem de_non {j pos} : DE X G0 (.Constant .none j pos) (dC .non) := de_of_C pe_non fun _ _ => by simp only [Rep]
theorem de_str {x j pos} : DE X G0 (.Constant (.str x) j pos) (dC (.str x)) := de_of_C pe_str fun _ _ => by simp only [Rep]
theorem de_cls {x : Str} {C : Addr} (hg : Gl X x) (hm : X.mg x = some (.ref C)) (hd : (x == ("__debug__" : Str)) = false := by decide) : DE X G0 (.Name x pos) (dC (.ref C)) :=
  de_of_C (v := .ref C) (pe_glob hg hm rfl hd) fun _ _ => by simp only [Rep]
theorem de_gstr {x : Str} {z : Str} {t : Tok} (hg : Gl X x) (hm : X.mg x = some (.str z t)) (hd : (x == ("__debug__" : Str)) = false := by decide) : DE X G0 (.Name x pos) (dC (.str z)) :=
  de_of_C (v := .str z) (pe_glob hg hm ⟨t, rfl⟩ hd) fun _ _ => by simp only [Rep]
theorem de_ty {x : Str} {n : String} (hg : Gl X x) (hm : X.mg x = none) (hv : bootBuiltins x = some (.type n)) (hn : x ≠ "__name__" := by decide) (hd : (x == ("__debug__" : Str)) = false := by decide) : DE X G0 (.Name x pos) (dC (.ty n)) :=
  de_of_C (v := .ty n) (pe_bltn hg hm hv rfl hn hd) fun _ _ => by simp only [Rep]
end
abbrev R2D := D → D → Sto → (D → Sto → Prop) → Prop
def dOp (r : R2D) (ta tb : TDE) : TDE := fun ρ S P => ta ρ S fun x S1 => tb ρ S1 fun y S2 => r x y S2 P
def Lift2 (K : PySem.W.Frag) (r : R2) (r' : R2D) : Prop := ∀ x y u v G S H P Q, Nx K G S H → Rep K (wo H S) x u → Rep K (wo H S) y v → r' x y S P → Owe K S H P Q → r u v H Q
section
variable {X : Cx} {G0 : Hp} {pos : Pos} {a b : Expr} {ta tb : TDE} {r : R2} {r' : R2D}
theorem up_op (hl : Lift2 X.K r r') (σ : St) (H : Hp) (Q : VK) (h : upE X.K G0 (dOp r' ta tb) σ H Q) : tOp r (upE X.K G0 ta) (upE X.K G0 tb) σ H Q := by
  obtain ⟨ρ, S, P, st, t, o⟩ := h
  refine ⟨ρ, S, _, st, t, fun d1 S1 v1 H1 t1 n1 r1 => ⟨ρ, S1, _, st.next n1, t1, fun d2 S2 v2 H2 t2 n2 r2 => ?_⟩⟩
  exact hl d1 d2 v1 v2 _ S2 H2 P Q n2 (r1.mono n2.st) r2 t2 fun d S' v H' p n3 r3 => o _ _ _ _ p (n1.trans (n2.trans n3)) r3
theorem de_op {op : Operator} (ho : OpR X (binaryOp op) r) (hl : Lift2 X.K r r') (ha : DE X G0 a ta) (hb : DE X G0 b tb) : DE X G0 (.BinOp a op b pos) (dOp r' ta tb) :=
  PE.imp (pe_op ho ha hb) (up_op hl)
theorem de_cmp {op : CmpOp} (ho : OpR X (compareOp op) r) (hl : Lift2 X.K r r') (ha : DE X G0 a ta) (hb : DE X G0 b tb) (hm : behindInMarks op b = false) : DE X G0 (.Compare a [op] [b] pos) (dOp r' ta tb) :=
  PE.imp (pe_cmpR ho ha hb hm) (up_op hl)
def dB (t : TDE) : TDT := fun ρ S P => t ρ S fun x S1 => match x with
  | .bl c => P c S1
  | _ => False
theorem up_test {t : TDE} {tt : TE} (h : ∀ σ H Q, upE X.K G0 t σ H Q → tt σ H Q) (σ : St) (H : Hp) (Q : Bool → Hp → Prop) (g : upT X.K G0 (dB t) σ H Q) : tTest tt σ H Q := by
  obtain ⟨ρ, S, P, st, t, o⟩ := g
  refine h σ H _ ⟨ρ, S, _, st, t, fun d S1 v H1 t1 n1 r1 => ?_⟩
  cases d with
  | bl c => simp only [Rep] at r1; exact ⟨c, r1, o _ _ _ t1 n1⟩
  | _ => exact t1.elim
theorem dt_cmp {op : CmpOp} (ho : OpR X (compareOp op) r) (hl : Lift2 X.K r r') (ha : DE X G0 a ta) (hb : DE X G0 b tb) (hm : behindInMarks op b = false) : DT X G0 (.Compare a [op] [b] pos) (dB (dOp r' ta tb)) :=
  PT.imp (pt_cmpR ho ha hb hm) (up_test (up_op hl))
theorem de_ix (ho : IxR X r) (hl : Lift2 X.K r r') (ha : DE X G0 a ta) (hb : DE X G0 b tb) (hs : PlainIx b) : DE X G0 (.Subscript a b pos) (dOp r' ta tb) :=
  PE.imp (pe_ix ho ha hb hs) (up_op hl)
end
theorem Lift2.or {K : PySem.W.Frag} {r s : R2} {r' s' : R2D} (h : Lift2 K r r') (h' : Lift2 K s s') : Lift2 K (fun x y H Q => r x y H Q ∨ s x y H Q) (fun x y S P => r' x y S P ∨ s' x y S P) :=
  fun x y u v G S H P Q n ru rv t o => t.elim (fun t => .inl (h x y u v G S H P Q n ru rv t o)) fun t => .inr (h' x y u v G S H P Q n ru rv t o)
theorem Lift2.imp {K : PySem.W.Frag} {r : R2} {r' s' : R2D} (h : Lift2 K r r') (f : ∀ x y S P, s' x y S P → r' x y S P) : Lift2 K r s' :=
  fun x y u v G S H P Q n ru rv t o => h x y u v G S H P Q n ru rv (f _ _ _ _ t) o
def iiD (C : Int → Int → Prop) (g : Int → Int → D) : R2D := fun x y S P => match x, y with
  | .int i, .int j => C i j ∧ P (g i j) S
  | _, _ => False
def iiD0 (g : Int → Int → D) : R2D := fun x y S P => match x, y with
  | .int i, .int j => P (g i j) S
  | _, _ => False
theorem lift_ii {K : PySem.W.Frag} {C : Int → Int → Prop} {g : Int → Int → V} {g' : Int → Int → D} (hg : ∀ i j K G, Rep K G (g' i j) (g i j)) : Lift2 K (rI C g) (iiD C g') := by
  intro x y u v G S H P Q n ru rv t o
  cases x with
  | int i =>
    cases y with
    | int j =>
      simp only [Rep] at ru rv
      exact ⟨i, j, ru, rv, t.1, o.now n t.2 (hg _ _ _ _)⟩
    | _ => exact t.elim
  | _ => exact t.elim
theorem lift_ii0 {K : PySem.W.Frag} {g : Int → Int → V} {g' : Int → Int → D} (hg : ∀ i j K G, Rep K G (g' i j) (g i j)) : Lift2 K (rI0 g) (iiD0 g') := by
  intro x y u v G S H P Q n ru rv t o
  cases x with
  | int i =>
    cases y with
    | int j =>
      simp only [Rep] at ru rv
      exact ⟨i, j, ru, rv, o.now n t (hg _ _ _ _)⟩
    | _ => exact t.elim
  | _ => exact t.elim
def subD : R2D := iiD0 fun i j => .int (i - j)
def mulD : R2D := iiD CMul fun i j => .int (i * j)
def fdivD : R2D := iiD CDiv fun i j => .int (i / j)
def modD : R2D := iiD (fun _ j => 0 < j) fun i j => .int (i % j)
def shrD : R2D := iiD (fun _ j => 0 ≤ j) fun i j => .int (i / 2 ^ j.toNat)
def powD : R2D := iiD CPow fun i j => .int (i ^ j.toNat)
def ltI : R2D := iiD0 fun i j => .bl (decide (i < j))
def leI : R2D := iiD0 fun i j => .bl (decide (i ≤ j))
def gtI : R2D := iiD0 fun i j => .bl (decide (j < i))
def geI : R2D := iiD0 fun i j => .bl (decide (j ≤ i))
def addI : R2D := iiD0 fun i j => .int (i + j)
def catD (m : Bool) : R2D := fun x y S P => match vm S x, vm S y with
  | some xs, some ys => xs.length + ys.length ≤ sizeLine ∧ newL m (xs ++ ys) S P
  | _, _ => False
def scatD : R2D := fun x y S P => match x, y with
  | .str i, .str j => i.length + j.length ≤ sizeLine ∧ P (.str (i ++ j)) S
  | _, _ => False
def addD (m : Bool) : R2D := fun x y S P => match x with
  | .int _ => addI x y S P
  | .str _ => scatD x y S P
  | _ => catD m x y S P

theorem lift_add {K : PySem.W.Frag} {m : Bool} : Lift2 K (fun x y H Q => (rI0 (fun i j => .int (i + j)) x y H Q ∨ (∃ i j, x = .str i ∧ y = .str j ∧ i.length + j.length ≤ sizeLine ∧ Q (.str (i ++ j)) H)) ∨ rCat x y H Q) (addD m) := by
  intro x y u v G S H P Q n ru rv t o
  have cat : catD m x y S P → rCat u v H Q := fun t => by
    unfold catD at t
    cases e1 : vm S x with
    | none => rw [e1] at t; exact t.elim
    | some xs =>
      cases e2 : vm S y with
      | none => rw [e1, e2] at t; exact t.elim
      | some ys =>
        rw [e1, e2] at t
        obtain ⟨a, vs, rfl, ha, r1⟩ := vm_rep n ru e1
        obtain ⟨b, us, rfl, hb, r2⟩ := vm_rep n rv e2
        exact ⟨a, b, vs, us, rfl, rfl, ha, hb, by rw [← r1.len, ← r2.len]; exact t.1, fun p hp => newL_ok n (r1.app r2) hp t.2 o⟩
  cases x with
  | int i => exact .inl (.inl (lift_ii0 (g' := fun i j => D.int (i + j)) (fun _ _ _ _ => by simp only [Rep]) _ y u v G S H P Q n ru rv t o))
  | str i =>
    cases y with
    | str j =>
      simp only [Rep] at ru rv
      exact .inl (.inr ⟨i, j, ru, rv, t.1, o.now n t.2 (by simp only [Rep])⟩)
    | _ => exact t.elim
  | _ => exact .inr (cat t)
section
variable {X : Cx} {G0 : Hp} {pos : Pos} {a b : Expr} {ta tb : TDE}
theorem de_add (m : Bool) (ha : DE X G0 a ta) (hb : DE X G0 b tb) : DE X G0 (.BinOp a .Add b pos) (dOp (addD m) ta tb) := de_op ((op_add.or op_add_str).or op_cat) lift_add ha hb
theorem de_sub (ha : DE X G0 a ta) (hb : DE X G0 b tb) : DE X G0 (.BinOp a .Sub b pos) (dOp subD ta tb) := de_op op_sub (lift_ii0 fun _ _ _ _ => by simp only [Rep]) ha hb
theorem de_mul (ha : DE X G0 a ta) (hb : DE X G0 b tb) : DE X G0 (.BinOp a .Mult b pos) (dOp mulD ta tb) := de_op op_mul (lift_ii fun _ _ _ _ => by simp only [Rep]) ha hb
theorem de_fdiv (ha : DE X G0 a ta) (hb : DE X G0 b tb) : DE X G0 (.BinOp a .FloorDiv b pos) (dOp fdivD ta tb) := de_op op_fdiv (lift_ii fun _ _ _ _ => by simp only [Rep]) ha hb
theorem de_mod (ha : DE X G0 a ta) (hb : DE X G0 b tb) : DE X G0 (.BinOp a .Mod b pos) (dOp modD ta tb) := de_op op_mod (lift_ii fun _ _ _ _ => by simp only [Rep]) ha hb
theorem de_shr (ha : DE X G0 a ta) (hb : DE X G0 b tb) : DE X G0 (.BinOp a .RShift b pos) (dOp shrD ta tb) := de_op op_shr (lift_ii fun _ _ _ _ => by simp only [Rep]) ha hb
theorem de_pow (ha : DE X G0 a ta) (hb : DE X G0 b tb) : DE X G0 (.BinOp a .Pow b pos) (dOp powD ta tb) := de_op op_pow (lift_ii fun _ _ _ _ => by simp only [Rep]) ha hb
theorem de_lt (ha : DE X G0 a ta) (hb : DE X G0 b tb) : DE X G0 (.Compare a [.Lt] [b] pos) (dOp ltI ta tb) := de_cmp op_lt (lift_ii0 fun _ _ _ _ => by simp only [Rep]) ha hb (nomark _)
theorem dt_lt (ha : DE X G0 a ta) (hb : DE X G0 b tb) : DT X G0 (.Compare a [.Lt] [b] pos) (dB (dOp ltI ta tb)) := dt_cmp op_lt (lift_ii0 fun _ _ _ _ => by simp only [Rep]) ha hb (nomark _)
theorem de_le (ha : DE X G0 a ta) (hb : DE X G0 b tb) : DE X G0 (.Compare a [.LtE] [b] pos) (dOp leI ta tb) := de_cmp op_le (lift_ii0 fun _ _ _ _ => by simp only [Rep]) ha hb (nomark _)
theorem dt_le (ha : DE X G0 a ta) (hb : DE X G0 b tb) : DT X G0 (.Compare a [.LtE] [b] pos) (dB (dOp leI ta tb)) := dt_cmp op_le (lift_ii0 fun _ _ _ _ => by simp only [Rep]) ha hb (nomark _)
theorem de_gt (ha : DE X G0 a ta) (hb : DE X G0 b tb) : DE X G0 (.Compare a [.Gt] [b] pos) (dOp gtI ta tb) := de_cmp op_gt (lift_ii0 fun _ _ _ _ => by simp only [Rep]) ha hb (nomark _)
theorem dt_gt (ha : DE X G0 a ta) (hb : DE X G0 b tb) : DT X G0 (.Compare a [.Gt] [b] pos) (dB (dOp gtI ta tb)) := dt_cmp op_gt (lift_ii0 fun _ _ _ _ => by simp only [Rep]) ha hb (nomark _)
theorem de_ge (ha : DE X G0 a ta) (hb : DE X G0 b tb) : DE X G0 (.Compare a [.GtE] [b] pos) (dOp geI ta tb) := de_cmp op_ge (lift_ii0 fun _ _ _ _ => by simp only [Rep]) ha hb (nomark _)
theorem dt_ge (ha : DE X G0 a ta) (hb : DE X G0 b tb) : DT X G0 (.Compare a [.GtE] [b] pos) (dB (dOp geI ta tb)) := dt_cmp op_ge (lift_ii0 fun _ _ _ _ => by simp only [Rep]) ha hb (nomark _)
def dIsN (ta : TDE) : TDE := fun ρ S P => ta ρ S fun x S1 => match x with
  | .non => P (.bl true) S1
  | _ => P (.bl false) S1
def dNotN (ta : TDE) : TDE := fun ρ S P => ta ρ S fun x S1 => match x with
  | .non => P (.bl false) S1
  | _ => P (.bl true) S1
def isN : D → Bool
  | .non => true
  | _ => false
theorem isN_rep {K : PySem.W.Frag} {G : Hp} {d : D} {v : V} (r : Rep K G d v) : decide (v = .non) = isN d := by
  cases d with
  | non => simp only [Rep] at r; subst r; rfl
  | lst ds => simp only [Rep] at r; obtain ⟨a, vs, rfl, _⟩ := r; rfl
  | tup ds => simp only [Rep] at r; obtain ⟨a, vs, rfl, _⟩ := r; rfl
  | scr ns => simp only [Rep] at r; obtain ⟨a, rfl, _⟩ := r; rfl
  | _ => simp only [Rep] at r; subst r; rfl
theorem up_isN (σ : St) (H : Hp) (Q : VK) (h : upE X.K G0 (dIsN ta) σ H Q) : tIsN (upE X.K G0 ta) σ H Q :=
  let ⟨ρ, S, P, st, t, o⟩ := h
  ⟨ρ, S, _, st, t, fun d S1 v H1 t1 n1 r1 => by
    show Q (V.bl (decide (v = V.non))) H1
    rw [isN_rep r1]
    refine o (.bl (isN d)) S1 _ H1 ?_ n1 (by simp only [Rep])
    cases d <;> exact t1⟩
theorem up_notN (σ : St) (H : Hp) (Q : VK) (h : upE X.K G0 (dNotN ta) σ H Q) : tNotN (upE X.K G0 ta) σ H Q :=
  let ⟨ρ, S, P, st, t, o⟩ := h
  ⟨ρ, S, _, st, t, fun d S1 v H1 t1 n1 r1 => by
    show Q (V.bl (!decide (v = V.non))) H1
    rw [isN_rep r1]
    refine o (.bl (!isN d)) S1 _ H1 ?_ n1 (by simp only [Rep])
    cases d <;> exact t1⟩
theorem de_isN {j pos'} (ha : DE X G0 a ta) : DE X G0 (.Compare a [.Is] [.Constant .none j pos'] pos) (dIsN ta) := PE.imp (pe_cmp (pc_isN ha) rfl) up_isN
theorem de_notN {j pos'} (ha : DE X G0 a ta) : DE X G0 (.Compare a [.IsNot] [.Constant .none j pos'] pos) (dNotN ta) := PE.imp (pe_cmp (pc_notN ha) rfl) up_notN
theorem dt_isN {j pos'} (ha : DE X G0 a ta) : DT X G0 (.Compare a [.Is] [.Constant .none j pos'] pos) (dB (dIsN ta)) := PT.imp (pt_cmp (pc_isN ha) rfl) (up_test up_isN)
theorem dt_notN {j pos'} (ha : DE X G0 a ta) : DT X G0 (.Compare a [.IsNot] [.Constant .none j pos'] pos) (dB (dNotN ta)) := PT.imp (pt_cmp (pc_notN ha) rfl) (up_test up_notN)
def dNeg (ta : TDE) : TDE := fun ρ S P => ta ρ S fun x S1 => match x with
  | .int i => P (.int (-i)) S1
  | _ => False
theorem de_neg (ha : DE X G0 a ta) : DE X G0 (.UnaryOp .USub a pos) (dNeg ta) := PE.imp (pe_un un_neg ha) fun σ H Q ⟨ρ, S, P, st, t, o⟩ =>
  ⟨ρ, S, _, st, t, fun d S1 v H1 t1 n1 r1 => by
    cases d with
    | int i =>
      simp only [Rep] at r1
      exact ⟨i, r1, o _ _ _ _ t1 n1 (by simp only [Rep])⟩
    | _ => exact t1.elim⟩
end
mutual
def toP : D → PyData
  | .bl b => .bool b
  | .int i => .int i
  | .str x => .str x
  | .lst xs => .list (toPs xs)
  | .tup xs => .tuple (toPs xs)
  | _ => .none
def toPs : List D → List PyData
  | [] => []
  | d :: ds => toP d :: toPs ds
end
mutual
def pureD : D → Bool
  | .ref _ => false
  | .ty _ => false
  | .scr _ => false
  | .lst xs => pureDs xs
  | .tup xs => pureDs xs
  | _ => true
def pureDs : List D → Bool
  | [] => true
  | d :: ds => pureD d && pureDs ds
end
mutual
theorem Rep.dp {K : PySem.W.Frag} {G H : Hp} (s : Same G H) : ∀ (d : D) (v : V), pureD d = true → Rep K G d v → Dp K H v (toP d)
  | .non, v, _, r => by simp only [Rep] at r; subst r; simp only [toP]; exact .non
  | .bl b, v, _, r => by simp only [Rep] at r; subst r; simp only [toP]; exact .bl b
  | .int i, v, _, r => by simp only [Rep] at r; subst r; simp only [toP]; exact .int i
  | .str x, v, _, r => by simp only [Rep] at r; subst r; simp only [toP]; exact .str x
  | .lst ds, v, p, r => by
    simp only [Rep] at r
    simp only [pureD] at p
    obtain ⟨a, vs, rfl, q, t⟩ := r
    simp only [toP]
    exact .lst (SqL.of (s _ _ q)) (Reps.dp s ds vs p t)
  | .tup ds, v, p, r => by
    simp only [Rep] at r
    simp only [pureD] at p
    obtain ⟨a, vs, rfl, q, t⟩ := r
    simp only [toP]
    exact .tup (SqT.of (s _ _ q)) (Reps.dp s ds vs p t)
  | .ref a, v, p, r => by simp only [pureD] at p; cases p
  | .ty n, v, p, r => by simp only [pureD] at p; cases p
  | .scr ns, v, p, r => by simp only [pureD] at p; cases p
theorem Reps.dp {K : PySem.W.Frag} {G H : Hp} (s : Same G H) : ∀ (ds : List D) (vs : List V), pureDs ds = true → Reps K G ds vs → DpAll K H vs (toPs ds)
  | [], vs, _, r => by simp only [Reps] at r; subst r; simp only [toPs]; exact .nil
  | d :: ds, vs, p, r => by
    simp only [Reps] at r
    simp only [pureDs, Bool.and_eq_true] at p
    obtain ⟨v, t, rfl, q, s'⟩ := r
    simp only [toPs]
    exact .cons (Rep.dp s d v p.1 q) (Reps.dp s ds t p.2 s')
end
def okD (d : D) : Bool := pureD d && SeqAt.shaped (toP d)
def dEq (a b : D) : Bool := PyData.eqv (toP a) (toP b)
theorem rs_dp {K : PySem.W.Frag} {G H : Hp} {S : Sto} {d : D} {v : V} (n : Nx K G S H) (r : Rep K (wo H S) d v) (p : pureD (rs S d) = true) : Dp K H v (toP (rs S d)) := by
  unfold rs at p ⊢
  cases e : vm S d with
  | none =>
    rw [e] at p
    exact Rep.dp (wo_le H S) d v p r
  | some xs =>
    rw [e] at p
    obtain ⟨a, vs, rfl, ha, t⟩ := vm_rep n r e
    simp only [pureD] at p
    simp only [toP]
    exact .lst (SqL.of ha) (Reps.dp (wo_le H S) xs vs p t)
def eqR (neg : Bool) : R2D := fun x y S P => okD (rs S x) = true ∧ okD (rs S y) = true ∧ P (.bl (neg ^^ dEq (rs S x) (rs S y))) S
theorem okD_and {d : D} (h : okD d = true) : pureD d = true ∧ SeqAt.shaped (toP d) = true := Bool.and_eq_true_iff.mp h
theorem lift_eq {K : PySem.W.Frag} : Lift2 K (rEqD K) (eqR false) := by
  intro x y u v G S H P Q n ru rv t o
  obtain ⟨h1, h2, t⟩ := t
  refine ⟨_, _, rs_dp n ru (okD_and h1).1, rs_dp n rv (okD_and h2).1, (okD_and h1).2, (okD_and h2).2, ?_⟩
  refine o.now n t ?_
  simp only [Rep, Bool.false_bne]; rfl
theorem lift_ne {K : PySem.W.Frag} : Lift2 K (rNeD K) (eqR true) := by
  intro x y u v G S H P Q n ru rv t o
  obtain ⟨h1, h2, t⟩ := t
  refine ⟨_, _, rs_dp n ru (okD_and h1).1, rs_dp n rv (okD_and h2).1, (okD_and h1).2, (okD_and h2).2, ?_⟩
  refine o.now n t ?_
  simp only [Rep, Bool.true_bne]; rfl
section
variable {X : Cx} {G0 : Hp} {pos : Pos} {a b : Expr} {ta tb : TDE} {k : Nat}
theorem de_eq (hr : Room k X.A) (ha : DE X G0 a ta) (hb : DE X G0 b tb) : DE X G0 (.Compare a [.Eq] [b] pos) (dOp (eqR false) ta tb) := de_cmp (op_eqD hr.units) lift_eq ha hb (nomark _)
theorem dt_eq (hr : Room k X.A) (ha : DE X G0 a ta) (hb : DE X G0 b tb) : DT X G0 (.Compare a [.Eq] [b] pos) (dB (dOp (eqR false) ta tb)) := dt_cmp (op_eqD hr.units) lift_eq ha hb (nomark _)
theorem de_ne (hr : Room k X.A) (ha : DE X G0 a ta) (hb : DE X G0 b tb) : DE X G0 (.Compare a [.NotEq] [b] pos) (dOp (eqR true) ta tb) := de_cmp (op_neD hr.units) lift_ne ha hb (nomark _)
theorem dt_ne (hr : Room k X.A) (ha : DE X G0 a ta) (hb : DE X G0 b tb) : DT X G0 (.Compare a [.NotEq] [b] pos) (dB (dOp (eqR true) ta tb)) := dt_cmp (op_neD hr.units) lift_ne ha hb (nomark _)
end
end DL
namespace DL
open PySem L2
def ORep (K : PySem.W.Frag) (G : Hp) : Option D → Option V → Prop
  | some d, some v => Rep K G d v
  | none, none => True
  | _, _ => False
theorem ORep.isSome {K : PySem.W.Frag} {G : Hp} : ∀ {o : Option D} {u : Option V}, ORep K G o u → u.isSome = o.isSome
  | some _, some _, _ => rfl
  | none, none, _ => rfl
theorem ORep.some_of {K : PySem.W.Frag} {G : Hp} {d : D} : ∀ {u : Option V}, ORep K G (some d) u → ∃ v, u = some v ∧ Rep K G d v
  | some v, h => ⟨v, rfl, h⟩
  | none, h => h.elim
theorem ORep.getD {K : PySem.W.Frag} {G : Hp} {d : D} {v : V} : ∀ {o : Option D} {u : Option V}, ORep K G o u → Rep K G d v → Rep K G (o.getD d) (u.getD v)
  | some _, some _, h, _ => h
  | none, none, _, h => h
section
variable {κ κ' : Type} [DecidableEq κ] [DecidableEq κ']
def dget (kvs : List (κ × D)) (k : κ) : Option D := (kvs.find? fun p => decide (p.1 = k)).map (·.2)
def dput (kvs : List (κ × D)) (k : κ) (d : D) : List (κ × D) :=
  if kvs.any (fun p => decide (p.1 = k)) then kvs.map (fun p => if p.1 = k then (p.1, d) else p) else kvs ++ [(k, d)]
def ddrop (kvs : List (κ × D)) (k : κ) : List (κ × D) := kvs.filter fun p => decide (p.1 ≠ k)
variable {K : PySem.W.Frag} {G : Hp} {f : κ → κ'}
theorem zip_get (hf : ∀ a b, f a = f b → a = b) (k : κ) : ∀ {kvs : List (κ × D)} {vs : List V}, Reps K G (kvs.map (·.2)) vs →
    ORep K G (dget kvs k) (valV ((kvs.map fun p => f p.1).zip vs) (f k))
  | [], vs, r => True.intro
  | (a, d) :: kvs, vs, r => by
    simp only [List.map_cons, Reps] at r
    obtain ⟨v, t, rfl, q, s⟩ := r
    simp only [List.map_cons, List.zip_cons_cons]
    by_cases e : a = k
    · have e1 : dget ((a, d) :: kvs) k = some d := by simp [dget, List.find?_cons, e]
      have e2 : valV ((f a, v) :: (kvs.map fun p => f p.1).zip t) (f k) = some v := valV_pos (p := (f a, v)) (by rw [e])
      rw [e1, e2]
      exact q
    · have e1 : dget ((a, d) :: kvs) k = dget kvs k := by simp [dget, List.find?_cons, e]
      have e2 : valV ((f a, v) :: (kvs.map fun p => f p.1).zip t) (f k) = valV ((kvs.map fun p => f p.1).zip t) (f k) := valV_neg (p := (f a, v)) fun z => e (hf _ _ z)
      rw [e1, e2]
      exact zip_get hf k s
theorem zip_isSome (hf : ∀ a b, f a = f b → a = b) (k : κ) {kvs : List (κ × D)} {vs : List V} (r : Reps K G (kvs.map (·.2)) vs) : (valV ((kvs.map fun p => f p.1).zip vs) (f k)).isSome = (dget kvs k).isSome :=
  (zip_get hf k r).isSome
theorem any_get (k : κ) : ∀ kvs : List (κ × D), (kvs.any fun p => decide (p.1 = k)) = (dget kvs k).isSome
  | [] => rfl
  | (a, d) :: r => by
    have ih := any_get k r
    by_cases e : a = k
    · simp [dget, List.find?_cons, e]
    · have e1 : dget ((a, d) :: r) k = dget r k := by simp [dget, List.find?_cons, e]
      rw [e1, List.any_cons, ← ih]
      simp [e]
theorem zip_map (hf : ∀ a b, f a = f b → a = b) (k : κ) {d : D} {v : V} (q : Rep K G d v) : ∀ {kvs : List (κ × D)} {vs : List V}, Reps K G (kvs.map (·.2)) vs →
    ∃ us, ((kvs.map fun p => f p.1).zip vs).map (fun kv => if kv.1 = f k then (kv.1, v) else kv) = (((kvs.map fun p => if p.1 = k then (p.1, d) else p)).map fun p => f p.1).zip us ∧ Reps K G ((kvs.map fun p => if p.1 = k then (p.1, d) else p).map (·.2)) us
  | [], vs, r => by
    simp only [List.map_nil, Reps] at r; subst r
    exact ⟨[], rfl, Reps.nil⟩
  | (a, d') :: kvs, vs, r => by
    simp only [List.map_cons, Reps] at r
    obtain ⟨v', t, rfl, q', s⟩ := r
    obtain ⟨us, e, ru⟩ := zip_map hf k q s
    by_cases h : a = k
    · subst h
      refine ⟨v :: us, ?_, ?_⟩
      · simp only [List.map_cons, List.zip_cons_cons, if_true, e]
      · simp only [List.map_cons, if_true]
        exact Reps.cons q ru
    · have h' : ¬ f a = f k := fun z => h (hf _ _ z)
      refine ⟨v' :: us, ?_, ?_⟩
      · simp only [List.map_cons, List.zip_cons_cons, if_neg h, if_neg h', e]
      · simp only [List.map_cons, if_neg h]
        exact Reps.cons q' ru
theorem zip_put (hf : ∀ a b, f a = f b → a = b) (k : κ) {d : D} {v : V} (q : Rep K G d v) {kvs : List (κ × D)} {vs : List V} (r : Reps K G (kvs.map (·.2)) vs) :
    ∃ us, putK ((kvs.map fun p => f p.1).zip vs) (f k) v = ((dput kvs k d).map fun p => f p.1).zip us ∧ Reps K G ((dput kvs k d).map (·.2)) us := by
  unfold putK dput
  rw [valV_any, zip_isSome hf k r, any_get]
  cases e : (dget kvs k).isSome with
  | true =>
    simp only [if_true]
    exact zip_map hf k q r
  | false =>
    have hl := r.len
    rw [List.length_map] at hl
    refine ⟨vs ++ [v], ?_, ?_⟩
    · simp only [Bool.false_eq_true, if_false, List.map_append, List.map_cons, List.map_nil]
      rw [List.zip_append (by rw [List.length_map]; exact hl)]
      rfl
    · simp only [Bool.false_eq_true, if_false, List.map_append, List.map_cons, List.map_nil]
      exact r.app (Reps.cons q Reps.nil)
theorem dput_len (kvs : List (κ × D)) (k : κ) (d : D) : (dput kvs k d).length ≤ kvs.length + 1 := by
  unfold dput
  split
  · rw [List.length_map]; omega
  · rw [List.length_append]; simp
end
theorem inl_inj : ∀ a b : List Int, (a.map Sum.inl : List Key) = b.map Sum.inl → a = b := by
  intro a
  induction a with
  | nil => intro b h; cases b with | nil => rfl | cons _ _ => simp at h
  | cons x xs ih =>
    intro b h
    cases b with
    | nil => simp at h
    | cons y ys =>
      simp only [List.map_cons, List.cons.injEq, Sum.inl.injEq] at h
      rw [h.1, ih _ h.2]
theorem inr_inj : ∀ a b : Str, (Sum.inr a : Key) = Sum.inr b → a = b := fun a b h => Sum.inr.inj h
def kInts : List D → Option (List Int)
  | [] => some []
  | .int i :: r => (kInts r).map (i :: ·)
  | _ => none
def kI : D → Option (List Int)
  | .tup xs => kInts xs
  | _ => none
theorem kInts_map : ∀ ns : List Int, kInts (ns.map D.int) = some ns
  | [] => rfl
  | n :: r => by simp only [List.map_cons, kInts, kInts_map r, Option.map_some]
theorem kInts_eq : ∀ {xs : List D} {ns : List Int}, kInts xs = some ns → xs = ns.map D.int
  | [], ns, h => by cases h; rfl
  | .int i :: r, ns, h => by
    simp only [kInts] at h
    cases e : kInts r with
    | none => rw [e] at h; cases h
    | some t =>
      rw [e] at h; cases h
      rw [List.map_cons, kInts_eq e]
  | .non :: r, ns, h => by cases h
  | .bl _ :: r, ns, h => by cases h
  | .str _ :: r, ns, h => by cases h
  | .lst _ :: r, ns, h => by cases h
  | .tup _ :: r, ns, h => by cases h
  | .ref _ :: r, ns, h => by cases h
  | .ty _ :: r, ns, h => by cases h
  | .scr _ :: r, ns, h => by cases h
theorem kI_rep {K : PySem.W.Frag} {G H : Hp} (s : Same G H) {d : D} {v : V} {ns : List Int} (r : Rep K G d v) (e : kI d = some ns) : ∃ b, v = .ref b ∧ H b = some (.tup ((ns.map Sum.inl : List Key).map kV)) := by
  cases d with
  | tup xs =>
    have e' := kInts_eq (xs := xs) e
    subst e'
    simp only [Rep] at r
    obtain ⟨b, vs, rfl, q, t⟩ := r
    have := Reps.ints t
    subst this
    refine ⟨b, rfl, ?_⟩
    rw [s _ _ q, List.map_map]
    rfl
  | _ => cases e
def dgetS (S : Sto) (x y : D) : Option (Option D) := match x with
  | .ref p => match S p with
    | some (.dI kvs) => (kI y).map fun k => dget kvs k
    | some (.dS kvs) => match y with
      | .str z => some (dget kvs z)
      | _ => none
    | _ => none
  | _ => none
theorem dgetS_ok {K : PySem.W.Frag} {G H : Hp} {S : Sto} {x y : D} {u v : V} {o : Option D} (n : Nx K G S H) (ru : Rep K (wo H S) x u) (rv : Rep K (wo H S) y v) (e : dgetS S x y = some o) :
    ∃ a ov, u = .ref a ∧ DGet H a v ov ∧ IsD H a ∧ ORep K (wo H S) o ov := by
  cases x with
  | ref p =>
    simp only [Rep] at ru
    simp only [dgetS] at e
    cases h : S p with
    | none => rw [h] at e; cases e
    | some c =>
      rw [h] at e
      cases c with
      | ml _ => cases e
      | ins _ _ => cases e
      | dI kvs =>
        dsimp only at e
        cases ek : kI y with
        | none => rw [ek] at e; cases e
        | some k =>
          rw [ek] at e
          cases e
          obtain ⟨vs, hH, r⟩ := n.ok p _ h
          obtain ⟨b, rfl, hb⟩ := kI_rep (wo_le H S) rv ek
          exact ⟨p, _, ru, DGet.t hH hb, .inr ⟨_, .inl hH⟩, zip_get (f := fun k : List Int => (k.map Sum.inl : List Key)) inl_inj k r⟩
      | dS kvs =>
        dsimp only at e
        cases y with
        | str z =>
          cases e
          obtain ⟨vs, hH, r⟩ := n.ok p _ h
          simp only [Rep] at rv
          subst rv
          exact ⟨p, _, ru, DGet.k (k := Sum.inr z) hH, .inl ⟨_, .inl hH⟩, zip_get (f := fun k : Str => (Sum.inr k : Key)) inr_inj z r⟩
        | _ => cases e
  | _ => cases e
section
variable {X : Cx}
theorem ix_dict (hu : X.A.units + 1 < cLine) : IxR X (fun x y H Q => ∃ a v, x = .ref a ∧ DGet H a y (some v) ∧ Q v H) := by
  intro value slice pins s σ H x y v u Q I rx ry h hs
  obtain ⟨a, z, rfl, g, q⟩ := h
  cases (show v = Value.ref a from rx)
  exact PyProof.Rows.tail_any (dict_typeIs I g) PySem.F.slot_dict_getitem.lookup (d_getItem hu I g ry fun w' s3 I3 rw' => ⟨z, H, I3, rw', q⟩) hs
theorem op_in_dict (hu : X.A.units + 1 < cLine) : OpR X (compareOp .In) (fun x y H Q => ∃ a o, y = .ref a ∧ DGet H a x o ∧ Q (.bl o.isSome) H) := by
  intro pins s σ H x y v u Q I rx ry h
  obtain ⟨a, o, rfl, g, q⟩ := h
  cases (show u = Value.ref a from ry)
  exact d_in hu I g rx fun s' I' => ⟨.bl o.isSome, H, I', rfl, q⟩
theorem op_notIn_dict (hu : X.A.units + 1 < cLine) : OpR X (compareOp .NotIn) (fun x y H Q => ∃ a o, y = .ref a ∧ DGet H a x o ∧ Q (.bl (!o.isSome)) H) := by
  intro pins s σ H x y v u Q I rx ry h
  obtain ⟨a, o, rfl, g, q⟩ := h
  cases (show u = Value.ref a from ry)
  exact d_notIn hu I g rx fun s' I' => ⟨.bl (!o.isSome), H, I', rfl, q⟩
theorem set_dict (hu : X.A.units + 1 < cLine) : PSet X (fun o i v H Q => ∃ a H', o = .ref a ∧ DPut H a i v H' ∧ Q H') := by
  intro pins s σ H o i v ov iv u Q I ro ri rv h
  obtain ⟨a, H', rfl, g, q⟩ := h
  cases (show ov = Value.ref a from ro)
  exact d_setItem hu I g ri rv fun s' I' => ⟨H', I', q⟩
theorem PSet.or {t t' : TSet} (h : PSet X t) (h' : PSet X t') : PSet X (fun o i v H Q => t o i v H Q ∨ t' o i v H Q) := by
  intro pins s σ H o i v ov iv u Q I ro ri rv q
  rcases q with q | q
  · exact h pins s σ H o i v ov iv u Q I ro ri rv q
  · exact h' pins s σ H o i v ov iv u Q I ro ri rv q
end
def ixL (xs : List D) (y : D) (S : Sto) (P : D → Sto → Prop) : Prop := match y with
  | .int i => match atI xs i with
    | some d => P d S
    | none => False
  | _ => False
def ixT (z : Str) (y : D) (S : Sto) (P : D → Sto → Prop) : Prop := match y with
  | .int i => z.length ≤ sizeLine ∧ match atI z.cps.toList i with
    | some c => P (.str ⟨#[c]⟩) S
    | none => False
  | _ => False
def ixK (o : Option (Option D)) (S : Sto) (P : D → Sto → Prop) : Prop := match o with
  | some (some d) => P d S
  | _ => False
def ixLK (l : Option (List D)) (x y : D) (S : Sto) (P : D → Sto → Prop) : Prop := match l with
  | some xs => ixL xs y S P
  | none => ixK (dgetS S x y) S P
def ixD : R2D := fun x y S P => match x with
  | .tup xs => ixL xs y S P
  | .str z => ixT z y S P
  | x => ixLK (vl S x) x y S P
theorem Reps.at {K : PySem.W.Frag} {G : Hp} {ds : List D} {vs : List V} {i : Int} {d : D} (r : Reps K G ds vs) (e : atI ds i = some d) : ∃ v, atI vs i = some v ∧ Rep K G d v := by
  unfold atI at e ⊢
  rw [← r.len]
  cases h : ixN ds.length i with
  | none => rw [h] at e; cases e
  | some j =>
    rw [h] at e
    exact r.get e
theorem ixL_ok {ds : List D} {y : D} {S : Sto} {P : D → Sto → Prop} (t : ixL ds y S P) : ∃ i d, y = .int i ∧ atI ds i = some d ∧ P d S := by
  cases y with
  | int i =>
    simp only [ixL] at t
    cases h : atI ds i with
    | none => rw [h] at t; exact t.elim
    | some d => rw [h] at t; exact ⟨i, d, rfl, h, t⟩
  | _ => exact t.elim
theorem ixT_ok {z : Str} {y : D} {S : Sto} {P : D → Sto → Prop} (t : ixT z y S P) : ∃ i c, y = .int i ∧ z.length ≤ sizeLine ∧ atI z.cps.toList i = some c ∧ P (.str ⟨#[c]⟩) S := by
  cases y with
  | int i =>
    simp only [ixT] at t
    cases h : atI z.cps.toList i with
    | none => rw [h] at t; exact t.2.elim
    | some c => rw [h] at t; exact ⟨i, c, rfl, t.1, h, t.2⟩
  | _ => exact t.elim
theorem lift_ix {K : PySem.W.Frag} : Lift2 K (fun x y H Q => rIx K x y H Q ∨ ∃ a v, x = .ref a ∧ DGet H a y (some v) ∧ Q v H) ixD := by
  intro x y u v G S H P Q n ru rv t o
  have lk : ixLK (vl S x) x y S P → (rIx K u v H Q ∨ ∃ a w, u = .ref a ∧ DGet H a v (some w) ∧ Q w H) := fun t => by
    cases e : vl S x with
    | some xs =>
      rw [e] at t
      obtain ⟨i, d, rfl, h, p⟩ := ixL_ok t
      obtain ⟨a, vs, rfl, q, r⟩ := vl_rep n ru e
      obtain ⟨w, hw, rw'⟩ := r.at h
      simp only [Rep] at rv
      exact .inl (.inl ⟨a, vs, i, w, rfl, rv, q, hw, o.now n p rw'⟩)
    | none =>
      rw [e] at t
      simp only [ixLK] at t
      cases e : dgetS S x y with
      | none => rw [e] at t; exact t.elim
      | some z =>
        cases z with
        | none => rw [e] at t; exact t.elim
        | some d =>
          rw [e] at t
          obtain ⟨a, ov, rfl, g, _, r⟩ := dgetS_ok n ru rv e
          obtain ⟨w, rfl, rw'⟩ := r.some_of
          exact .inr ⟨a, w, rfl, g, o.now n t rw'⟩
  cases x with
  | tup xs =>
    obtain ⟨i, d, rfl, h, p⟩ := ixL_ok (ds := xs) t
    simp only [Rep] at ru rv
    obtain ⟨a, vs, rfl, q, r⟩ := ru
    obtain ⟨w, hw, rw'⟩ := r.at h
    exact .inl (.inr (.inl ⟨a, vs, i, w, rfl, rv, SqT.of (wo_le _ _ _ _ q), hw, o.now n p rw'⟩))
  | str z =>
    obtain ⟨i, c, rfl, hl, h, p⟩ := ixT_ok (z := z) t
    simp only [Rep] at ru rv
    exact .inl (.inr (.inr ⟨z, i, c, ru, rv, hl, h, o.now n p (by simp only [Rep])⟩))
  | _ => exact lk t
def inS (neg : Bool) (x : D) (j : Str) (S : Sto) (P : D → Sto → Prop) : Prop := match x with
  | .str i => P (.bl (neg ^^ !(Builtin.Str.occurrences j i 0 j.length 1).isEmpty)) S
  | _ => False
def inK (neg : Bool) (o : Option (Option D)) (S : Sto) (P : D → Sto → Prop) : Prop := match o with
  | some o => P (.bl (neg ^^ o.isSome)) S
  | none => False
def inL (neg : Bool) (l : Option (List D)) (x y : D) (S : Sto) (P : D → Sto → Prop) : Prop := match l with
  | some ys => okD (rs S x) = true ∧ okD (.lst ys) = true ∧ P (.bl (neg ^^ ys.any fun z => dEq z (rs S x))) S
  | none => inK neg (dgetS S y x) S P
def inR (neg : Bool) : R2D := fun x y S P => match y with
  | .str j => inS neg x j S P
  | y => inL neg (vm S y) x y S P
theorem toPs_any (x : D) : ∀ ys : List D, ((toPs ys).any fun z => PyData.eqv z (toP x)) = ys.any fun z => dEq z x
  | [] => rfl
  | y :: ys => by simp only [toPs, List.any_cons, toPs_any x ys]; rfl
theorem lift_in {K : PySem.W.Frag} (neg : Bool) (rl rd rstr : R2)
    (hl : rl = fun x y H Q => ∃ d ds, Dp K H x d ∧ Dp K H y (.list ds) ∧ SeqAt.shaped d = true ∧ SeqAt.shaped (.list ds) = true ∧ Q (.bl (neg ^^ ds.any fun z => PyData.eqv z d)) H)
    (hd : rd = fun x y H Q => ∃ a o, y = .ref a ∧ DGet H a x o ∧ Q (.bl (neg ^^ o.isSome)) H)
    (hs : rstr = fun x y H Q => ∃ i j, x = .str i ∧ y = .str j ∧ Q (.bl (neg ^^ !(Builtin.Str.occurrences j i 0 j.length 1).isEmpty)) H) :
    Lift2 K (fun x y H Q => (rl x y H Q ∨ rd x y H Q) ∨ rstr x y H Q) (inR neg) := by
  subst hl hd hs
  intro x y u v G S H P Q n ru rv t o
  have main : inL neg (vm S y) x y S P → ((∃ d ds, Dp K H u d ∧ Dp K H v (.list ds) ∧ SeqAt.shaped d = true ∧ SeqAt.shaped (.list ds) = true ∧ Q (.bl (neg ^^ ds.any fun z => PyData.eqv z d)) H) ∨ ∃ a o, v = .ref a ∧ DGet H a u o ∧ Q (.bl (neg ^^ o.isSome)) H) := fun t => by
    cases e : vm S y with
    | some ys =>
      rw [e] at t
      obtain ⟨h1, h2, t⟩ := t
      obtain ⟨a, vs, rfl, ha, r⟩ := vm_rep n rv e
      have o2 := okD_and h2
      simp only [pureD, toP] at o2
      refine .inl ⟨_, _, rs_dp n ru (okD_and h1).1, Dp.lst (SqL.of ha) (Reps.dp (wo_le H S) ys vs o2.1 r), (okD_and h1).2, o2.2, ?_⟩
      rw [toPs_any]
      exact o.now n t (by simp only [Rep])
    | none =>
      rw [e] at t
      simp only [inL] at t
      cases e2 : dgetS S y x with
      | none => rw [e2] at t; exact t.elim
      | some z =>
        rw [e2] at t
        obtain ⟨a, ov, rfl, g, _, r⟩ := dgetS_ok n rv ru e2
        refine .inr ⟨a, ov, rfl, g, ?_⟩
        rw [r.isSome]
        exact o.now n t (by simp only [Rep])
  cases y with
  | str j =>
    cases x with
    | str i =>
      simp only [Rep] at ru rv
      exact .inr ⟨i, j, ru, rv, o.now n t (by simp only [Rep])⟩
    | _ => exact t.elim
  | _ => exact .inl (main t)
section
variable {X : Cx} {G0 : Hp} {pos : Pos} {a b : Expr} {ta tb : TDE} {k : Nat}
theorem de_at (hr : Room k X.A) (ha : DE X G0 a ta) (hb : DE X G0 b tb) (hs : PlainIx b := by exact fun _ _ => rfl) : DE X G0 (.Subscript a b pos) (dOp ixD ta tb) := de_ix (ix_seq.or (ix_dict (hu_of hr))) lift_ix ha hb hs
theorem de_in (hr : Room k X.A) (ha : DE X G0 a ta) (hb : DE X G0 b tb) (hm : behindInMarks .In b = false := by rfl) : DE X G0 (.Compare a [.In] [b] pos) (dOp (inR false) ta tb) :=
  de_cmp (((op_inD (by have := hr.un; omega)).or (op_in_dict (hu_of hr))).or op_in_str) (lift_in false _ _ _ (by funext x y H Q; simp only [rInD, Bool.false_bne]) (by funext x y H Q; simp only [Bool.false_bne]) (by funext x y H Q; simp only [Bool.false_bne])) ha hb hm
theorem dt_in (hr : Room k X.A) (ha : DE X G0 a ta) (hb : DE X G0 b tb) (hm : behindInMarks .In b = false := by rfl) : DT X G0 (.Compare a [.In] [b] pos) (dB (dOp (inR false) ta tb)) :=
  dt_cmp (((op_inD (by have := hr.un; omega)).or (op_in_dict (hu_of hr))).or op_in_str) (lift_in false _ _ _ (by funext x y H Q; simp only [rInD, Bool.false_bne]) (by funext x y H Q; simp only [Bool.false_bne]) (by funext x y H Q; simp only [Bool.false_bne])) ha hb hm
theorem de_notIn (hr : Room k X.A) (ha : DE X G0 a ta) (hb : DE X G0 b tb) (hm : behindInMarks .NotIn b = false := by rfl) : DE X G0 (.Compare a [.NotIn] [b] pos) (dOp (inR true) ta tb) :=
  de_cmp (((op_notInD (by have := hr.un; omega)).or (op_notIn_dict (hu_of hr))).or op_notin_str) (lift_in true _ _ _ (by funext x y H Q; simp only [rNotInD, Bool.true_bne]) (by funext x y H Q; simp only [Bool.true_bne]) (by funext x y H Q; simp only [Bool.true_bne])) ha hb hm
theorem dt_notIn (hr : Room k X.A) (ha : DE X G0 a ta) (hb : DE X G0 b tb) (hm : behindInMarks .NotIn b = false := by rfl) : DT X G0 (.Compare a [.NotIn] [b] pos) (dB (dOp (inR true) ta tb)) :=
  dt_cmp (((op_notInD (by have := hr.un; omega)).or (op_notIn_dict (hu_of hr))).or op_notin_str) (lift_in true _ _ _ (by funext x y H Q; simp only [rNotInD, Bool.true_bne]) (by funext x y H Q; simp only [Bool.true_bne]) (by funext x y H Q; simp only [Bool.true_bne])) ha hb hm
end
end DL
namespace DL
open PySem L2
def dNil : TDA := fun _ S P => P [] S
def dCons (ta : TDE) (tr : TDA) : TDA := fun ρ S P => ta ρ S fun x S1 => tr ρ S1 fun xs S2 => P (x :: xs) S2
def dLst (m : Bool) (ta : TDA) : TDE := fun ρ S P => ta ρ S fun xs S1 => xs.length ≤ sizeLine ∧ newL m xs S1 P
def dTup (ta : TDA) : TDE := fun ρ S P => ta ρ S fun xs S1 => xs.length ≤ sizeLine ∧ P (.tup xs) S1
def dNewI : TDE := fun _ S P => ∀ p, S p = none → P (.ref p) (su S p (.dI []))
def dFrz (t : TDE) : TDE := fun ρ S P => t ρ S fun d S1 => match d with
  | .ref p => match S1 p with
    | some (.ml xs) => P (.lst xs) (sd S1 p)
    | _ => P d S1
  | _ => P d S1
abbrev RCD := List D → Sto → (D → Sto → Prop) → Prop
def dCB (r : RCD) (ta : TDA) : TDE := fun ρ S P => ta ρ S fun xs S1 => r xs S1 P
def LiftC (K : PySem.W.Frag) (r : List V → Hp → VK → Prop) (r' : RCD) : Prop := ∀ xs vs G S H P Q, Nx K G S H → Reps K (wo H S) xs vs → r' xs S P → Owe K S H P Q → r vs H Q
theorem LiftC.or {K : PySem.W.Frag} {r s : List V → Hp → VK → Prop} {r' s' : RCD} (h : LiftC K r r') (h' : LiftC K s s') : LiftC K (fun x H Q => r x H Q ∨ s x H Q) (fun x S P => r' x S P ∨ s' x S P) :=
  fun x u G S H P Q n ru t o => t.elim (fun t => .inl (h x u G S H P Q n ru t o)) fun t => .inr (h' x u G S H P Q n ru t o)
section
variable {X : Cx} {G0 : Hp} {pos : Pos} {e : Expr} {es : List Expr} {te : TDE} {ta : TDA}
theorem da_nil : DA X G0 [] dNil := PA.imp pa_nil fun σ H Q ⟨ρ, S, P, st, t, o⟩ => o _ _ _ _ t st.refl Reps.nil
theorem da_cons (he : DE X G0 e te) (ha : DA X G0 es ta) (hs : starEach (e :: es) X.env = (false, eval e X.env) :: starEach es X.env := by rfl) : DA X G0 (e :: es) (dCons te ta) :=
  PA.imp (pa_cons he ha hs) fun σ H Q ⟨ρ, S, P, st, t, o⟩ => ⟨ρ, S, _, st, t, fun d S1 v H1 t1 n1 r1 => ⟨ρ, S1, _, st.next n1, t1, fun ds S2 vs H2 t2 n2 r2 => o _ _ _ _ t2 (n1.trans n2) (Reps.cons (r1.mono n2.st) r2)⟩⟩
theorem de_lst (m : Bool) (ha : DA X G0 es ta) : DE X G0 (.List es pos) (dLst m ta) :=
  PE.imp (pe_lst ha) fun σ H Q ⟨ρ, S, P, st, t, o⟩ => ⟨ρ, S, _, st, t, fun ds S1 vs H1 t1 n1 r1 => ⟨by rw [← r1.len]; exact t1.1, fun p hp => newL_ok n1 r1 hp t1.2 fun d S' v H' a b c => o _ _ _ _ a (n1.trans b) c⟩⟩
theorem de_tup {x1} (ha : DA X G0 es ta) : DE X G0 (.Tuple es x1 pos) (dTup ta) :=
  PE.imp (pe_tup ha) fun σ H Q ⟨ρ, S, P, st, t, o⟩ => ⟨ρ, S, _, st, t, fun ds S1 vs H1 t1 n1 r1 => ⟨by rw [← r1.len]; exact t1.1, fun p hp => newT_ok n1 r1 hp t1.2 fun d S' v H' a b c => o _ _ _ _ a (n1.trans b) c⟩⟩
theorem de_dict0 : DE X G0 (.Dict [] [] pos) dNewI :=
  PE.imp pe_dnewT fun σ H Q ⟨ρ, S, P, st, t, o⟩ p hp => o _ _ _ _ (t p (st.nx.free hp)) (st.nx.cell hp fun G' s => ⟨[], upd_same, Reps.nil⟩) (by simp only [Rep])
theorem de_frz (he : DE X G0 e te) : DE X G0 e (dFrz te) := PE.imp he fun σ H Q ⟨ρ, S, P, st, t, o⟩ => ⟨ρ, S, _, st, t, fun d S1 v H1 t1 n1 r1 => by
    cases d with
    | ref p =>
      dsimp only at t1
      cases h : S1 p with
      | none => rw [h] at t1; exact o _ _ _ _ t1 n1 r1
      | some c =>
        rw [h] at t1
        cases c with
        | ml xs =>
          obtain ⟨n2, r2⟩ := n1.frz h
          simp only [Rep] at r1
          subst r1
          exact o _ _ _ _ t1 (n1.trans n2) r2
        | dI _ => exact o _ _ _ _ t1 n1 r1
        | dS _ => exact o _ _ _ _ t1 n1 r1
        | ins _ _ => exact o _ _ _ _ t1 n1 r1
    | _ => exact o _ _ _ _ t1 n1 r1⟩
theorem up_cb {r : List V → Hp → VK → Prop} {r' : RCD} (hl : LiftC X.K r r') (σ : St) (H : Hp) (Q : VK) (h : upE X.K G0 (dCB r' ta) σ H Q) : tCB r (upA X.K G0 ta) σ H Q := by
  obtain ⟨ρ, S, P, st, t, o⟩ := h
  exact ⟨ρ, S, _, st, t, fun ds S1 vs H1 t1 n1 r1 => hl ds vs _ S1 H1 P Q n1 r1 t1 fun d S' v H' a b c => o _ _ _ _ a (n1.trans b) c⟩
theorem de_callB {x : Str} {p : Pos} {id : String} {r : List V → Hp → VK → Prop} {r' : RCD} (hc : CallR X (.builtin id) r) (hl : LiftC X.K r r') (hg : Gl X x) (hm : X.mg x = none) (hv : bootBuiltins x = some (.builtin id)) (ha : DA X G0 (e :: es) ta)
    (hn : x ≠ "__name__" := by decide) (hdb : (x == ("__debug__" : Str)) = false := by decide)
    (he : starEach (e :: es) X.env = (false, eval e X.env) :: starEach es X.env := by rfl) (hpl : (backTo pos (starEach es X.env)).any (·.1) = false := by rfl) : DE X G0 (.Call (.Name x p) (e :: es) [] pos) (dCB r' ta) :=
  PE.imp (pe_callB hc hg hm hv ha hn hdb he hpl) (up_cb hl)
theorem de_callTy {x : Str} {p : Pos} {T : String} {r : List V → Hp → VK → Prop} {r' : RCD} (hc : CallR X (.type T) r) (hl : LiftC X.K r r') (hg : Gl X x) (hm : X.mg x = none) (hv : bootBuiltins x = some (.type T)) (ha : DA X G0 (e :: es) ta)
    (hn : x ≠ "__name__" := by decide) (hdb : (x == ("__debug__" : Str)) = false := by decide)
    (he : starEach (e :: es) X.env = (false, eval e X.env) :: starEach es X.env := by rfl) (hpl : (backTo pos (starEach es X.env)).any (·.1) = false := by rfl) : DE X G0 (.Call (.Name x p) (e :: es) [] pos) (dCB r' ta) :=
  PE.imp (pe_callTy hc hg hm hv ha hn hdb he hpl) (up_cb hl)
end
def lenS (S : Sto) : D → Option Nat
  | .tup xs => some xs.length
  | .ref p => match S p with
    | some (.ml xs) => some xs.length
    | some (.dI kvs) => some kvs.length
    | _ => none
  | .lst xs => some xs.length
  | .scr ns => some ns.length
  | _ => none
def lenD : RCD := fun xs S P => match xs with
  | [.str z] => z.length ≤ sizeLine ∧ P (.int z.length) S
  | [x] => match lenS S x with
    | some n => P (.int n) S
    | none => False
  | _ => False
theorem Reps.one {K : PySem.W.Frag} {G : Hp} {d : D} {vs : List V} (r : Reps K G [d] vs) : ∃ v, vs = [v] ∧ Rep K G d v := by
  simp only [Reps] at r
  obtain ⟨v, t, rfl, q, rfl⟩ := r
  exact ⟨v, rfl, q⟩
theorem Reps.two {K : PySem.W.Frag} {G : Hp} {d e : D} {vs : List V} (r : Reps K G [d, e] vs) : ∃ v u, vs = [v, u] ∧ Rep K G d v ∧ Rep K G e u := by
  simp only [Reps] at r
  obtain ⟨v, t, rfl, q, u, t', rfl, q', rfl⟩ := r
  exact ⟨v, u, rfl, q, q'⟩
theorem lift_len {K : PySem.W.Frag} : LiftC K (fun xs H Q => (∃ x n, xs = [x] ∧ LenV K x H n ∧ Q (.int n) H) ∨ rLenT xs H Q) lenD := by
  intro xs vs G S H P Q n r t o
  match xs, t with
  | [], t => exact t.elim
  | _ :: _ :: _, t => cases (show False by first | exact t | (unfold lenD at t; split at t <;> simp_all))
  | [x], t =>
    obtain ⟨v, ev, rx⟩ := r.one
    clear r
    subst ev
    have r := rx
    clear rx
    cases x with
    | str z =>
      simp only [Rep] at r
      subst r
      exact .inl ⟨_, z.length, rfl, ⟨t.1, rfl⟩, o.now n t.2 (by simp only [Rep])⟩
    | tup ds =>
      simp only [Rep] at r
      obtain ⟨a, us, rfl, q, r⟩ := r
      exact .inl ⟨_, ds.length, rfl, .inr ⟨us, SqT.of (wo_le _ _ _ _ q), r.len⟩, o.now n t (by simp only [Rep])⟩
    | lst ds =>
      simp only [Rep] at r
      obtain ⟨a, us, rfl, q, r⟩ := r
      exact .inl ⟨_, ds.length, rfl, .inl ⟨us, SqL.of (wo_le _ _ _ _ q), r.len⟩, o.now n t (by simp only [Rep])⟩
    | scr ns =>
      simp only [Rep] at r
      obtain ⟨a, rfl, q⟩ := r
      exact .inl ⟨_, ns.length, rfl, .inl ⟨_, (wo_le H S).seq q, by rw [List.length_map]⟩, o.now n t (by simp only [Rep])⟩
    | ref p =>
      simp only [lenD, lenS] at t
      simp only [Rep] at r
      subst r
      cases h : S p with
      | none => rw [h] at t; exact t.elim
      | some c =>
        rw [h] at t
        cases c with
        | ml ds =>
          obtain ⟨us, q, r⟩ := n.ok p _ h
          exact .inl ⟨_, ds.length, rfl, .inl ⟨us, SqL.of q, r.len⟩, o.now n t (by simp only [Rep])⟩
        | dI kvs =>
          obtain ⟨us, q, r⟩ := n.ok p _ h
          refine .inr ⟨p, _, rfl, q, ?_⟩
          have e : (((kvs.map fun p => (p.1.map Sum.inl : List Key)).zip us).length : Int) = kvs.length := by
            have := r.len
            simp only [List.length_map] at this
            rw [List.length_zip, List.length_map, ← this, Nat.min_self]
          rw [e]
          exact o.now n t (by simp only [Rep])
        | dS _ => exact t.elim
        | ins _ _ => exact t.elim
    | non => exact t.elim
    | bl b => exact t.elim
    | int i => exact t.elim
    | ty s => exact t.elim
def i2D (f : Int → Int → Int) : RCD := fun xs S P => match xs with
  | [.int i, .int j] => P (.int (f i j)) S
  | _ => False
theorem i2D_ok {f : Int → Int → Int} {xs : List D} {S : Sto} {P : D → Sto → Prop} (t : i2D f xs S P) : ∃ i j, xs = [.int i, .int j] ∧ P (.int (f i j)) S := by
  unfold i2D at t
  split at t
  · exact ⟨_, _, rfl, t⟩
  · exact t.elim
theorem lift_min {K : PySem.W.Frag} : LiftC K (fun xs H Q => ∃ i j, xs = [.int i, .int j] ∧ Q (.int (if j < i then j else i)) H) (i2D min) := by
  intro xs vs G S H P Q n r t o
  obtain ⟨i, j, rfl, t⟩ := i2D_ok t
  obtain ⟨v, u, rfl, r1, r2⟩ := r.two
  simp only [Rep] at r1 r2
  subst r1 r2
  refine ⟨i, j, rfl, ?_⟩
  have e : (if j < i then j else i) = min i j := by split <;> omega
  rw [e]
  exact o.now n t (by simp only [Rep])
theorem lift_max {K : PySem.W.Frag} : LiftC K (fun xs H Q => ∃ i j, xs = [.int i, .int j] ∧ Q (.int (if j > i then j else i)) H) (i2D max) := by
  intro xs vs G S H P Q n r t o
  obtain ⟨i, j, rfl, t⟩ := i2D_ok t
  obtain ⟨v, u, rfl, r1, r2⟩ := r.two
  simp only [Rep] at r1 r2
  subst r1 r2
  refine ⟨i, j, rfl, ?_⟩
  have e : (if j > i then j else i) = max i j := by split <;> omega
  rw [e]
  exact o.now n t (by simp only [Rep])
def absD : RCD := fun xs S P => match xs with
  | [.int i] => P (.int (if i < 0 then -i else i)) S
  | _ => False
theorem lift_abs {K : PySem.W.Frag} : LiftC K (fun xs H Q => ∃ i, xs = [.int i] ∧ Q (.int (if i < 0 then -i else i)) H) absD := by
  intro xs vs G S H P Q n r t o
  unfold absD at t
  split at t
  · obtain ⟨v, ev, rx⟩ := r.one
    clear r
    subst ev
    have r := rx
    clear rx
    simp only [Rep] at r
    subst r
    exact ⟨_, rfl, o.now n t (by simp only [Rep])⟩
  · exact t.elim
def keysS (S : Sto) : D → Option (List (List Int))
  | .ref p => match S p with
    | some (.dI kvs) => some (kvs.map (·.1))
    | _ => none
  | _ => none
def listD (m : Bool) : RCD := fun xs S P => match xs with
  | [.tup ds] => newL m ds S P
  | [x] => match vl S x with
    | some ds => newL m ds S P
    | none => match keysS S x with
      | some ks => newL m (ks.map fun k => .tup (k.map .int)) S P
      | none => False
  | _ => False
theorem keys_reps {K : PySem.W.Frag} {G H : Hp} {S : Sto} (n : Nx K G S H) : ∀ {ks : List (List Int)} {vs : List V} {bs : List Addr}, ks.length = vs.length → IsKeys H ((ks.map fun k => (k.map Sum.inl : List Key)).zip vs) bs →
    Reps K (wo H S) (ks.map fun k => .tup (k.map .int)) (bs.map V.ref)
  | [], vs, bs, hl, h => by
    cases vs with
    | nil => cases h; exact Reps.nil
    | cons _ _ => simp at hl
  | k :: ks, vs, bs, hl, h => by
    cases vs with
    | nil => simp at hl
    | cons v vs =>
      cases h with
      | cons h t =>
        rename_i b bs
        refine Reps.cons ?_ (keys_reps n (by simpa using hl) t)
        simp only [Rep]
        have e : ((k.map Sum.inl : List Key).map kV) = k.map V.int := by rw [List.map_map]; rfl
        dsimp only at h
        rw [e] at h
        refine ⟨b, _, rfl, ?_, Reps.of_ints k⟩
        cases q : S b with
        | none => rw [wo_none q]; exact h
        | some c =>
          exfalso
          cases c with
          | ml _ => obtain ⟨_, z, _⟩ := n.ok b _ q; rw [h] at z; cases z
          | dI _ => obtain ⟨_, z, _⟩ := n.ok b _ q; rw [h] at z; cases z
          | dS _ => obtain ⟨_, z, _⟩ := n.ok b _ q; rw [h] at z; cases z
          | ins _ _ => obtain ⟨_, _, z, _⟩ := n.ok b _ q; rw [h] at z; cases z
def newLk (m : Bool) (o : Option (List (List Int))) (S : Sto) (P : D → Sto → Prop) : Prop := match o with
  | some ks => newL m (ks.map fun k => .tup (k.map .int)) S P
  | none => False
def newLo (m : Bool) (o : Option (List D)) (k : Option (List (List Int))) (S : Sto) (P : D → Sto → Prop) : Prop := match o with
  | some ds => newL m ds S P
  | none => newLk m k S P
theorem listD_eq (m : Bool) (x : D) (S : Sto) (P : D → Sto → Prop) (h : ∀ ds, x ≠ .tup ds) : listD m [x] S P = newLo m (vl S x) (keysS S x) S P := by
  unfold listD newLo newLk
  cases x with
  | tup ds => exact absurd rfl (h ds)
  | _ => rfl
theorem lift_list {K : PySem.W.Frag} {m : Bool} : LiftC K (fun xs H Q => (∃ p ys, xs = [.ref p] ∧ (SqL K H p ys ∨ SqT K H p ys) ∧ ∀ l, H l = none → Q (.ref l) (upd H l (.lst ys))) ∨
    (∃ d kvs, xs = [V.ref d] ∧ Rd H d (.dT kvs) ∧ ∀ p bs, H p = none → IsKeys H kvs bs → Q (.ref p) (upd H p (.lst (bs.map V.ref))))) (listD m) := by
  intro xs vs G S H P Q n r t o
  match xs, t with
  | [], t => exact t.elim
  | _ :: _ :: _, t => cases (show False by first | exact t | (unfold listD at t; split at t <;> simp_all))
  | [x], t =>
    obtain ⟨v, ev, rx⟩ := r.one
    clear r
    subst ev
    have r := rx
    clear rx
    by_cases ht : ∃ ds, x = .tup ds
    · obtain ⟨ds, rfl⟩ := ht
      simp only [Rep] at r
      obtain ⟨a, us, rfl, q, r⟩ := r
      exact .inl ⟨a, us, rfl, .inr (SqT.of (wo_le _ _ _ _ q)), fun l hl => newL_ok n r hl t o⟩
    · rw [listD_eq m x S P fun ds e => ht ⟨ds, e⟩] at t
      cases e : vl S x with
      | some ds =>
        rw [e] at t
        obtain ⟨a, us, rfl, q, r⟩ := vl_rep n r e
        exact .inl ⟨a, us, rfl, .inl q, fun l hl => newL_ok n r hl t o⟩
      | none =>
        rw [e] at t
        simp only [newLo] at t
        cases x with
        | ref p =>
          simp only [keysS] at t
          cases h : S p with
          | none => rw [h] at t; exact t.elim
          | some c =>
            rw [h] at t
            cases c with
            | dI kvs =>
              obtain ⟨us, q, r2⟩ := n.ok p _ h
              simp only [Rep] at r
              subst r
              refine .inr ⟨p, _, rfl, .inl q, fun l bs hl hk => ?_⟩
              have hlen := r2.len
              rw [List.length_map] at hlen
              have hk' : IsKeys H (((kvs.map (·.1)).map fun k => (k.map Sum.inl : List Key)).zip us) bs := by rw [List.map_map]; exact hk
              exact newL_ok n (keys_reps n (by rw [List.length_map]; exact hlen) hk') hl t o
            | ml _ => exact t.elim
            | dS _ => exact t.elim
            | ins _ _ => exact t.elim
        | _ => exact t.elim
def tupleD : RCD := fun xs S P => match xs with
  | [x] => match vm S x with
    | some ds => P (.tup ds) S
    | none => False
  | _ => False
theorem lift_tuple {K : PySem.W.Frag} : LiftC K (fun xs H Q => ∃ p ys, xs = [.ref p] ∧ ((SqL K H p ys ∧ ∀ l, H l = none → Q (.ref l) (upd H l (.tup ys))) ∨ (SqT K H p ys ∧ Q (.ref p) H))) tupleD := by
  intro xs vs G S H P Q n r t o
  match xs, t with
  | [], t => exact t.elim
  | _ :: _ :: _, t => exact t.elim
  | [x], t =>
    obtain ⟨v, ev, rx⟩ := r.one
    clear r
    subst ev
    have r := rx
    clear rx
    simp only [tupleD] at t
    cases e : vm S x with
    | none => rw [e] at t; exact t.elim
    | some ds =>
      rw [e] at t
      obtain ⟨a, us, rfl, q, r⟩ := vm_rep n r e
      exact ⟨a, us, rfl, .inl ⟨SqL.of q, fun l hl => newT_ok n r hl t o⟩⟩
def sortI (ns : List Int) : List Int := ns.mergeSort fun a b => decide (a ≤ b)
theorem sortI_perm (ns : List Int) : (sortI ns).Perm ns := List.mergeSort_perm ns _
theorem sortI_sorted (ns : List Int) : (sortI ns).Pairwise (· ≤ ·) := by
  have h := List.pairwise_mergeSort (le := fun a b : Int => decide (a ≤ b)) (by intro a b c; simp; omega) (by intro a b; simp; omega) ns
  exact h.imp fun h => by simpa using h
theorem sorted_uniq : ∀ {a b : List Int}, a.Perm b → a.Pairwise (· ≤ ·) → b.Pairwise (· ≤ ·) → a = b
  | [], b, p, _, _ => (List.nil_perm.mp p).symm
  | x :: xs, [], p, _, _ => absurd p (by simp)
  | x :: xs, y :: ys, p, ha, hb => by
    have h1 : x = y := by
      have m1 : x ∈ y :: ys := p.subset List.mem_cons_self
      have m2 : y ∈ x :: xs := p.symm.subset List.mem_cons_self
      rw [List.pairwise_cons] at ha hb
      rcases List.mem_cons.mp m1 with e | m1
      · exact e
      · rcases List.mem_cons.mp m2 with e | m2
        · exact e.symm
        · have l1 := hb.1 _ m1
          have l2 := ha.1 _ m2
          omega
    subst h1
    rw [sorted_uniq (List.Perm.cons_inv p) (List.Pairwise.of_cons ha) (List.Pairwise.of_cons hb)]
def sortedD (m : Bool) : RCD := fun xs S P => match xs with
  | [x] => match (vm S x).bind kInts with
    | some ns => newL m ((sortI ns).map .int) S P
    | none => False
  | _ => False
theorem lift_sorted {K : PySem.W.Frag} {m : Bool} : LiftC K (rSortedI K) (sortedD m) := by
  intro xs vs G S H P Q n r t o
  match xs, t with
  | [], t => exact t.elim
  | _ :: _ :: _, t => exact t.elim
  | [x], t =>
    obtain ⟨v, ev, rx⟩ := r.one
    clear r
    subst ev
    have r := rx
    clear rx
    simp only [sortedD] at t
    cases e : vm S x with
    | none => rw [e] at t; exact t.elim
    | some ds =>
      rw [e] at t
      simp only [Option.bind_some] at t
      cases e2 : kInts ds with
      | none => rw [e2] at t; exact t.elim
      | some ns =>
        rw [e2] at t
        have := kInts_eq e2
        subst this
        obtain ⟨a, us, rfl, q, r⟩ := vm_rep n r e
        have := r.ints
        subst this
        refine ⟨a, ns, rfl, SqL.of q, fun ns' p hp hs hl => ?_⟩
        have := sorted_uniq (hp.trans (sortI_perm ns).symm) hs (sortI_sorted ns)
        subst this
        exact newL_ok n (Reps.of_ints _) hl t o
section
variable {X : Cx} {G0 : Hp} {pos : Pos} {e e2 : Expr} {te te2 : TDE} {ta : TDA} {k : Nat}
theorem de_len {p : Pos} (hm : X.mg "len" = none) (ha : DA X G0 [e] ta) (hg : Gl X "len" := by rfl) (he : starEach [e] X.env = (false, eval e X.env) :: starEach [] X.env := by rfl) : DE X G0 (.Call (.Name "len" p) [e] [] pos) (dCB lenD ta) := de_callB (call_len.or call_len_dT) lift_len hg hm boot_len ha (he := he)
theorem de_min {p : Pos} (hc : X.calm = true) (hm : X.mg "min" = none) (ha : DA X G0 [e, e2] ta) (hg : Gl X "min" := by rfl) (he : starEach [e, e2] X.env = (false, eval e X.env) :: starEach [e2] X.env := by rfl) (hpl : (backTo pos (starEach [e2] X.env)).any (·.1) = false := by rfl) : DE X G0 (.Call (.Name "min" p) [e, e2] [] pos) (dCB (i2D min) ta) := de_callB (call_min2 hc) lift_min hg hm (by decide +kernel) ha (he := he) (hpl := hpl)
theorem de_max {p : Pos} (hc : X.calm = true) (hm : X.mg "max" = none) (ha : DA X G0 [e, e2] ta) (hg : Gl X "max" := by rfl) (he : starEach [e, e2] X.env = (false, eval e X.env) :: starEach [e2] X.env := by rfl) (hpl : (backTo pos (starEach [e2] X.env)).any (·.1) = false := by rfl) : DE X G0 (.Call (.Name "max" p) [e, e2] [] pos) (dCB (i2D max) ta) := de_callB (call_max2 hc) lift_max hg hm (by decide +kernel) ha (he := he) (hpl := hpl)
theorem de_abs {p : Pos} (hm : X.mg "abs" = none) (ha : DA X G0 [e] ta) (hg : Gl X "abs" := by rfl) (he : starEach [e] X.env = (false, eval e X.env) :: starEach [] X.env := by rfl) : DE X G0 (.Call (.Name "abs" p) [e] [] pos) (dCB absD ta) := de_callB call_abs lift_abs hg hm (by decide +kernel) ha (he := he)
theorem de_list {p : Pos} (m : Bool) (hc : X.calm = true) (hm : X.mg "list" = none) (ha : DA X G0 [e] ta) (hg : Gl X "list" := by rfl) (he : starEach [e] X.env = (false, eval e X.env) :: starEach [] X.env := by rfl) : DE X G0 (.Call (.Name "list" p) [e] [] pos) (dCB (listD m) ta) := de_callTy (call_list_of.or (call_list_dT hc)) lift_list hg hm (by decide +kernel) ha (he := he)
theorem de_tuple {p : Pos} (hm : X.mg "tuple" = none) (ha : DA X G0 [e] ta) (hg : Gl X "tuple" := by rfl) (he : starEach [e] X.env = (false, eval e X.env) :: starEach [] X.env := by rfl) : DE X G0 (.Call (.Name "tuple" p) [e] [] pos) (dCB tupleD ta) := de_callTy call_tuple_of lift_tuple hg hm (by decide +kernel) ha (he := he)
theorem de_sorted {p : Pos} (m : Bool) (hm : X.mg "sorted" = none) (ha : DA X G0 [e] ta) (hg : Gl X "sorted" := by rfl) (he : starEach [e] X.env = (false, eval e X.env) :: starEach [] X.env := by rfl) : DE X G0 (.Call (.Name "sorted" p) [e] [] pos) (dCB (sortedD m) ta) := de_callB cr_sortedI lift_sorted hg hm (by decide +kernel) ha (he := he)
end
end DL
namespace DL
open PySem L2
abbrev RMD := D → List D → Sto → (D → Sto → Prop) → Prop
def dLM (r : RMD) (to : TDE) (ta : TDA) : TDE := fun ρ S P => to ρ S fun x S1 => (vm S1 x).isSome = true ∧ ta ρ S1 fun ys S2 => r x ys S2 P
def dLM0 (r : RMD) (to : TDE) : TDE := fun ρ S P => to ρ S fun x S1 => (vm S1 x).isSome = true ∧ r x [] S1 P
def LiftM (K : PySem.W.Frag) (r : V → List V → Hp → VK → Prop) (r' : RMD) : Prop := ∀ x xs v vs G S H P Q, Nx K G S H → Rep K (wo H S) x v → Reps K (wo H S) xs vs → r' x xs S P → Owe K S H P Q → r v vs H Q
section
variable {X : Cx} {G0 : Hp} {o e : Expr} {es : List Expr} {to : TDE} {ta : TDA} {name : Str} {apos cpos : Pos} {id : String} {r : V → List V → Hp → VK → Prop} {r' : RMD}
theorem ty_list {K : PySem.W.Frag} {G H : Hp} {S : Sto} {d : D} {v : V} (n : Nx K G S H) (r : Rep K (wo H S) d v) (h : (vm S d).isSome = true) : tyV K "list" v H := by
  cases e : vm S d with
  | none => rw [e] at h; cases h
  | some xs =>
    obtain ⟨a, vs, rfl, q, _⟩ := vm_rep n r e
    exact .inl ⟨rfl, vs, SqL.of q⟩
theorem de_lm (slot : Slot "list" name id) (hty : typeOf (.builtin id) = pure (.type "method_descriptor")) (hm : MtR X id r) (hl : LiftM X.K r r') (ho : DE X G0 o to) (ha : DA X G0 (e :: es) ta)
    (hbase : attributeBase o name X.env (eval o X.env) = eval o X.env := by rfl)
    (hfew : ((backTo cpos (starEach (e :: es) X.env)).all (fun x => !x.1) && (backToKw cpos (keywordEach [] X.env)).all (fun x => x.1.isSome)
      && decide ((e :: es).length + ([] : List Keyword).length + (if ([] : List Keyword).isEmpty then 0 else 1) < 30)) = true := by rfl)
    (hline : (apos.endLine == cpos.line) = true := by rfl) (hs : starEach (e :: es) X.env = (false, eval e X.env) :: starEach es X.env := by rfl) (hplain : (backTo cpos (starEach es X.env)).any (·.1) = false := by rfl) :
    DE X G0 (.Call (.Attribute o name apos) (e :: es) [] cpos) (dLM r' to ta) :=
  PE.imp (pe_bm PySem.F.plainAttrs_list slot hty hm ho ha hbase hfew hline hs hplain) fun σ H Q ⟨ρ, S, P, st, t, oo⟩ =>
    ⟨ρ, S, _, st, t, fun d S1 v H1 t1 n1 r1 => ⟨ty_list n1 r1 t1.1, ρ, S1, _, st.next n1, t1.2, fun ds S2 vs H2 t2 n2 r2 =>
      hl d ds v vs _ S2 H2 P Q n2 (r1.mono n2.st) r2 t2 fun d S' v H' a b c => oo _ _ _ _ a (n1.trans (n2.trans b)) c⟩⟩
theorem de_lm0 (slot : Slot "list" name id) (hty : typeOf (.builtin id) = pure (.type "method_descriptor")) (hm : MtR X id r) (hl : LiftM X.K r r') (ho : DE X G0 o to)
    (hbase : attributeBase o name X.env (eval o X.env) = eval o X.env := by rfl) (hline : (apos.endLine == cpos.line) = true := by rfl) : DE X G0 (.Call (.Attribute o name apos) [] [] cpos) (dLM0 r' to) :=
  PE.imp (pe_bm0 PySem.F.plainAttrs_list slot hty hm ho hbase hline) fun σ H Q ⟨ρ, S, P, st, t, oo⟩ =>
    ⟨ρ, S, _, st, t, fun d S1 v H1 t1 n1 r1 => ⟨ty_list n1 r1 t1.1, hl d [] v [] _ S1 H1 P Q n1 r1 Reps.nil t1.2 fun d S' v H' a b c => oo _ _ _ _ a (n1.trans b) c⟩⟩
end
def cellL (S : Sto) : D → Option (Addr × List D)
  | .ref p => match S p with
    | some (.ml xs) => some (p, xs)
    | _ => none
  | _ => none
theorem cellL_ok {S : Sto} {d : D} {p : Addr} {xs : List D} (e : cellL S d = some (p, xs)) : d = .ref p ∧ S p = some (.ml xs) := by
  cases d with
  | ref q =>
    simp only [cellL] at e
    cases h : S q with
    | none => rw [h] at e; cases e
    | some c =>
      rw [h] at e
      cases c with
      | ml ys => cases e; exact ⟨rfl, h⟩
      | dI _ => cases e
      | dS _ => cases e
      | ins _ _ => cases e
  | _ => cases e
def onCell (S : Sto) (d : D) (k : Addr → List D → Prop) : Prop := match cellL S d with
  | some (p, xs) => k p xs
  | none => False
theorem onCell_ok {S : Sto} {d : D} {k : Addr → List D → Prop} (t : onCell S d k) : ∃ p xs, d = .ref p ∧ S p = some (.ml xs) ∧ k p xs := by
  unfold onCell at t
  cases e : cellL S d with
  | none => rw [e] at t; exact t.elim
  | some z =>
    obtain ⟨p, xs⟩ := z
    rw [e] at t
    obtain ⟨h1, h2⟩ := cellL_ok e
    exact ⟨p, xs, h1, h2, t⟩
theorem onCell_ml {S : Sto} {p : Addr} {xs : List D} {k : Addr → List D → Prop} (h : S p = some (.ml xs)) : onCell S (.ref p) k = k p xs := by
  simp only [onCell, cellL, h]
theorem wr_list {K : PySem.W.Frag} {G H : Hp} {S : Sto} {p : Addr} {xs : List D} {vs : List V} (n : Nx K G S H) {c0 : Cl} (h : S p = some c0) (r : Reps K (wo H S) xs vs) : Nx K (wo H S) (su S p (.ml xs)) (upd H p (.lst vs)) :=
  n.write h ⟨vs, upd_same, r⟩
def appendD : RMD := fun x ys S P => match ys with
  | [y] => onCell S x fun p xs => xs.length < sizeLine ∧ P .non (su S p (.ml (xs ++ [y])))
  | _ => False
theorem lift_append {K : PySem.W.Frag} : LiftM K rAppend appendD := by
  intro x ys v vs G S H P Q n rx ry t o
  match ys, t with
  | [], t => exact t.elim
  | _ :: _ :: _, t => exact t.elim
  | [y], t =>
    obtain ⟨u, rfl, ru⟩ := ry.one
    obtain ⟨p, xs, rfl, h, hl, t⟩ := onCell_ok t
    simp only [Rep] at rx
    obtain ⟨us, q, r⟩ := n.ok p _ h
    have n2 := wr_list n h (r.app (Reps.cons ru Reps.nil))
    exact ⟨p, us, u, rx, rfl, q, by rw [← r.len]; exact hl, o _ _ _ _ t n2 (by simp only [Rep])⟩
def popAtD : RMD := fun x ys S P => match ys with
  | [.int i] => onCell S x fun p xs => -(2 ^ 63) ≤ i ∧ i < 2 ^ 63 ∧ match seqIndex? i xs.length with
    | some k => match xs[k]? with
      | some d => P d (su S p (.ml (xs.eraseIdx k)))
      | none => False
    | none => False
  | _ => False
theorem Reps.eraseIdx {K : PySem.W.Frag} {G : Hp} : ∀ {ds : List D} {vs : List V} (k : Nat), Reps K G ds vs → Reps K G (ds.eraseIdx k) (vs.eraseIdx k)
  | [], vs, k, h => by simp only [Reps] at h; subst h; simpa using Reps.nil
  | d :: ds, vs, 0, h => by
    simp only [Reps] at h
    obtain ⟨v, r, rfl, q, s⟩ := h
    exact s
  | d :: ds, vs, k + 1, h => by
    simp only [Reps] at h
    obtain ⟨v, r, rfl, q, s⟩ := h
    exact Reps.cons q (Reps.eraseIdx k s)
theorem lift_popAt {K : PySem.W.Frag} : LiftM K rPopAt popAtD := by
  intro x ys v vs G S H P Q n rx ry t o
  unfold popAtD at t
  split at t
  · rename_i i
    obtain ⟨u, rfl, ru⟩ := ry.one
    obtain ⟨p, xs, rfl, h, h1, h2, t⟩ := onCell_ok t
    simp only [Rep] at rx ru
    subst ru
    obtain ⟨us, q, r⟩ := n.ok p _ h
    cases e : seqIndex? i xs.length with
    | none => rw [e] at t; exact t.elim
    | some k =>
      rw [e] at t
      dsimp only at t
      cases e2 : xs[k]? with
      | none => rw [e2] at t; exact t.elim
      | some d =>
        rw [e2] at t
        obtain ⟨w, hw, rw'⟩ := r.get e2
        have n2 := wr_list n h (r.eraseIdx k)
        exact ⟨p, us, i, k, w, rx, rfl, q, h1, h2, by rw [← r.len]; exact e, hw, o _ _ _ _ t n2 (rw'.mono n2.st)⟩
  · exact t.elim
def rev0D : RMD := fun x ys S P => match ys with
  | [] => onCell S x fun p xs => P .non (su S p (.ml xs.reverse))
  | _ => False
theorem lift_reverse {K : PySem.W.Frag} : LiftM K rReverse rev0D := by
  intro x ys v vs G S H P Q n rx ry t o
  match ys, t with
  | [], t =>
    simp only [Reps] at ry
    obtain ⟨p, xs, rfl, h, t⟩ := onCell_ok t
    simp only [Rep] at rx
    obtain ⟨us, q, r⟩ := n.ok p _ h
    exact ⟨p, us, rx, ry, q, o _ _ _ _ t (wr_list n h r.rev) (by simp only [Rep])⟩
  | _ :: _, t => exact t.elim
def clearD : RMD := fun x ys S P => match ys with
  | [] => onCell S x fun p xs => P .non (su S p (.ml []))
  | _ => False
theorem lift_clear {K : PySem.W.Frag} : LiftM K rClear clearD := by
  intro x ys v vs G S H P Q n rx ry t o
  match ys, t with
  | [], t =>
    simp only [Reps] at ry
    obtain ⟨p, xs, rfl, h, t⟩ := onCell_ok t
    simp only [Rep] at rx
    obtain ⟨us, q, r⟩ := n.ok p _ h
    exact ⟨p, us, rx, ry, q, o _ _ _ _ t (wr_list n h Reps.nil) (by simp only [Rep])⟩
  | _ :: _, t => exact t.elim
def isDS (S : Sto) : D → Bool
  | .ref p => match S p with
    | some (.dI _) => true
    | some (.dS _) => true
    | _ => false
  | _ => false
theorem isDS_ok {K : PySem.W.Frag} {G H : Hp} {S : Sto} {d : D} {v : V} (n : Nx K G S H) (r : Rep K (wo H S) d v) (h : isDS S d = true) : ∃ a, v = .ref a ∧ IsD H a := by
  cases d with
  | ref p =>
    simp only [Rep] at r
    simp only [isDS] at h
    cases e : S p with
    | none => rw [e] at h; cases h
    | some c =>
      rw [e] at h
      cases c with
      | dI _ => obtain ⟨_, z, _⟩ := n.ok p _ e; exact ⟨p, r, .inr ⟨_, .inl z⟩⟩
      | dS _ => obtain ⟨_, z, _⟩ := n.ok p _ e; exact ⟨p, r, .inl ⟨_, .inl z⟩⟩
      | ml _ => cases h
      | ins _ _ => cases h
  | _ => cases h
def getK (o : Option (Option D)) (z : D) (S : Sto) (P : D → Sto → Prop) : Prop := match o with
  | some o => P (o.getD z) S
  | none => False
def dGet1 (td ty : TDE) : TDE := fun ρ S P => td ρ S fun x S1 => isDS S1 x = true ∧ ty ρ S1 fun y S2 => getK (dgetS S2 x y) .non S2 P
def dGet2 (td ty tx : TDE) : TDE := fun ρ S P => td ρ S fun x S1 => isDS S1 x = true ∧ ty ρ S1 fun y S2 => tx ρ S2 fun z S3 => getK (dgetS S3 x y) z S3 P
section
variable {X : Cx} {G0 : Hp} {o e f : Expr} {td ty tx : TDE} {apos cpos : Pos} {k : Nat}
theorem de_get1 (hr : Room k X.A) (ho : DE X G0 o td) (he : DE X G0 e ty) (m : M1 X o "get" apos e cpos := by exact ⟨rfl, rfl, rfl, rfl⟩) : DE X G0 (.Call (.Attribute o "get" apos) [e] [] cpos) (dGet1 td ty) :=
  PE.imp (pe_dget1 (hu_of hr) ho he m) fun σ H Q ⟨ρ, S, P, st, t, oo⟩ => ⟨ρ, S, _, st, t, fun x S1 v H1 t1 n1 r1 => by
    obtain ⟨a, rfl, hi⟩ := isDS_ok n1 r1 t1.1
    refine ⟨a, rfl, hi, ρ, S1, _, st.next n1, t1.2, fun y S2 u H2 t2 n2 r2 => ?_⟩
    cases e : dgetS S2 x y with
    | none => rw [e] at t2; exact t2.elim
    | some z =>
      rw [e] at t2
      obtain ⟨b, ov, eb, g, _, r⟩ := dgetS_ok n2 (r1.mono n2.st) r2 e
      cases eb
      exact ⟨ov, g, oo _ _ _ _ t2 (n1.trans n2) (r.getD (by simp only [Rep]))⟩⟩
theorem de_get2 (hr : Room k X.A) (ho : DE X G0 o td) (he : DE X G0 e ty) (hf : DE X G0 f tx) (m : M2 X o "get" apos e f cpos := by exact ⟨rfl, rfl, rfl, rfl⟩) : DE X G0 (.Call (.Attribute o "get" apos) [e, f] [] cpos) (dGet2 td ty tx) :=
  PE.imp (pe_dget2 (hu_of hr) ho he hf m) fun σ H Q ⟨ρ, S, P, st, t, oo⟩ => ⟨ρ, S, _, st, t, fun x S1 v H1 t1 n1 r1 => by
    obtain ⟨a, rfl, hi⟩ := isDS_ok n1 r1 t1.1
    refine ⟨a, rfl, hi, ρ, S1, _, st.next n1, t1.2, fun y S2 u H2 t2 n2 r2 => ⟨ρ, S2, _, (st.next n1).next n2, t2, fun z S3 w H3 t3 n3 r3 => ?_⟩⟩
    cases e : dgetS S3 x y with
    | none => rw [e] at t3; exact t3.elim
    | some z' =>
      rw [e] at t3
      obtain ⟨b, ov, eb, g, _, r⟩ := dgetS_ok n3 (r1.mono (n2.trans n3).st) (r2.mono n3.st) e
      cases eb
      exact ⟨ov, g, oo _ _ _ _ t3 (n1.trans (n2.trans n3)) (r.getD r3)⟩⟩
end
theorem lookup_zip {K : PySem.W.Frag} {G : Hp} (f : Str) : ∀ {fs : List (Str × D)} {vs : List V}, Reps K G (fs.map (·.2)) vs → ORep K G (fs.lookup f) (((fs.map (·.1)).zip vs).lookup f)
  | [], vs, r => True.intro
  | (g, d) :: fs, vs, r => by
    simp only [List.map_cons, Reps] at r
    obtain ⟨v, t, rfl, q, s⟩ := r
    simp only [List.map_cons, List.zip_cons_cons, List.lookup_cons]
    cases h : f == g with
    | true => exact q
    | false => exact lookup_zip f s
def onIns (C : Addr) (S : Sto) (d : D) (k : Addr → List (Str × D) → Prop) : Prop := match d with
  | .ref p => match S p with
    | some (.ins C' fs) => C' = C ∧ k p fs
    | _ => False
  | _ => False
theorem onIns_ok {C : Addr} {S : Sto} {d : D} {k : Addr → List (Str × D) → Prop} (t : onIns C S d k) : ∃ p fs, d = .ref p ∧ S p = some (.ins C fs) ∧ k p fs := by
  unfold onIns at t
  split at t
  · rename_i p
    split at t
    · rename_i e
      obtain ⟨rfl, t⟩ := t
      exact ⟨p, _, rfl, e, t⟩
    · exact t.elim
  · exact t.elim
theorem onIns_at {C : Addr} {S : Sto} {p : Addr} {fs : List (Str × D)} {k : Addr → List (Str × D) → Prop} (h : S p = some (.ins C fs)) : onIns C S (.ref p) k = k p fs := by
  simp only [onIns, h, true_and]
def getF (o : Option D) (S : Sto) (P : D → Sto → Prop) : Prop := match o with
  | some d => P d S
  | none => False
def dFld (C : Addr) (f : Str) (te : TDE) : TDE := fun ρ S P => te ρ S fun x S1 => onIns C S1 x fun _ fs => getF (fs.lookup f) S1 P
def putFD (f : Str) (v : D) : List (Str × D) → List (Str × D)
  | [] => [(f, v)]
  | (g, u) :: r => if g = f then (g, v) :: r else (g, u) :: putFD f v r
def dSetFld (C : Addr) (f : Str) (to te : TDE) : TDS := fun D ρ S => te ρ S fun y S1 => to ρ S1 fun x S2 => onIns C S2 x fun p fs => fs.length < 1000 ∧ D.nx ρ (su S2 p (.ins C (putFD f y fs)))
end DL
namespace DL
open PySem L2

section
variable {X : Cx} {G0 : Hp} {o e value : Expr} {f : Str} {pos pos' : Pos} {to te : TDE} {C : Addr}
theorem de_fld (c : Cls X.K C) (na : NoAttr X.K C f) (he : DE X G0 e te) (hb : attributeBase e f X.env (eval e X.env) = eval e X.env := by rfl) : DE X G0 (.Attribute e f pos) (dFld C f te) :=
  PE.imp (pe_fld he hb) fun σ H Q ⟨ρ, S, P, st, t, oo⟩ => ⟨ρ, S, _, st, t, fun x S1 v H1 t1 n1 r1 => by
    obtain ⟨p, fs, rfl, h, t1⟩ := onIns_ok t1
    simp only [Rep] at r1
    obtain ⟨dx, vs, q, r⟩ := n1.ok p _ h
    cases e : fs.lookup f with
    | none => rw [e] at t1; exact t1.elim
    | some d =>
      rw [e] at t1
      have l := lookup_zip f r
      rw [e] at l
      obtain ⟨w, hw, rw'⟩ := l.some_of
      exact ⟨p, C, dx, _, w, r1, q, c, na, hw, oo _ _ _ _ t1 n1 rw'⟩⟩
theorem putF_zip {K : PySem.W.Frag} {G : Hp} {f : Str} {d : D} {v : V} (q : Rep K G d v) : ∀ {fs : List (Str × D)} {vs : List V}, Reps K G (fs.map (·.2)) vs →
    ∃ us, putF f v ((fs.map (·.1)).zip vs) = ((putFD f d fs).map (·.1)).zip us ∧ Reps K G ((putFD f d fs).map (·.2)) us
  | [], vs, r => by
    simp only [List.map_nil, Reps] at r; subst r
    exact ⟨[v], rfl, Reps.cons q Reps.nil⟩
  | (g, u) :: fs, vs, r => by
    simp only [List.map_cons, Reps] at r
    obtain ⟨w, t, rfl, q', s⟩ := r
    by_cases e : g = f
    · refine ⟨v :: t, ?_, ?_⟩
      · simp only [putFD, putF, List.map_cons, List.zip_cons_cons, if_pos e]
      · simp only [putFD, if_pos e, List.map_cons]; exact Reps.cons q s
    · obtain ⟨us, e1, r1⟩ := putF_zip (f := f) q s
      refine ⟨w :: us, ?_, ?_⟩
      · simp only [putFD, putF, List.map_cons, List.zip_cons_cons, if_neg e, e1]
      · simp only [putFD, if_neg e, List.map_cons]; exact Reps.cons q' r1
theorem ds_fld (c : Cls X.K C) (na : NoAttr X.K C f) (ho : DE X G0 o to) (hv : DE X G0 value te) (hs : swapsWith value (some (.Attribute o f pos')) pos.line X.env = pure false := by rfl) : DS X G0 (.Assign [.Attribute o f pos'] value pos) (dSetFld C f to te) :=
  PS.imp (ps_fld ho hv hs) fun D σ H ⟨ρ, S, dD, st, t, oo⟩ => ⟨ρ, S, _, st, t, fun y S1 v H1 t1 n1 r1 => ⟨ρ, S1, _, st.next n1, t1, fun x S2 u H2 t2 n2 r2 => by
    obtain ⟨p, fs, rfl, h, hl, t2⟩ := onIns_ok t2
    simp only [Rep] at r2
    obtain ⟨dx, vs, q, r⟩ := n2.ok p _ h
    obtain ⟨us, e1, r3⟩ := putF_zip (f := f) (r1.mono n2.st) r
    have hl2 : ((fs.map (·.1)).zip vs).length < 1000 := by rw [List.length_zip, List.length_map]; omega
    refine ⟨p, C, dx, _, r2, q, c, na, hl2, oo.nx _ _ _ _ t2 ?_⟩
    rw [e1]
    exact ((st.next n1).next n2).next (n2.write h ⟨dx, us, upd_same, r3⟩)⟩⟩
end
abbrev DSp := List D → Sto → (D → Sto → Prop) → (Addr → Sto → Prop) → Prop
def upSp (K : PySem.W.Frag) (p : DSp) : Sp := fun vs H Q E => ∃ ds S P dE, Nx K (wo H S) S H ∧ Reps K (wo H S) ds vs ∧ p ds S P dE ∧ Owe K S H P Q ∧
  ∀ C S' H', dE C S' → Nx K (wo H S) S' H' → E (.ref C) none H'
def dCall (sp : DSp) (W : WD) (ta : TDA) : TDE := fun ρ S P => ta ρ S fun ds S1 => sp ds S1 P fun C S' => W C ρ S'
def dMeth (C : Addr) (m : Str) (sp : DSp) (W : WD) (to : TDE) (ta : TDA) : TDE := fun ρ S P => to ρ S fun x S1 => onIns C S1 x fun _ fs => (fs.lookup m).isNone = true ∧ ta ρ S1 fun ds S2 => sp (x :: ds) S2 P fun C S' => W C ρ S'
def dMake (C : Addr) (sp : DSp) (W : WD) (ta : TDA) : TDE := fun ρ S P => ta ρ S fun ds S1 => ∀ x, S1 x = none → sp (.ref x :: ds) (su S1 x (.ins C [])) (fun d S2 => d = .non ∧ P (.ref x) S2) fun C S' => W C ρ S'
section
variable {X : Cx} {G0 : Hp} {k : Nat} {f C : Addr} {fd : FuncData} {ps : List Str} {sp : DSp} {W : WD} {x m : Str} {p pos apos : Pos} {e o : Expr} {es : List Expr} {ta : TDA} {to : TDE}
theorem de_call (F : FnOk X.prog X.w X.K X.mg X.base (L2.CX X.prog X.w) k f fd ps (upSp X.K sp)) (hr : Room k X.A) (hm : X.mg x = some (.ref f)) (hk : PySem.W.keepIn X.K (.ref f) = true) (hb : Binds X.K fd ps []) (tk : Takes X (upW X.K G0 W))
    (ha : DA X G0 (e :: es) ta) (hg : Gl X x := by rfl) (hdb : (x == ("__debug__" : Str)) = false := by decide) (he : starEach (e :: es) X.env = (false, eval e X.env) :: starEach es X.env := by rfl) (hpl : (backTo pos (starEach es X.env)).any (·.1) = false := by rfl) :
    DE X G0 (.Call (.Name x p) (e :: es) [] pos) (dCall sp W ta) :=
  PE.imp (pe_callS (E := WE (upW X.K G0 W)) F hr hg hm hk hb (passAt tk) ha hdb he hpl) fun σ H Q ⟨ρ, S, P, st, t, oo⟩ => ⟨ρ, S, _, st, t, fun ds S1 vs H1 t1 n1 r1 =>
    ⟨ds, S1, P, _, n1.refl, r1, t1, fun d S' v H' a b c => oo _ _ _ _ a (n1.trans b) c, fun C' S' H' w n2 => ⟨ρ, S', C', rfl, rfl, (st.next n1).next n2, w⟩⟩⟩
theorem pe_methE {sp : Sp} {E : St → XK} {pl : Sem Bool} {ta : TE} {t : TA} (he : PE X o ta) (c : Cls X.K C) (hm : Meth X.K C m f) (F : FnOk X.prog X.w X.K X.mg X.base (L2.CX X.prog X.w) k f fd ps sp) (hr : Room k X.A) (hb : Binds X.K fd ps []) (hx : ∀ σ, PassesAt (L2.CX X.prog X.w) X σ (E σ)) (ha : PA X (e :: es) t)
    (hst : starEach (e :: es) X.env = (false, eval e X.env) :: starEach es X.env := by rfl) (hpl : (backTo pos (starEach es X.env)).any (·.1) = false := by rfl)
    (ht : eval (.Call (.Attribute o m apos) (e :: es) [] pos) X.env = (do
      let ov ← eval o X.env
      standAt apos.atName
      let (f, first) ← holding [ov] (getMethod ov m pl)
      callWith pos f first (backTo pos (starEach (e :: es) X.env)) (backToKw pos (keywordEach [] X.env))) := by rfl) :
    PE X (.Call (.Attribute o m apos) (e :: es) [] pos) (fun σ H Q => ta σ H fun x H1 => ∃ a dx fs, x = .ref a ∧ H1 a = some (.ins C dx fs) ∧ fs.lookup m = none ∧ t σ H1 fun vs H2 => sp (x :: vs) H2 Q (E σ)) := by
  refine ⟨fun pins s σ H Q I h => ?_⟩
  refine PySem.W.methodCall_KW (pl := pl) (thn (he.run pins s σ H _ I h) fun u s1 ⟨x, H1, I1, rx, a, dx, fs, ex, ea, l, q⟩ => ?_) ht
  subst ex
  obtain rfl : u = Value.ref a := rx
  refine getmeth_ok I1 ea c hm l ?_
  refine PySem.W.callWith_K (first := [.ref a]) (h₀ := X.base) I.ok.mod.kin hm.kp (thn (ha.run pos pins s1 σ H1 _ I1 q) fun us s2 ⟨vs, H2, I2, r, q2⟩ => ⟨I2.kIn, ?_⟩) hst hpl
  exact run_fnS (us := .ref a :: us) (vs := .ref a :: vs) F hr hb (hx σ) I2 (.cons rfl r) q2
theorem pe_methE0 {sp : Sp} {E : St → XK} {pl : Sem Bool} {ta : TE} (he : PE X o ta) (c : Cls X.K C) (hm : Meth X.K C m f) (F : FnOk X.prog X.w X.K X.mg X.base (L2.CX X.prog X.w) k f fd ps sp) (hr : Room k X.A) (hb : Binds X.K fd ps []) (hx : ∀ σ, PassesAt (L2.CX X.prog X.w) X σ (E σ))
    (ht : eval (.Call (.Attribute o m apos) [] [] pos) X.env = (do
      let ov ← eval o X.env
      standAt apos.atName
      let (f, first) ← holding [ov] (getMethod ov m pl)
      callWith pos f first (backTo pos (starEach [] X.env)) (backToKw pos (keywordEach [] X.env))) := by rfl) :
    PE X (.Call (.Attribute o m apos) [] [] pos) (fun σ H Q => ta σ H fun x H1 => ∃ a dx fs, x = .ref a ∧ H1 a = some (.ins C dx fs) ∧ fs.lookup m = none ∧ sp [x] H1 Q (E σ)) := by
  refine ⟨fun pins s σ H Q I h => ?_⟩
  refine PySem.W.methodCall_KW (pl := pl) (thn (he.run pins s σ H _ I h) fun u s1 ⟨x, H1, I1, rx, a, dx, fs, ex, ea, l, q⟩ => ?_) ht
  subst ex
  obtain rfl : u = Value.ref a := rx
  refine getmeth_ok I1 ea c hm l ?_
  exact PySem.W.callWith_K0 (first := [.ref a]) I1.kIn hm.kp (run_fnS (us := [.ref a]) (vs := [.ref a]) F hr hb (hx σ) I1 (.cons rfl .nil) q)
theorem lookup_none {K : PySem.W.Frag} {G : Hp} {fs : List (Str × D)} {vs : List V} (r : Reps K G (fs.map (·.2)) vs) (h : (fs.lookup m).isNone = true) : ((fs.map (·.1)).zip vs).lookup m = none := by
  have l := lookup_zip m r
  cases e : fs.lookup m with
  | some d => rw [e] at h; cases h
  | none =>
    rw [e] at l
    cases e2 : ((fs.map (·.1)).zip vs).lookup m with
    | none => rfl
    | some v => rw [e2] at l; exact l.elim
theorem de_meth {pl : Sem Bool} (F : FnOk X.prog X.w X.K X.mg X.base (L2.CX X.prog X.w) k f fd ps (upSp X.K sp)) (hr : Room k X.A) (c : Cls X.K C) (hm : Meth X.K C m f) (hb : Binds X.K fd ps []) (tk : Takes X (upW X.K G0 W)) (ho : DE X G0 o to) (ha : DA X G0 (e :: es) ta)
    (hst : starEach (e :: es) X.env = (false, eval e X.env) :: starEach es X.env := by rfl) (hpl : (backTo pos (starEach es X.env)).any (·.1) = false := by rfl)
    (ht : eval (.Call (.Attribute o m apos) (e :: es) [] pos) X.env = (do
      let ov ← eval o X.env
      standAt apos.atName
      let (f, first) ← holding [ov] (getMethod ov m pl)
      callWith pos f first (backTo pos (starEach (e :: es) X.env)) (backToKw pos (keywordEach [] X.env))) := by rfl) :
    DE X G0 (.Call (.Attribute o m apos) (e :: es) [] pos) (dMeth C m sp W to ta) :=
  PE.imp (pe_methE (E := WE (upW X.K G0 W)) (pl := pl) ho c hm F hr hb (passAt tk) ha hst hpl ht) fun σ H Q ⟨ρ, S, P, st, t, oo⟩ => ⟨ρ, S, _, st, t, fun d S1 v H1 t1 n1 r1 => by
    obtain ⟨a, fs, rfl, h, hl, t1⟩ := onIns_ok t1
    simp only [Rep] at r1
    obtain ⟨dx, vs, q, r⟩ := n1.ok a _ h
    refine ⟨a, dx, _, r1, q, lookup_none r hl, ρ, S1, _, st.next n1, t1, fun ds S2 us H2 t2 n2 r2 => ?_⟩
    exact ⟨_, S2, P, _, n2.refl, Reps.cons (by simp only [Rep]; exact r1) r2, t2, fun d S' v H' a b c => oo _ _ _ _ a (n1.trans (n2.trans b)) c, fun C' S' H' w n3 => ⟨ρ, S', C', rfl, rfl, ((st.next n1).next n2).next n3, w⟩⟩⟩
theorem de_meth0 {pl : Sem Bool} (F : FnOk X.prog X.w X.K X.mg X.base (L2.CX X.prog X.w) k f fd ps (upSp X.K sp)) (hr : Room k X.A) (c : Cls X.K C) (hm : Meth X.K C m f) (hb : Binds X.K fd ps []) (tk : Takes X (upW X.K G0 W)) (ho : DE X G0 o to)
    (ht : eval (.Call (.Attribute o m apos) [] [] pos) X.env = (do
      let ov ← eval o X.env
      standAt apos.atName
      let (f, first) ← holding [ov] (getMethod ov m pl)
      callWith pos f first (backTo pos (starEach [] X.env)) (backToKw pos (keywordEach [] X.env))) := by rfl) :
    DE X G0 (.Call (.Attribute o m apos) [] [] pos) (dMeth C m sp W to dNil) :=
  PE.imp (pe_methE0 (E := WE (upW X.K G0 W)) (pl := pl) ho c hm F hr hb (passAt tk) ht) fun σ H Q ⟨ρ, S, P, st, t, oo⟩ => ⟨ρ, S, _, st, t, fun d S1 v H1 t1 n1 r1 => by
    obtain ⟨a, fs, rfl, h, hl, t1⟩ := onIns_ok t1
    simp only [Rep] at r1
    obtain ⟨dx, vs, q, r⟩ := n1.ok a _ h
    refine ⟨a, dx, _, r1, q, lookup_none r hl, ?_⟩
    exact ⟨_, S1, P, _, n1.refl, Reps.cons (by simp only [Rep]; exact r1) Reps.nil, t1, fun d S' v H' a b c => oo _ _ _ _ a (n1.trans b) c, fun C' S' H' w n3 => ⟨ρ, S', C', rfl, rfl, (st.next n1).next n3, w⟩⟩⟩
theorem run_makeE {sp : Sp} {E : St → XK} {pins : List (Addr × Obj)} {σ : St} {H : Hp} {s : Shared} {Q : VK} {us : List Value} {vs : List V} (M : Mk X.K C f) (F : FnOk X.prog X.w X.K X.mg X.base (L2.CX X.prog X.w) k f fd ps sp) (hr : Room (k + 1) X.A) (hb : Binds X.K fd ps [])
    (hx : PassesAt (L2.CX X.prog X.w) X σ (E σ)) (I : Inv X pins σ H s) (r : Vals vs us)
    (h : ∀ x dx, H x = none → H dx = none → dx ≠ x → sp (.ref x :: vs) (upd (upd H dx (.own x)) x (.ins C dx [])) (fun v H2 => v = .non ∧ Q (.ref x) H2) (E σ)) :
    wpAny (model X.prog X.w) X.A (call (.ref C) us) (EP X pins σ Q) X.xe s := by
  have hq := h (s.heap.objs.size + 1) s.heap.objs.size (I.hok.fresh (Nat.le_succ _)) (I.hok.fresh (Nat.le_refl _)) (Nat.ne_of_lt (Nat.lt_succ_self _))
  have I2 := Inv.made (C := C) I
  have r2 : Vals (V.ref (s.heap.objs.size + 1) :: vs) (Value.ref (s.heap.objs.size + 1) :: us) := .cons rfl r
  have hl : (Value.ref (s.heap.objs.size + 1) :: us ++ []).length = ps.length := by
    have e := r2.length
    rw [F.len _ _ _ _ hq] at e
    rw [List.append_nil]
    exact e.symm
  have b := hb _ (Value.ref (s.heap.objs.size + 1) :: us) I2.kIn hl
  rw [List.append_nil] at b
  refine wpAny_call (make_map (f := f) I.kIn M.makes M.init (beq_iff_eq.mp M.fn) (codeAny_mono (F.run _ X.stack _ _ ⟨Value.ref (s.heap.objs.size + 1) :: us, []⟩ (Value.ref (s.heap.objs.size + 1) :: us) _ _ (E σ) (hr.make C us [])
    (I2.env0.make C us []) b r2 hq) fun r s' hq' => ?_))
  cases r with
  | error e => exact hx pins _ _ e s' I2 hq'
  | ok fl =>
    cases fl with
    | ret u =>
      obtain ⟨v, H', I3, rv, ev, q3⟩ := I2.after hq'
      subst ev
      exact ⟨rv, ⟨V.ref (s.heap.objs.size + 1), H', I3, rfl, q3⟩⟩
    | next => exact False.elim hq'
    | brk => exact False.elim hq'
    | cont => exact False.elim hq'
theorem de_make (M : Mk X.K C f) (F : FnOk X.prog X.w X.K X.mg X.base (L2.CX X.prog X.w) k f fd ps (upSp X.K sp)) (hr : Room (k + 1) X.A) (hm : X.mg x = some (.ref C)) (hb : Binds X.K fd ps []) (tk : Takes X (upW X.K G0 W))
    (ha : DA X G0 (e :: es) ta) (hg : Gl X x := by rfl) (hdb : (x == ("__debug__" : Str)) = false := by decide) (he : starEach (e :: es) X.env = (false, eval e X.env) :: starEach es X.env := by rfl) (hpl : (backTo pos (starEach es X.env)).any (·.1) = false := by rfl) :
    DE X G0 (.Call (.Name x p) (e :: es) [] pos) (dMake C sp W ta) := by
  refine ⟨fun pins s σ H Q I h => ?_⟩
  obtain ⟨ρ, S, P, st, t, oo⟩ := h
  refine wpAny_Call_Name_kw (ld_glob I hg hm ?_ hdb)
  refine PySem.W.callWith_K (h₀ := X.base) I.ok.mod.kin M.kp (thn (ha.run pos pins s σ H (fun vs H1 => ∃ ds S1, Nx X.K (wo H S) S1 H1 ∧ Reps X.K (wo H1 S1) ds vs ∧ ∀ x, S1 x = none → sp (.ref x :: ds) (su S1 x (.ins C [])) (fun d S2 => d = .non ∧ P (.ref x) S2) fun C S' => W C ρ S') I
    ⟨ρ, S, _, st, t, fun ds S1 vs H1 t1 n1 r1 => ⟨ds, S1, n1, r1, t1⟩⟩) fun us s1 ⟨vs, H1, I1, r, ds, S1, n1, r1, t1⟩ => ⟨I1.kIn, ?_⟩) he hpl
  refine run_makeE (E := WE (upW X.K G0 W)) M F hr hb (passAt tk σ) I1 r fun x dx hx hdx hne => ?_
  have nA : Nx X.K (wo H1 S1) S1 (upd H1 dx (.own x)) := n1.alloc hdx
  have hx2 : upd H1 dx (.own x) x = none := by rw [upd_ne (Ne.symm hne)]; exact hx
  have nB : Nx X.K (wo (upd H1 dx (.own x)) S1) (su S1 x (.ins C [])) (upd (upd H1 dx (.own x)) x (.ins C dx [])) := nA.cell hx2 fun G' s => ⟨dx, [], upd_same, Reps.nil⟩
  have n2 := nA.trans nB
  refine ⟨_, _, _, _, n2.refl, Reps.cons (by simp only [Rep]) (r1.mono n2.st), t1 x (n1.free hx), fun d S' v H' a b c => ?_, fun C' S' H' w n3 => ⟨ρ, S', C', rfl, rfl, ((st.next n1).next n2).next n3, w⟩⟩
  obtain ⟨rfl, a⟩ := a
  simp only [Rep] at c
  exact ⟨c, oo _ _ _ _ a (n1.trans (n2.trans b)) (by simp only [Rep])⟩
end
def dAndT (t u : TDT) : TDT := fun ρ S P => t ρ S fun c S1 => if c = true then u ρ S1 P else P false S1
def dOrT (t u : TDT) : TDT := fun ρ S P => t ρ S fun c S1 => if c = true then P true S1 else u ρ S1 P
def dNotT (t : TDT) : TDT := fun ρ S P => t ρ S fun c S1 => P (!c) S1
def dAndV (ta tb : TDE) : TDE := fun ρ S P => ta ρ S fun x S1 => match x with
  | .bl c => if c = true then tb ρ S1 P else P (.bl false) S1
  | _ => False
def dOrV (ta tb : TDE) : TDE := fun ρ S P => ta ρ S fun x S1 => match x with
  | .bl c => if c = true then P (.bl true) S1 else tb ρ S1 P
  | _ => False
def dNotV (ta : TDE) : TDE := fun ρ S P => ta ρ S fun x S1 => match x with
  | .bl c => P (.bl (!c)) S1
  | _ => False
def dIf (t : TDT) (ta tb : TDE) : TDE := fun ρ S P => t ρ S fun c S1 => if c = true then ta ρ S1 P else tb ρ S1 P
section
variable {X : Cx} {G0 : Hp} {a b : Expr} {rest : List Expr} {ta tb : TDE} {tA tB : TDT} {pos : Pos}
theorem bl_rep {K : PySem.W.Frag} {G : Hp} {d : D} {v : V} {P : Bool → Prop} (t : match d with | .bl c => P c | _ => False) (r : Rep K G d v) : ∃ c, v = .bl c ∧ P c := by
  cases d with
  | bl c => simp only [Rep] at r; exact ⟨c, r, t⟩
  | _ => exact t.elim
theorem dt_val (h : DE X G0 a ta) (he : ∀ whole, isTrue a X.env whole = (do let v ← whole; standAt a.pos; holding [v] (truthy v)) := by intro _; rfl) : DT X G0 a (dB ta) :=
  PT.imp (pt_val h he) fun σ H Q ⟨ρ, S, P, st, t, o⟩ => ⟨ρ, S, _, st, t, fun d S1 v H1 t1 n1 r1 => by
    cases d with
    | bl c => simp only [Rep] at r1; exact ⟨c, r1, o _ _ _ t1 n1⟩
    | _ => exact t1.elim⟩
theorem up_and (σ : St) (H : Hp) (Q : Bool → Hp → Prop) (h : upT X.K G0 (dAndT tA tB) σ H Q) : tAnd (upT X.K G0 tA) (upT X.K G0 tB) σ H Q := by
  obtain ⟨ρ, S, P, st, t, o⟩ := h
  refine ⟨ρ, S, _, st, t, fun c S1 H1 t1 n1 => ?_⟩
  cases c with
  | true => exact ⟨ρ, S1, _, st.next n1, t1, fun b S' H' p n => o _ _ _ p (n1.trans n)⟩
  | false => exact o _ _ _ t1 n1
theorem up_or (σ : St) (H : Hp) (Q : Bool → Hp → Prop) (h : upT X.K G0 (dOrT tA tB) σ H Q) : tOr (upT X.K G0 tA) (upT X.K G0 tB) σ H Q := by
  obtain ⟨ρ, S, P, st, t, o⟩ := h
  refine ⟨ρ, S, _, st, t, fun c S1 H1 t1 n1 => ?_⟩
  cases c with
  | true => exact o _ _ _ t1 n1
  | false => exact ⟨ρ, S1, _, st.next n1, t1, fun b S' H' p n => o _ _ _ p (n1.trans n)⟩
theorem dw_and1 (ha : DT X G0 a tA) : DW X G0 (.BoolOp .And [a] pos) tA := pw_and1 ha
theorem dw_or1 (ha : DT X G0 a tA) : DW X G0 (.BoolOp .Or [a] pos) tA := pw_or1 ha
theorem dw_and (ha : DT X G0 a tA) (hb : DW X G0 (.BoolOp .And (b :: rest) pos) tB) : DW X G0 (.BoolOp .And (a :: b :: rest) pos) (dAndT tA tB) := PW.imp (pw_and ha hb) up_and
theorem dw_or (ha : DT X G0 a tA) (hb : DW X G0 (.BoolOp .Or (b :: rest) pos) tB) : DW X G0 (.BoolOp .Or (a :: b :: rest) pos) (dOrT tA tB) := PW.imp (pw_or ha hb) up_or
theorem dt_w {e : Expr} (h : DW X G0 e tA) : DT X G0 e tA := PW.pt h
theorem dt_not (ha : DT X G0 a tA) : DT X G0 (.UnaryOp .Not a pos) (dNotT tA) := PT.imp (pt_not ha) fun σ H Q ⟨ρ, S, P, st, t, o⟩ => ⟨ρ, S, _, st, t, fun c S1 H1 t1 n1 => o _ _ _ t1 n1⟩
theorem de_one {op} (h : DE X G0 a ta) : DE X G0 (.BoolOp op [a] pos) ta := pe_one h
theorem de_and (ha : DE X G0 a ta) (hb : DE X G0 (.BoolOp .And (b :: rest) pos) tb) : DE X G0 (.BoolOp .And (a :: b :: rest) pos) (dAndV ta tb) :=
  PE.imp (pe_and ha hb) fun σ H Q ⟨ρ, S, P, st, t, o⟩ => ⟨ρ, S, _, st, t, fun d S1 v H1 t1 n1 r1 => by
    cases d with
    | bl c =>
      simp only [Rep] at r1
      refine ⟨c, r1, ?_⟩
      cases c with
      | true => exact ⟨ρ, S1, _, st.next n1, t1, fun d S' v H' p n r => o _ _ _ _ p (n1.trans n) r⟩
      | false => exact o _ _ _ _ t1 n1 (by simp only [Rep])
    | _ => exact t1.elim⟩
theorem de_or (ha : DE X G0 a ta) (hb : DE X G0 (.BoolOp .Or (b :: rest) pos) tb) : DE X G0 (.BoolOp .Or (a :: b :: rest) pos) (dOrV ta tb) :=
  PE.imp (pe_or ha hb) fun σ H Q ⟨ρ, S, P, st, t, o⟩ => ⟨ρ, S, _, st, t, fun d S1 v H1 t1 n1 r1 => by
    cases d with
    | bl c =>
      simp only [Rep] at r1
      refine ⟨c, r1, ?_⟩
      cases c with
      | true => exact o _ _ _ _ t1 n1 (by simp only [Rep])
      | false => exact ⟨ρ, S1, _, st.next n1, t1, fun d S' v H' p n r => o _ _ _ _ p (n1.trans n) r⟩
    | _ => exact t1.elim⟩
theorem de_not (ha : DE X G0 a ta) : DE X G0 (.UnaryOp .Not a pos) (dNotV ta) :=
  PE.imp (pe_not ha) fun σ H Q ⟨ρ, S, P, st, t, o⟩ => ⟨ρ, S, _, st, t, fun d S1 v H1 t1 n1 r1 => by
    cases d with
    | bl c => simp only [Rep] at r1; exact ⟨c, r1, o _ _ _ _ t1 n1 (by simp only [Rep])⟩
    | _ => exact t1.elim⟩
theorem de_if {c : Expr} (hc : DT X G0 c tA) (ha : DE X G0 a ta) (hb : DE X G0 b tb) : DE X G0 (.IfExp c a b pos) (dIf tA ta tb) :=
  PE.imp (pe_ifExp hc ha hb) fun σ H Q ⟨ρ, S, P, st, t, o⟩ => ⟨ρ, S, _, st, t, fun c S1 H1 t1 n1 => by
    cases c with
    | true => exact ⟨ρ, S1, _, st.next n1, t1, fun d S' v H' p n r => o _ _ _ _ p (n1.trans n) r⟩
    | false => exact ⟨ρ, S1, _, st.next n1, t1, fun d S' v H' p n r => o _ _ _ _ p (n1.trans n) r⟩⟩
end
end DL
namespace DL
open PySem L2
def dNext : TDS := fun D ρ S => D.nx ρ S
def dSeq (t u : TDS) : TDS := fun D ρ S => t { D with nx := u D } ρ S
def dDrop (te : TDE) : TDS := fun D ρ S => te ρ S fun _ S1 => D.nx ρ S1
def dRet (te : TDE) : TDS := fun D ρ S => te ρ S D.rt
def dRetN : TDS := fun D _ S => D.rt .non S
def dIfS (c : TDT) (t u : TDS) : TDS := fun D ρ S => c ρ S fun b S1 => if b = true then t D ρ S1 else u D ρ S1
def dCont : TDS := fun D ρ S => D.ct ρ S
abbrev TDG := D → Env' → Sto → (Env' → Sto → Prop) → Prop
def dgN (i : Nat) : TDG := fun d ρ S P => P (ρ.set i (some d)) S
def dgSeq : List Nat → List D → Env' → Option Env'
  | [], [], ρ => some ρ
  | i :: is, d :: ds, ρ => dgSeq is ds (ρ.set i (some d))
  | _, _, _ => none
def dgT (is : List Nat) : TDG := fun d ρ S P => match d with
  | .tup ds => match dgSeq is ds ρ with
    | some ρ' => P ρ' S
    | none => False
  | _ => False
def dAsg (te : TDE) (g : TDG) : TDS := fun D ρ S => te ρ S fun d S1 => g d ρ S1 D.nx
def setD (o i d : D) (S : Sto) (P : Sto → Prop) : Prop := match o with
  | .ref p => match S p with
    | some (.ml xs) => match i with
      | .int k => match ixN xs.length k with
        | some j => P (su S p (.ml (xs.set j d)))
        | none => False
      | _ => False
    | some (.dI kvs) => match kI i with
      | some k => kvs.length < sizeLine ∧ P (su S p (.dI (dput kvs k d)))
      | none => False
    | some (.dS kvs) => match i with
      | .str z => kvs.length < sizeLine ∧ P (su S p (.dS (dput kvs z d)))
      | _ => False
    | _ => False
  | _ => False
def dSetIx (to ti te : TDE) : TDS := fun D ρ S => te ρ S fun d S1 => to ρ S1 fun o S2 => ti ρ S2 fun i S3 => setD o i d S3 fun S4 => D.nx ρ S4

section
variable {X : Cx} {G0 : Hp} {st : Stmt} {rest : List Stmt} {t u : TDS} {pos : Pos} {e : Expr} {te : TDE}
theorem EndsUp.nx' {K : PySem.W.Frag} {dD : DEnds} {D : Ends} (x : EndsUp K G0 dD D) {n' : Env' → Sto → Prop} {n : St → Hp → Prop} (h : ∀ ρ S σ H, n' ρ S → Stt K G0 ρ S σ H → n σ H) : EndsUp K G0 { dD with nx := n' } { D with nx := n } :=
  ⟨h, x.rt, x.bk, x.ct⟩
theorem dss_nil : DSs X G0 [] dNext := PSs.imp pss_nil fun D σ H ⟨ρ, S, dD, s, t, o⟩ => o.nx _ _ _ _ t s
theorem dss_cons (h1 : DS X G0 st t) (h2 : DSs X G0 rest u) : DSs X G0 (st :: rest) (dSeq t u) := PSs.imp (pss_cons h1 h2) fun D σ H ⟨ρ, S, dD, s, t, o⟩ =>
  ⟨ρ, S, _, s, t, o.nx' fun ρ S σ H x s' => ⟨ρ, S, dD, s', x, o⟩⟩
theorem dss_one (h1 : DS X G0 st t) : DSs X G0 [st] t := pss_one h1
theorem ds_pass : DS X G0 (.Pass pos) dNext := PS.imp ps_pass fun D σ H ⟨ρ, S, dD, s, t, o⟩ => o.nx _ _ _ _ t s
theorem ds_cont : DS X G0 (.Continue pos) dCont := PS.imp ps_continue fun D σ H ⟨ρ, S, dD, s, t, o⟩ => o.ct _ _ _ _ t s
theorem ds_doc {x j pos pos'} : DS X G0 (.Expr (.Constant (.str x) j pos) pos') dNext := PS.imp ps_doc fun D σ H ⟨ρ, S, dD, s, t, o⟩ => o.nx _ _ _ _ t s
theorem ds_expr (he : DE X G0 e te) (hs : swapsWith e none pos.line X.env = pure false := by rfl) : DS X G0 (.Expr e pos) (dDrop te) := PS.imp (ps_expr he hs) fun D σ H ⟨ρ, S, dD, s, t, o⟩ =>
  ⟨ρ, S, _, s, t, fun d S' v H' a b c => o.nx _ _ _ _ a (s.next b)⟩
theorem ds_ret (he : DE X G0 e te) : DS X G0 (.Return (some e) pos) (dRet te) := PS.imp (ps_ret he) fun D σ H ⟨ρ, S, dD, s, t, o⟩ =>
  ⟨ρ, S, _, s, t, fun d S' v H' a b c => o.rt _ _ _ _ a (s.nx.trans b) c⟩
theorem ds_retN : DS X G0 (.Return none pos) dRetN := PS.imp ps_retN fun D σ H ⟨ρ, S, dD, s, t, o⟩ => o.rt _ _ _ _ t s.nx (by simp only [Rep])
theorem ds_if {c : Expr} {a b : List Stmt} {tc : TDT} (hc : DT X G0 c tc) (ha : DSs X G0 a t) (hb : DSs X G0 b u) : DS X G0 (.If c a b pos) (dIfS tc t u) := PS.imp (ps_if hc ha hb) fun D σ H ⟨ρ, S, dD, s, t, o⟩ =>
  ⟨ρ, S, _, s, t, fun c S1 H1 t1 n1 => by
    cases c with
    | true => exact ⟨ρ, S1, dD, s.next n1, t1, o⟩
    | false => exact ⟨ρ, S1, dD, s.next n1, t1, o⟩⟩
def LiftG (K : PySem.W.Frag) (g : TG) (g' : TDG) : Prop := ∀ G0 d v ρ S σ H P Q, Stt K G0 ρ S σ H → Rep K (wo H S) d v → g' d ρ S P → (∀ ρ' σ', P ρ' S → Stt K G0 ρ' S σ' H → Q σ' H) → g v σ H Q
theorem lift_gN {K : PySem.W.Frag} {i : Nat} : LiftG K (gName i) (dgN i) := fun G0 d v ρ S σ H P Q s r t o => o _ _ t ⟨s.env.set r, s.nx⟩
theorem lift_gSeq {K : PySem.W.Frag} {tg : TGs} : ∀ {is : List Nat}, tg = (is.foldr (fun i t => gCons (gName i) t) gNil) → ∀ {G0 : Hp} {ds : List D} {vs : List V} {ρ ρ' : Env'} {S : Sto} {σ : St} {H : Hp} {Q : St → Hp → Prop},
    Stt K G0 ρ S σ H → Reps K (wo H S) ds vs → dgSeq is ds ρ = some ρ' → (∀ σ', Stt K G0 ρ' S σ' H → Q σ' H) → tg vs σ H Q
  | [], e, G0, ds, vs, ρ, ρ', S, σ, H, Q, s, r, h, o => by
    subst e
    cases ds with
    | nil =>
      simp only [Reps] at r
      cases h
      exact ⟨r, o _ s⟩
    | cons _ _ => cases h
  | i :: is, e, G0, ds, vs, ρ, ρ', S, σ, H, Q, s, r, h, o => by
    subst e
    cases ds with
    | nil => cases h
    | cons d ds =>
      simp only [Reps] at r
      obtain ⟨v, t, rfl, q, r⟩ := r
      exact ⟨v, t, rfl, lift_gSeq rfl (ρ := ρ.set i (some d)) (σ := σ.set i (some v)) ⟨s.env.set q, s.nx⟩ r h o⟩
theorem dgSeq_len : ∀ {is : List Nat} {ds : List D} {ρ ρ' : Env'}, dgSeq is ds ρ = some ρ' → ds.length = is.length
  | [], [], _, _, _ => rfl
  | _ :: is, _ :: ds, ρ, ρ', h => by rw [List.length_cons, List.length_cons, dgSeq_len (is := is) (ds := ds) h]
  | [], _ :: _, _, _, h => by cases h
  | _ :: _, [], _, _, h => by cases h
theorem lift_gT {K : PySem.W.Frag} {is : List Nat} {n : Nat} (hn : n = is.length) : LiftG K (gTup K n (is.foldr (fun i t => gCons (gName i) t) gNil)) (dgT is) := fun G0 d v ρ S σ H P Q s r t o => by
  cases d with
  | tup ds =>
    simp only [dgT] at t
    cases e : dgSeq is ds ρ with
    | none => rw [e] at t; exact t.elim
    | some ρ' =>
      rw [e] at t
      simp only [Rep] at r
      obtain ⟨a, vs, rfl, q, r⟩ := r
      exact ⟨a, vs, rfl, SqT.of (wo_le _ _ _ _ q), by rw [← r.len, dgSeq_len e, hn], lift_gSeq rfl s r e fun σ' s' => o _ _ t s'⟩
  | _ => exact t.elim
theorem ds_asg {tg : Expr} {g : TG} {g' : TDG} (he : DE X G0 e te) (hg : PG X tg g) (hl : LiftG X.K g g') (hs : swapsWithSole [tg] e pos.line X.env = pure false := by rfl) (hw : swappedStores [tg] e X.env = pure none := by rfl)
    (h1 : (assignEach [tg] X.env).map (·.2) = [assign tg X.env] := by rfl) : DS X G0 (.Assign [tg] e pos) (dAsg te g') :=
  PS.imp (ps_asg he hg hs hw h1) fun D σ H ⟨ρ, S, dD, s, t, o⟩ => ⟨ρ, S, _, s, t, fun d S' v H' a b c => hl _ _ _ _ _ _ _ _ _ (s.next b) c a fun ρ' σ' p s' => o.nx _ _ _ _ p s'⟩
theorem ds_set (i : Nat) {x : Str} {pos' : Pos} (hN : X.N.Nodup) (he : DE X G0 e te) (hi : X.N[i]? = some x := by rfl) (hx : Loc X.env.scope x := by first | exact Or.inl rfl | exact Or.inr rfl) (hs : swapsWith e (some (.Name x pos')) pos.line X.env = pure false := by rfl)
    (hf : X.fn x = true ∨ X.env.scope.names.lookup x = some .local := by first | exact .inr rfl | exact .inl rfl) : DS X G0 (.Assign [.Name x pos'] e pos) (dAsg te (dgN i)) :=
  PS.imp (ps_set hN hi hx he hs hf) fun D σ H ⟨ρ, S, dD, s, t, o⟩ => ⟨ρ, S, _, s, t, fun d S' v H' a b c => lift_gN _ _ _ _ _ _ _ _ _ (s.next b) c a fun ρ' σ' p s' => o.nx _ _ _ _ p s'⟩
theorem setD_ok {K : PySem.W.Frag} {G H : Hp} {S : Sto} {o i d : D} {ov iv v : V} {P : Sto → Prop} {Q : Hp → Prop} (n : Nx K G S H) (ro : Rep K (wo H S) o ov) (ri : Rep K (wo H S) i iv) (rd : Rep K (wo H S) d v) (t : setD o i d S P)
    (oo : ∀ S' H', P S' → Nx K (wo H S) S' H' → Q H') : rSetL ov iv v H Q ∨ ∃ a H', ov = .ref a ∧ DPut H a iv v H' ∧ Q H' := by
  cases o with
  | ref p =>
    simp only [Rep] at ro
    simp only [setD] at t
    cases h : S p with
    | none => rw [h] at t; exact t.elim
    | some c =>
      rw [h] at t
      cases c with
      | ml xs =>
        cases i with
        | int k =>
          dsimp only at t
          cases e : ixN xs.length k with
          | none => rw [e] at t; exact t.elim
          | some j =>
            rw [e] at t
            simp only [Rep] at ri
            obtain ⟨us, q, r⟩ := n.ok p _ h
            exact .inl ⟨p, us, k, j, ro, ri, q, by rw [← r.len]; exact e, oo _ _ t (n.write h ⟨_, upd_same, r.set rd j⟩)⟩
        | _ => exact t.elim
      | dI kvs =>
        dsimp only at t
        cases e : kI i with
        | none => rw [e] at t; exact t.elim
        | some k =>
          rw [e] at t
          obtain ⟨us, q, r⟩ := n.ok p _ h
          obtain ⟨b, rfl, hb⟩ := kI_rep (wo_le H S) ri e
          obtain ⟨ws, e2, r2⟩ := zip_put (f := fun k : List Int => (k.map Sum.inl : List Key)) inl_inj k rd r
          refine .inr ⟨p, _, ro, DPut.t (v := v) q hb ?_, oo _ _ t.2 (n.write h ⟨ws, ?_, r2⟩)⟩
          · rw [List.length_zip, List.length_map]; have := t.1; omega
          · rw [upd_same]; exact congrArg (fun z => some (HO.dT z)) e2
      | dS kvs =>
        cases i with
        | str z =>
          dsimp only at t
          simp only [Rep] at ri
          subst ri
          obtain ⟨us, q, r⟩ := n.ok p _ h
          obtain ⟨ws, e2, r2⟩ := zip_put (f := fun k : Str => (Sum.inr k : Key)) inr_inj z rd r
          refine .inr ⟨p, _, ro, DPut.k (k := Sum.inr z) (v := v) q ?_, oo _ _ t.2 (n.write h ⟨ws, ?_, r2⟩)⟩
          · rw [List.length_zip, List.length_map]; have := t.1; omega
          · rw [upd_same]; exact congrArg (fun z => some (HO.dK z)) e2
        | _ => exact t.elim
      | ins _ _ => exact t.elim
  | _ => exact t.elim
theorem ds_setIx {k : Nat} {o i : Expr} {pos' : Pos} {to ti : TDE} (hr : Room k X.A) (ho : DE X G0 o to) (hi : DE X G0 i ti) (he : DE X G0 e te)
    (ha : ∀ v, assign (.Subscript o i pos') X.env v = (do
      let ov ← holding [v] (eval o X.env)
      let iv ← holding [v, ov] (eval i X.env)
      standAt pos'
      holding [v, ov, iv] (setItem ov iv v)
      release [v, ov, iv] []) := by intro _; rfl)
    (hs : swapsWithSole [.Subscript o i pos'] e pos.line X.env = pure false := by rfl) (hw : swappedStores [.Subscript o i pos'] e X.env = pure none := by rfl)
    (h1 : (assignEach [.Subscript o i pos'] X.env).map (·.2) = [assign (.Subscript o i pos') X.env] := by rfl) : DS X G0 (.Assign [.Subscript o i pos'] e pos) (dSetIx to ti te) :=
  PS.imp (ps_asg he (pg_sub ho hi (PSet.or set_list (set_dict (hu_of hr))) ha) hs hw h1) fun D σ H ⟨ρ, S, dD, s, t, oo⟩ => ⟨ρ, S, _, s, t, fun d S1 v H1 t1 n1 r1 => ⟨ρ, S1, _, s.next n1, t1, fun o S2 ov H2 t2 n2 r2 => ⟨ρ, S2, _, (s.next n1).next n2, t2, fun i S3 iv H3 t3 n3 r3 =>
    setD_ok n3 (r2.mono n3.st) r3 (r1.mono (n2.trans n3).st) t3 fun S' H' p n => oo.nx _ _ _ _ p ((((s.next n1).next n2).next n3).next n)⟩⟩⟩
end
def dGo (still : Sto → Prop) (g : TDG) (tb : TDS) (E : DEnds) : List D → Env' → Sto → Prop
  | [], ρ, S => still S ∧ E.nx ρ S
  | x :: r, ρ, S => still S ∧ g x ρ S fun ρ' S' => tb { nx := dGo still g tb E r, ct := dGo still g tb E r, bk := E.nx, rt := E.rt } ρ' S'
def dForK (o : Option (List D)) (d : D) (g : TDG) (tb : TDS) (E : DEnds) (ρ : Env') (S : Sto) : Prop := match o with
  | some xs => dGo (fun S' => vl S' d = some xs) g tb E xs ρ S
  | none => False
def dFor (te : TDE) (g : TDG) (tb : TDS) : TDS := fun E ρ S => te ρ S fun d S1 => dForK (vl S1 d) d g tb E ρ S1
def intsD (lo : Int) (n : Nat) : List D := (List.range n).map fun i => .int (lo + (i : Nat))
def rng1 (k : Int → Nat → Sto → Prop) : List D → Sto → Prop := fun xs S1 => match xs with
  | [.int j] => (-(2 ^ 62) ≤ j ∧ j < 2 ^ 62) ∧ k 0 j.toNat S1
  | _ => False
def rng2 (k : Int → Nat → Sto → Prop) : List D → Sto → Prop := fun xs S1 => match xs with
  | [.int i, .int j] => (-(2 ^ 62) ≤ i ∧ i < 2 ^ 62 ∧ -(2 ^ 62) ≤ j ∧ j < 2 ^ 62) ∧ k i (j - i).toNat S1
  | _ => False
def dFor1 (ta : TDA) (g : TDG) (tb : TDS) : TDS := fun E ρ S => ta ρ S fun xs S1 => rng1 (fun lo n S1 => dGo (fun _ => True) g tb E (intsD lo n) ρ S1) xs S1
def dFor2 (ta : TDA) (g : TDG) (tb : TDS) : TDS := fun E ρ S => ta ρ S fun xs S1 => rng2 (fun lo n S1 => dGo (fun _ => True) g tb E (intsD lo n) ρ S1) xs S1
def dWh (c : TDT) (tb : TDS) (E : DEnds) : Nat → Env' → Sto → Prop
  | 0, _, _ => False
  | n + 1, ρ, S => c ρ S fun b S1 => if b = true then tb { nx := dWh c tb E n, ct := dWh c tb E n, bk := E.nx, rt := E.rt } ρ S1 else E.nx ρ S1
def dWhile (c : TDT) (tb : TDS) : TDS := fun E ρ S => ∃ n, dWh c tb E n ρ S
section
variable {X : Cx} {G0 : Hp} {pos : Pos} {te : TDE} {W : WD}
theorem dGo_still {still : Sto → Prop} {g : TDG} {tb : TDS} {E : DEnds} {xs : List D} {ρ : Env'} {S : Sto} (h : dGo still g tb E xs ρ S) : still S := by
  cases xs with
  | nil => exact h.1
  | cons _ _ => exact h.1
theorem intsD_len {lo : Int} {n : Nat} : (intsD lo n).length = n := by simp [intsD]
theorem intsD_get {lo : Int} {n i : Nat} (h : i < (intsD lo n).length) : (intsD lo n)[i] = .int (lo + (i : Nat)) := by
  simp [intsD]
theorem Stt.le {K : PySem.W.Frag} {G G' H : Hp} {ρ : Env'} {S : Sto} {σ : St} (x : Stt K G' ρ S σ H) (h : Same G G') : Stt K G ρ S σ H := ⟨x.env, x.nx.le h⟩
theorem Takes.le {K : PySem.W.Frag} {G G' : Hp} (tk : Takes X (upW K G W)) (h : Same G G') : Takes X (upW K G' W) := tk.imp fun c d σ H ⟨ρ, S, C, e1, e2, s, w⟩ => ⟨ρ, S, C, e1, e2, s.le h, w⟩
theorem EndsUp.loop {K : PySem.W.Frag} {G G' : Hp} {dD : DEnds} {D : Ends} (x : EndsUp K G dD D) (le : Same G G') {n' : Env' → Sto → Prop} {n : St → Hp → Prop} (h : ∀ ρ S σ H, n' ρ S → Stt K G' ρ S σ H → n σ H) :
    EndsUp K G' { nx := n', ct := n', bk := dD.nx, rt := dD.rt } { D with nx := n, ct := n, bk := D.nx } := ⟨h, fun d S v H a b c => x.rt d S v H a (b.le le) c, fun ρ S σ H a b => x.nx ρ S σ H a (b.le le), h⟩
theorem ds_for {iter tg : Expr} {body : List Stmt} {g : TG} {g' : TDG} {tb : TDS} (hp : PassesOwn (model X.prog X.w) X.A X.env X.xe) (hc : X.calm = true) (tk : Takes X (upW X.K G0 W)) (hi : DE X G0 iter te) (hg : PG X tg g) (hl : LiftG X.K g g')
    (hb : ∀ G1, Takes X (upW X.K G1 W) → DSs X G1 body tb) (hs : ∀ x, foldedSetIterable iter X.env x = pure x := by intro _; rfl) : DS X G0 (.For tg iter body [] pos) (dFor te g' tb) := by
  have key : PS X (.For tg iter body [] pos) (tFor (iList X.K (upE X.K G0 te)) g (fun D σ H => ∃ G1, Takes X (upW X.K G1 W) ∧ upS X.K G1 tb D σ H)) :=
    ps_for hp hc (pi_list hi) hg (tb := fun D σ H => ∃ G1, Takes X (upW X.K G1 W) ∧ upS X.K G1 tb D σ H) ⟨fun pins s σ H D I ⟨G1, tk1, h⟩ => (hb G1 tk1).run pins s σ H D I h⟩ hs
  refine PS.imp key fun E σ H ⟨ρ, S, dD, s, t, o⟩ => ⟨ρ, S, _, s, t, fun d S1 v H1 t1 n1 r1 => ?_⟩
  cases e : vl S1 d with
  | none => rw [e] at t1; exact t1.elim
  | some xs =>
    rw [e] at t1
    simp only [dForK] at t1
    obtain ⟨a, vs, ev, q, r⟩ := vl_rep n1 r1 e
    refine ⟨a, ev, ⟨vs, q⟩, fun i m σ H => m = xs.length - i ∧ i ≤ xs.length ∧ ∃ ρ' S', Stt X.K G0 ρ' S' σ H ∧ Rep X.K (wo H S') d v ∧ dGo (fun S' => vl S' d = some xs) g' tb dD (xs.drop i) ρ' S', ⟨_, rfl, Nat.zero_le _, ρ, S1, s.next n1, r1, t1⟩, ?_⟩
    rintro i m σ2 H2 ⟨rfl, hi', ρ2, S2, s2, rd, go⟩
    have st := dGo_still go
    obtain ⟨a', vs', ev', q', r'⟩ := vl_rep s2.nx.refl rd st
    have ea : a' = a := by rw [ev] at ev'; exact (V.ref.inj ev').symm
    subst ea
    by_cases hlt : i < xs.length
    · rw [List.drop_eq_getElem_cons hlt] at go
      refine .inr ⟨⟨vs', vs'[i]'(by rw [← r'.len]; exact hlt), q', by simp⟩, fun σ3 H3 => i + 1 ≤ xs.length ∧ ∃ ρ' S', Stt X.K G0 ρ' S' σ3 H3 ∧ Rep X.K (wo H3 S') d v ∧ dGo (fun S' => vl S' d = some xs) g' tb dD (xs.drop (i + 1)) ρ' S',
        fun σ3 H3 z => ⟨xs.length - (i + 1), by omega, rfl, z.1, z.2⟩, fun x H3 y => ?_⟩
      obtain ⟨e3, y⟩ := y
      cases e3
      have hx := y vs' q'
      obtain ⟨w, hw, rw'⟩ := r'.get (i := i) (d := xs[i]) (by simp [hlt])
      have ew : x = w := by rw [hx] at hw; exact Option.some.inj hw
      subst ew
      refine hl (wo H2 S2) _ _ _ _ _ _ _ _ ⟨s2.env, s2.nx.refl⟩ rw' go.2 fun ρ3 σ3 p s3 => ?_
      exact ⟨wo H2 S2, Takes.le tk s2.nx.st, ρ3, S2, _, s3, p, o.loop s2.nx.st fun ρ4 S4 σ4 H4 z s4 => ⟨hlt, ρ4, S4, s4.le s2.nx.st, rd.mono s4.nx.st, z⟩⟩
    · have e' : i = xs.length := by omega
      subst e'
      rw [List.drop_length] at go
      exact .inl ⟨⟨vs', q', by rw [← r'.len]; exact Nat.le_refl _⟩, o.nx _ _ _ _ go.2 s2⟩
theorem go_rng {body : List Stmt} {g : TG} {g' : TDG} {tb : TDS} {lo : Int} {n : Nat} (tk : Takes X (upW X.K G0 W)) (hl : LiftG X.K g g') {dD : DEnds} {E : Ends} (o : EndsUp X.K G0 dD E) {ρ : Env'} {S : Sto} {σ : St} {H : Hp} (s : Stt X.K G0 ρ S σ H)
    (t : dGo (fun _ => True) g' tb dD (intsD lo n) ρ S) : ∃ Wi : Nat → Nat → St → Hp → Prop, (∃ m, Wi 0 m σ H) ∧ ∀ i m σ H, Wi i m σ H →
      ((Itr lo n).stop i H ∧ E.nx σ H) ∨ ((Itr lo n).go i H ∧ ∃ N : St → Hp → Prop, (∀ σ' H', N σ' H' → ∃ m', m' < m ∧ Wi (i + 1) m' σ' H') ∧ ∀ x H', (Itr lo n).yld i H x H' → g x σ H' fun σ2 H2 => (fun D σ H => ∃ G1, Takes X (upW X.K G1 W) ∧ upS X.K G1 tb D σ H) { E with nx := N, ct := N, bk := E.nx } σ2 H2) := by
  refine ⟨fun i m σ H => m = n - i ∧ i ≤ n ∧ ∃ ρ' S', Stt X.K G0 ρ' S' σ H ∧ dGo (fun _ => True) g' tb dD ((intsD lo n).drop i) ρ' S', ⟨_, rfl, Nat.zero_le _, ρ, S, s, t⟩, ?_⟩
  rintro i m σ2 H2 ⟨rfl, hi', ρ2, S2, s2, go⟩
  by_cases hlt : i < n
  · have hlt' : i < (intsD lo n).length := by rw [intsD_len]; exact hlt
    rw [List.drop_eq_getElem_cons hlt', intsD_get hlt'] at go
    refine .inr ⟨hlt, fun σ3 H3 => i + 1 ≤ n ∧ ∃ ρ' S', Stt X.K G0 ρ' S' σ3 H3 ∧ dGo (fun _ => True) g' tb dD ((intsD lo n).drop (i + 1)) ρ' S', fun σ3 H3 z => ⟨n - (i + 1), by omega, rfl, z.1, z.2⟩, fun x H3 y => ?_⟩
    obtain ⟨e3, e4⟩ := y
    cases e3
    cases e4
    refine hl G0 (.int (lo + (i : Nat))) _ _ _ _ _ _ _ s2 (by simp only [Rep]) go.2 fun ρ3 σ3 p s3 => ?_
    exact ⟨G0, tk, ρ3, S2, _, s3, p, o.loop (Same.refl _) fun ρ4 S4 σ4 H4 z s4 => ⟨hlt, ρ4, S4, s4, z⟩⟩
  · have e' : i = n := by omega
    subst e'
    rw [List.drop_of_length_le (by rw [intsD_len]; exact Nat.le_refl _)] at go
    exact .inl ⟨Nat.le_refl _, o.nx _ _ _ _ go.2 s2⟩
theorem rng1_ok {k : Int → Nat → Sto → Prop} {xs : List D} {S : Sto} (t : rng1 k xs S) : ∃ j : Int, xs = [.int j] ∧ (-(2 ^ 62) ≤ j ∧ j < 2 ^ 62) ∧ k 0 j.toNat S := by
  unfold rng1 at t
  split at t
  · exact ⟨_, rfl, t⟩
  · exact t.elim
theorem rng2_ok {k : Int → Nat → Sto → Prop} {xs : List D} {S : Sto} (t : rng2 k xs S) : ∃ i j : Int, xs = [.int i, .int j] ∧ (-(2 ^ 62) ≤ i ∧ i < 2 ^ 62 ∧ -(2 ^ 62) ≤ j ∧ j < 2 ^ 62) ∧ k i (j - i).toNat S := by
  unfold rng2 at t
  split at t
  · exact ⟨_, _, rfl, t⟩
  · exact t.elim
theorem ds_for1 {a tg : Expr} {ta : TDA} {body : List Stmt} {g : TG} {g' : TDG} {tb : TDS} {p pos2 : Pos} (hp : PassesOwn (model X.prog X.w) X.A X.env X.xe) (hc : X.calm = true) (tk : Takes X (upW X.K G0 W)) (hm : X.mg "range" = none) (ha : DA X G0 [a] ta) (hg : PG X tg g) (hl : LiftG X.K g g')
    (hb : ∀ G1, Takes X (upW X.K G1 W) → DSs X G1 body tb) (hgl : Gl X "range" := by rfl) (hse : starEach [a] X.env = [(false, eval a X.env)] := by rfl)
    (hs : ∀ x, foldedSetIterable (.Call (.Name "range" p) [a] [] pos2) X.env x = pure x := by intro _; rfl) : DS X G0 (.For tg (.Call (.Name "range" p) [a] [] pos2) body [] pos) (dFor1 ta g' tb) := by
  have key : PS X (.For tg (.Call (.Name "range" p) [a] [] pos2) body [] pos) (tFor (iRng1 (upA X.K G0 ta)) g (fun D σ H => ∃ G1, Takes X (upW X.K G1 W) ∧ upS X.K G1 tb D σ H)) :=
    ps_for hp hc (pi_range1 hgl hm ha hse) hg (tb := fun D σ H => ∃ G1, Takes X (upW X.K G1 W) ∧ upS X.K G1 tb D σ H) ⟨fun pins s σ H D I ⟨G1, tk1, h⟩ => (hb G1 tk1).run pins s σ H D I h⟩ hs
  refine PS.imp key fun E σ H ⟨ρ, S, dD, s, t, o⟩ => ⟨ρ, S, _, s, t, fun xs S1 vs H1 t1 n1 r1 => ?_⟩
  obtain ⟨j, rfl, hj, t1⟩ := rng1_ok t1
  obtain ⟨v, rfl, r⟩ := r1.one
  simp only [Rep] at r
  subst r
  exact ⟨j, rfl, hj.1, hj.2, go_rng (body := body) tk hl o (s.next n1) t1⟩
theorem ds_for2 {a b tg : Expr} {ta : TDA} {body : List Stmt} {g : TG} {g' : TDG} {tb : TDS} {p pos2 : Pos} (hp : PassesOwn (model X.prog X.w) X.A X.env X.xe) (hc : X.calm = true) (tk : Takes X (upW X.K G0 W)) (hm : X.mg "range" = none) (ha : DA X G0 [a, b] ta) (hg : PG X tg g) (hl : LiftG X.K g g')
    (hb : ∀ G1, Takes X (upW X.K G1 W) → DSs X G1 body tb) (hgl : Gl X "range" := by rfl) (hse : starEach [a, b] X.env = [(false, eval a X.env), (false, eval b X.env)] := by rfl) (hse2 : starEach [b] X.env = [(false, eval b X.env)] := by rfl)
    (hs : ∀ x, foldedSetIterable (.Call (.Name "range" p) [a, b] [] pos2) X.env x = pure x := by intro _; rfl) : DS X G0 (.For tg (.Call (.Name "range" p) [a, b] [] pos2) body [] pos) (dFor2 ta g' tb) := by
  have key : PS X (.For tg (.Call (.Name "range" p) [a, b] [] pos2) body [] pos) (tFor (iRng2 (upA X.K G0 ta)) g (fun D σ H => ∃ G1, Takes X (upW X.K G1 W) ∧ upS X.K G1 tb D σ H)) :=
    ps_for hp hc (pi_range2 hgl hm ha hse hse2) hg (tb := fun D σ H => ∃ G1, Takes X (upW X.K G1 W) ∧ upS X.K G1 tb D σ H) ⟨fun pins s σ H D I ⟨G1, tk1, h⟩ => (hb G1 tk1).run pins s σ H D I h⟩ hs
  refine PS.imp key fun E σ H ⟨ρ, S, dD, s, t, o⟩ => ⟨ρ, S, _, s, t, fun xs S1 vs H1 t1 n1 r1 => ?_⟩
  obtain ⟨i, j, rfl, hj, t1⟩ := rng2_ok t1
  obtain ⟨v, u, rfl, r, r'⟩ := r1.two
  simp only [Rep] at r r'
  subst r r'
  exact ⟨i, j, rfl, hj, go_rng (body := body) tk hl o (s.next n1) t1⟩
theorem ds_while {c : Expr} {body : List Stmt} {tc : TDT} {tb : TDS} (hp : PassesOwn (model X.prog X.w) X.A X.env X.xe) (hc : DT X G0 c tc) (hb : DSs X G0 body tb) : DS X G0 (.While c body [] pos) (dWhile tc tb) :=
  PS.imp (ps_while hp hc hb) fun E σ H ⟨ρ, S, dD, s, ⟨n, t⟩, o⟩ => by
    refine ⟨fun m σ H => ∃ ρ' S', Stt X.K G0 ρ' S' σ H ∧ dWh tc tb dD m ρ' S', ⟨n, ρ, S, s, t⟩, ?_⟩
    rintro m σ2 H2 ⟨ρ2, S2, s2, t2⟩
    cases m with
    | zero => exact t2.elim
    | succ m =>
      refine ⟨ρ2, S2, _, s2, t2, fun b S3 H3 t3 n3 => ?_⟩
      cases b with
      | true =>
        refine ⟨fun σ4 H4 => ∃ ρ' S', Stt X.K G0 ρ' S' σ4 H4 ∧ dWh tc tb dD m ρ' S', fun σ4 H4 z => ⟨m, Nat.lt_succ_self m, z⟩, ρ2, S3, _, s2.next n3, t3, o.loop (Same.refl _) fun ρ4 S4 σ4 H4 z s4 => ⟨ρ4, S4, s4, z⟩⟩
      | false => exact o.nx _ _ _ _ t3 (s2.next n3)
def dRaise (C : Addr) (W : WD) : TDS := fun _ ρ S => W C ρ S
theorem ds_raise {e : Expr} {C : Addr} (hc : X.calm = true) (tk : Takes X (upW X.K G0 W)) (he : PMk X e (fun _ H Q => Q (.ref C) none H)) : DS X G0 (.Raise (some e) none pos) (dRaise C W) :=
  PS.imp (ps_raise hc tk he) fun E σ H ⟨ρ, S, dD, s, t, o⟩ => ⟨ρ, S, C, rfl, rfl, s, t⟩
end
def SLe (S S' : Sto) : Prop := ∀ a c, S a = some c → S' a = some c
theorem SLe.refl (S : Sto) : SLe S S := fun _ _ h => h
theorem SLe.trans {S S' S'' : Sto} (a : SLe S S') (b : SLe S' S'') : SLe S S'' := fun c o h => b c o (a c o h)
theorem SLe.su {S : Sto} {p : Addr} {c : Cl} (h : S p = none) : SLe S (su S p c) := fun a o e => by
  rw [su_ne (fun z => by rw [z, h] at e; cases e)]; exact e
def dstart (N : List Str) (ds : List D) : Env' := ds.map some ++ List.replicate (N.length - ds.length) none
theorem start_env {K : PySem.W.Frag} {G : Hp} {N : List Str} {ds : List D} {vs : List V} (r : Reps K G ds vs) : REnv K G (dstart N ds) (L2.start N vs) := by
  unfold dstart L2.start
  have hl := r.len
  refine ⟨by simp [hl], fun i d e => ?_⟩
  rw [List.getElem?_append] at e ⊢
  rw [List.length_map] at e ⊢
  by_cases h : i < ds.length
  · rw [if_pos h] at e
    rw [if_pos (by rw [← hl]; exact h)]
    rw [List.getElem?_map] at e ⊢
    cases q : ds[i]? with
    | none => rw [q] at e; cases e
    | some d' =>
      rw [q] at e
      have : d' = d := by simpa using e
      subst this
      obtain ⟨v, hv, rv⟩ := r.get q
      exact ⟨v, by rw [hv]; rfl, rv⟩
  · rw [if_neg h] at e
    rw [List.getElem?_replicate] at e
    split at e <;> cases e
section
variable {P : Program} {w : World} {K : PySem.W.Frag} {mg : Str → Option Value} {base : Heap}
def endsOf (Q : D → Sto → Prop) : DEnds := { nx := fun _ S' => ∃ S'', SLe S'' S' ∧ Q .non S'', rt := fun d S' => ∃ S'', SLe S'' S' ∧ Q d S'' }
def wishOf (E : Addr → Sto → Prop) : WD := fun C _ S' => ∃ S'', SLe S'' S' ∧ E C S''
theorem def_ok {x qual : Str} {st : Stmt} {f : Addr} {fd : FuncData} {N ps : List Str} {k : Nat} {sp : DSp} {t : WD → TDS} (F : Fun K x qual st f fd) (S : FnScope N ps (defScope st)) (len : ∀ ds S Q E, sp ds S Q E → ds.length = ps.length)
    (body : ∀ (cdv : Value) (A : Around) (outer : List Env) (s : Shared) (H : Hp) (E : XK) (G0 : Hp) (W : WD), Room k (A.deeper (PyProof.Rows.envOfC qual (defScope st) s.heap.objs.size f cdv)) →
      Takes (cxOf (L2.CX P w) P w K mg base N qual (defScope st) f cdv A outer s H E) (upW K G0 W) → PassesOwn (model P w) (A.deeper (PyProof.Rows.envOfC qual (defScope st) s.heap.objs.size f cdv)) (cxOf (L2.CX P w) P w K mg base N qual (defScope st) f cdv A outer s H E).env (cxOf (L2.CX P w) P w K mg base N qual (defScope st) f cdv A outer s H E).xe →
      DSs (cxOf (L2.CX P w) P w K mg base N qual (defScope st) f cdv A outer s H E) G0 (defBody st) (t W))
    (read : ∀ ds S Q E, sp ds S Q E → t (wishOf E) (endsOf Q) (dstart N ds) S) : FnOk P w K mg base (L2.CX P w) (k + 1) f fd ps (upSp K sp) := by
  refine F.okX S (fun vs H Q E ⟨ds, S, P, dE, _, r, h, _⟩ => by rw [← r.len]; exact len _ _ _ _ h) fun cdv A outer s H vs Q E hr ⟨ds, S0, P0, dE, n, r, h, oo, ox⟩ => ?_
  have tk : Takes (cxOf (L2.CX P w) P w K mg base N qual (defScope st) f cdv A outer s H E) (upW K (wo H S0) (wishOf dE)) :=
    (takes_of (X := cxOf (L2.CX P w) P w K mg base N qual (defScope st) f cdv A outer s H E) (E := E) rfl rfl rfl rfl).imp fun c d σ H' ⟨ρ, S', C, e1, e2, s', S'', le, w'⟩ => by
      subst e1 e2
      exact ox _ _ _ w' (s'.nx.trans (s'.nx.refl.less le))
  refine ⟨_, body cdv A outer s H E (wo H S0) (wishOf dE) hr tk (passes_of rfl), dstart N ds, S0, endsOf P0, ⟨start_env r, n⟩, read ds S0 P0 dE h, ⟨fun ρ S' σ H' ⟨S'', le, p⟩ s' => ?_, fun d S' v H' ⟨S'', le, p⟩ n' r' => ?_, fun _ _ _ _ z _ => z.elim, fun _ _ _ _ z _ => z.elim⟩⟩
  · exact oo _ _ _ _ p (s'.nx.trans (s'.nx.refl.less le)) (by simp only [Rep])
  · have n2 := n'.refl.less le
    exact oo _ _ _ _ p (n'.trans n2) (r'.mono n2.st)
end
end DL
namespace DL
open PySem L2
abbrev TDI := Env' → Sto → (List D → (Sto → Prop) → Sto → Prop) → Prop
structure Serves (K : PySem.W.Frag) (J : It) (xs : List D) (still : Sto → Prop) (S1 : Sto) (H1 : Hp) : Prop where
  ex : ∃ I : Sto → Hp → Prop, I S1 H1 ∧ (∀ S H S' H', I S H → Nx K (wo H S) S' H' → I S' H') ∧
    (∀ S H i (h : i < xs.length), I S H → Nx K (wo H S) S H → still S → J.go i H ∧ ∀ x H', J.yld i H x H' → H' = H ∧ Rep K (wo H S) xs[i] x) ∧
    (∀ S H, I S H → Nx K (wo H S) S H → still S → J.stop xs.length H)
def LiftI (K : PySem.W.Frag) (G0 : Hp) (wi : TI) (ti : TDI) : Prop := ∀ σ H (R : It → Hp → Prop) ρ S P, Stt K G0 ρ S σ H → ti ρ S P →
  (∀ xs still S1 H1 J, P xs still S1 → Nx K (wo H S) S1 H1 → Serves K J xs still S1 H1 → R J H1) → wi σ H R
def diLk (o : Option (List D)) (d : D) (S1 : Sto) (P : List D → (Sto → Prop) → Sto → Prop) : Prop := match o with
  | some xs => P xs (fun S' => vl S' d = some xs) S1
  | none => False
def diL (te : TDE) : TDI := fun ρ S P => te ρ S fun d S1 => diLk (vl S1 d) d S1 P
def diR1 (ta : TDA) : TDI := fun ρ S P => ta ρ S fun xs S1 => rng1 (fun lo n S1 => P (intsD lo n) (fun _ => True) S1) xs S1
def diR2 (ta : TDA) : TDI := fun ρ S P => ta ρ S fun xs S1 => rng2 (fun lo n S1 => P (intsD lo n) (fun _ => True) S1) xs S1
section
variable {K : PySem.W.Frag} {G0 : Hp}
theorem serves_list {K : PySem.W.Frag} {G H1 : Hp} {S1 : Sto} {d : D} {v : V} {a : Addr} {xs : List D} (r1 : Rep K (wo H1 S1) d v) (ev : v = .ref a) : Serves K (Itl K a) xs (fun S' => vl S' d = some xs) S1 H1 := by
  subst ev
  refine ⟨fun S H => Rep K (wo H S) d (.ref a), r1, fun S H S' H' r n => r.mono n.st, fun S H i h r n st => ?_, fun S H r n st => ?_⟩
  · obtain ⟨a', vs, ev, q, rr⟩ := vl_rep n r st
    cases ev
    refine ⟨⟨vs, vs[i]'(by rw [← rr.len]; exact h), q, by simp⟩, fun x H' y => ?_⟩
    obtain ⟨e, y⟩ := y
    have hx := y vs q
    obtain ⟨w, hw, rw'⟩ := rr.get (i := i) (d := xs[i]) (by simp [h])
    have ew : x = w := by rw [hx] at hw; exact Option.some.inj hw
    subst ew
    exact ⟨e, rw'⟩
  · obtain ⟨a', vs, ev, q, rr⟩ := vl_rep n r st
    cases ev
    exact ⟨vs, q, by rw [← rr.len]; exact Nat.le_refl _⟩
theorem lift_iL {te : TDE} : LiftI K G0 (iList K (upE K G0 te)) (diL te) := fun σ H R ρ S P s t o => ⟨ρ, S, _, s, t, fun d S1 v H1 t1 n1 r1 => by
  cases e : vl S1 d with
  | none => rw [e] at t1; exact t1.elim
  | some xs =>
    rw [e] at t1
    obtain ⟨a, vs, ev, q, r⟩ := vl_rep n1 r1 e
    exact ⟨a, ev, ⟨vs, q⟩, o xs _ S1 H1 _ t1 n1 (serves_list (G := G0) r1 ev)⟩⟩
theorem serves_rng {lo : Int} {n : Nat} {S1 : Sto} {H1 : Hp} : Serves K (Itr lo n) (intsD lo n) (fun _ => True) S1 H1 :=
  ⟨fun _ _ => True, trivial, fun _ _ _ _ _ _ => trivial, fun S H i h _ _ _ => ⟨by rw [intsD_len] at h; exact h, fun x H' y => ⟨y.1, by rw [intsD_get h, y.2]; simp only [Rep]⟩⟩, fun S H _ _ _ => by rw [intsD_len]; exact Nat.le_refl _⟩
theorem lift_iR1 {ta : TDA} : LiftI K G0 (iRng1 (upA K G0 ta)) (diR1 ta) := fun σ H R ρ S P s t o => ⟨ρ, S, _, s, t, fun xs S1 vs H1 t1 n1 r1 => by
  obtain ⟨j, rfl, hj, t1⟩ := rng1_ok t1
  obtain ⟨v, rfl, r⟩ := r1.one
  simp only [Rep] at r
  subst r
  exact ⟨j, rfl, hj.1, hj.2, o _ _ S1 H1 _ t1 n1 serves_rng⟩⟩
theorem lift_iR2 {ta : TDA} : LiftI K G0 (iRng2 (upA K G0 ta)) (diR2 ta) := fun σ H R ρ S P s t o => ⟨ρ, S, _, s, t, fun xs S1 vs H1 t1 n1 r1 => by
  obtain ⟨i, j, rfl, hj, t1⟩ := rng2_ok t1
  obtain ⟨v, u, rfl, r, r'⟩ := r1.two
  simp only [Rep] at r r'
  subst r r'
  exact ⟨i, j, rfl, hj, o _ _ S1 H1 _ t1 n1 serves_rng⟩⟩
end
def wipeD (ρ : Env') : List Nat → Env'
  | [] => ρ
  | v :: vs => (wipeD ρ vs).set v none
theorem wipe_env {K : PySem.W.Frag} {G : Hp} {ρ : Env'} {σ : St} (x : REnv K G ρ σ) : ∀ vs : List Nat, REnv K G (wipeD ρ vs) (wipe σ vs)
  | [] => x
  | v :: vs => (wipe_env x vs).wipe v
theorem wipe_get (σ : St) (j : Nat) : ∀ vs : List Nat, (wipe σ vs)[j]? = if j ∈ vs then σ[j]?.map (fun _ => none) else σ[j]?
  | [] => by rw [if_neg (by simp)]; rfl
  | v :: vs => by
    show ((wipe σ vs).set v none)[j]? = _
    rw [List.getElem?_set, wipe_length]
    have ih := wipe_get σ j vs
    by_cases e : v = j
    · subst e
      rw [if_pos rfl, if_pos List.mem_cons_self]
      by_cases h : v < σ.length
      · rw [if_pos h, List.getElem?_eq_getElem h]; rfl
      · rw [if_neg h, List.getElem?_eq_none (by omega)]; rfl
    · rw [if_neg e, ih]
      have : (j ∈ v :: vs) ↔ j ∈ vs := by simp [Ne.symm e]
      simp only [this]
theorem wipe_wipe (σ : St) (vs : List Nat) : wipe (wipe σ vs) vs = wipe σ vs := by
  apply List.ext_getElem?
  intro j
  rw [wipe_get, wipe_get]
  by_cases e : j ∈ vs
  · rw [if_pos e, if_pos e]; cases σ[j]? <;> rfl
  · rw [if_neg e, if_neg e]
def WipeG (g : TG) (vs : List Nat) : Prop := ∀ (x : V) (σ : St) (H : Hp) (Q : St → Hp → Prop), g x σ H Q → g x σ H fun σ2 H2 => wipe σ2 vs = wipe σ vs ∧ Q σ2 H2
theorem wipe_set {σ : St} {i : Nat} {x : Option V} {vs : List Nat} (h : i ∈ vs) : wipe (σ.set i x) vs = wipe σ vs := by
  apply List.ext_getElem?
  intro j
  rw [wipe_get, wipe_get, List.getElem?_set]
  by_cases e : j ∈ vs
  · rw [if_pos e, if_pos e]
    by_cases q : i = j
    · subst q
      rw [if_pos rfl]
      by_cases l : i < σ.length
      · rw [if_pos l, List.getElem?_eq_getElem l]; rfl
      · rw [if_neg l, List.getElem?_eq_none (by omega)]
    · rw [if_neg q]
  · have q : i ≠ j := fun z => e (z ▸ h)
    rw [if_neg e, if_neg e, if_neg q]
theorem wipeG_name {i : Nat} : WipeG (gName i) [i] := fun x σ H Q h => ⟨wipe_set (by simp), h⟩
theorem wipeG_seq {vs : List Nat} : ∀ (is : List Nat), (∀ i ∈ is, i ∈ vs) → ∀ (xs : List V) (σ : St) (H : Hp) (Q : St → Hp → Prop), (is.foldr (fun i t => gCons (gName i) t) gNil) xs σ H Q →
    (is.foldr (fun i t => gCons (gName i) t) gNil) xs σ H fun σ2 H2 => wipe σ2 vs = wipe σ vs ∧ Q σ2 H2
  | [], _, xs, σ, H, Q, h => ⟨h.1, rfl, h.2⟩
  | i :: is, hs, xs, σ, H, Q, h => by
    obtain ⟨v, r, e, h⟩ := h
    refine ⟨v, r, e, ?_⟩
    have ih := wipeG_seq is (fun j hj => hs j (List.mem_cons_of_mem _ hj)) r (σ.set i (some v)) H Q h
    rw [wipe_set (hs i List.mem_cons_self)] at ih
    exact ih
theorem wipeG_tup {K : PySem.W.Frag} {n : Nat} {is : List Nat} : WipeG (gTup K n (is.foldr (fun i t => gCons (gName i) t) gNil)) is := fun x σ H Q h => by
  obtain ⟨a, xs, e, q, hl, h⟩ := h
  exact ⟨a, xs, e, q, hl, wipeG_seq is (fun _ h => h) xs σ H Q h⟩
def lcAdd (o : Option Cl) (y : D) (k : List D → Prop) : Prop := match o with
  | some (.ml acc) => acc.length < sizeLine ∧ k (acc ++ [y])
  | _ => False
def lcFin (m : Bool) (p : Addr) (P : D → Sto → Prop) (S : Sto) : Prop := match S p with
  | some (.ml xs) => match m with
    | true => P (.ref p) S
    | false => P (.lst xs) (sd S p)
  | _ => False
def lcGo (still : Sto → Prop) (g : TDG) (tt : TDT) (te : TDE) (ρ0 : Env') (p : Addr) (F : Sto → Prop) : List D → Sto → Prop
  | [], S => still S ∧ F S
  | x :: r, S => still S ∧ g x ρ0 S fun ρ2 S2 => tt ρ2 S2 fun b S3 => if b = true then te ρ2 S3 fun y S4 => lcAdd (S4 p) y fun acc => lcGo still g tt te ρ0 p F r (su S4 p (.ml acc)) else lcGo still g tt te ρ0 p F r S3
def dLc (m : Bool) (ti : TDI) (g : TDG) (tt : TDT) (te : TDE) (vs : List Nat) : TDE := fun ρ S P => ti ρ S fun xs still S1 => ∀ p, S1 p = none → lcGo still g tt te (wipeD ρ vs) p (lcFin m p P) xs (su S1 p (.ml []))
def dYes : TDT := fun _ S P => P true S
abbrev W0 : WD := fun _ _ _ => False
theorem takesB {X : Cx} {G1 : Hp} (h : ∀ u s', X.xe u s' → X.xe u s' := fun _ _ x => x) : Takes X (upW X.K G1 W0) := takes0.imp fun c d σ H ⟨_, _, _, _, _, _, w⟩ => w
theorem lcGo_still {still : Sto → Prop} {g : TDG} {tt : TDT} {te : TDE} {ρ0 : Env'} {p : Addr} {F : Sto → Prop} {xs : List D} {S : Sto} (h : lcGo still g tt te ρ0 p F xs S) : still S := by
  cases xs with
  | nil => exact h.1
  | cons _ _ => exact h.1
theorem lc_up {K : PySem.W.Frag} {G0 : Hp} {m : Bool} {wi : TI} {ti : TDI} {g : TG} {g' : TDG} {tt : TDT} {te : TDE} {vs : List Nat} (hi : LiftI K G0 wi ti) (hl : LiftG K g g') (hw : WipeG g vs) (σ : St) (H : Hp) (Q : VK)
    (h : upE K G0 (dLc m ti g' tt te vs) σ H Q) : tLc wi g (fun σ H Q => ∃ G1, upT K G1 tt σ H Q) (fun σ H Q => ∃ G1, upE K G1 te σ H Q) vs σ H Q := by
  obtain ⟨ρ, S, P, s, t, o⟩ := h
  refine hi σ H _ ρ S _ s t fun xs still S1 H1 J t1 n1 sv p hp => ?_
  obtain ⟨I, i0, ik, ig, ie⟩ := sv.ex
  have hS := n1.free hp
  have n2 : Nx K (wo H1 S1) (su S1 p (.ml [])) (upd H1 p (.lst [])) := n1.cell hp fun G' s => ⟨[], upd_same, Reps.nil⟩
  refine ⟨fun i k H => k = xs.length - i ∧ i ≤ xs.length ∧ ∃ S', Nx K (wo H1 S1) S' H ∧ I S' H ∧ lcGo still g' tt te (wipeD ρ vs) p (lcFin m p P) (xs.drop i) S', ⟨_, rfl, Nat.zero_le _, _, n2, ik _ _ _ _ i0 n2, t1 p hS⟩, ?_⟩
  rintro i k H2 ⟨rfl, hi', S2, n3, i2, go⟩
  have st := lcGo_still go
  by_cases hlt : i < xs.length
  · rw [List.drop_eq_getElem_cons hlt] at go
    obtain ⟨g1, g2⟩ := ig S2 H2 i hlt i2 n3.refl st
    refine .inr ⟨g1, fun H3 => i + 1 ≤ xs.length ∧ ∃ S', Nx K (wo H1 S1) S' H3 ∧ I S' H3 ∧ lcGo still g' tt te (wipeD ρ vs) p (lcFin m p P) (xs.drop (i + 1)) S', fun H3 z => ⟨xs.length - (i + 1), by omega, rfl, z.1, z.2⟩, fun x H3 y => ?_⟩
    obtain ⟨e3, rx⟩ := g2 x H3 y
    subst e3
    have env : REnv K (wo H3 S2) (wipeD ρ vs) (wipe σ vs) := (wipe_env (s.env.mono (n1.st.trans n3.st)) vs)
    have z := hw x (wipe σ vs) H3 (fun σ2 H2 => ∃ G1, upT K G1 tt σ2 H2 fun b H3 => if b = true then ∃ G1, upE K G1 te σ2 H3 fun y H4 => ∃ acc, H4 p = some (.lst acc) ∧ acc.length < sizeLine ∧ (i + 1 ≤ xs.length ∧ ∃ S', Nx K (wo H1 S1) S' (upd H4 p (.lst (acc ++ [y]))) ∧ I S' (upd H4 p (.lst (acc ++ [y]))) ∧ lcGo still g' tt te (wipeD ρ vs) p (lcFin m p P) (xs.drop (i + 1)) S') else (i + 1 ≤ xs.length ∧ ∃ S', Nx K (wo H1 S1) S' H3 ∧ I S' H3 ∧ lcGo still g' tt te (wipeD ρ vs) p (lcFin m p P) (xs.drop (i + 1)) S')) ?_
    · rw [wipe_wipe] at z
      exact z
    · refine hl (wo H3 S2) _ _ _ _ _ _ _ _ ⟨env, n3.refl⟩ rx go.2 fun ρ3 σ3 q s3 => ?_
      refine ⟨wo H3 S2, ρ3, S2, _, s3, q, fun b S4 H4 t4 n4 => ?_⟩
      cases b with
      | false => exact ⟨hlt, S4, n3.trans n4, ik _ _ _ _ i2 n4, t4⟩
      | true =>
        refine ⟨wo H3 S2, ρ3, S4, _, s3.next n4, t4, fun y S5 u H5 t5 n5 r5 => ?_⟩
        cases e : S5 p with
        | none => rw [e] at t5; exact t5.elim
        | some c =>
          rw [e] at t5
          cases c with
          | ml acc =>
            obtain ⟨us, q5, r6⟩ := n5.ok p _ e
            have n6 : Nx K (wo H5 S5) (su S5 p (.ml (acc ++ [y]))) (upd H5 p (.lst (us ++ [u]))) := n5.write e ⟨_, upd_same, r6.app (Reps.cons r5 Reps.nil)⟩
            exact ⟨us, q5, by rw [← r6.len]; exact t5.1, hlt, _, ((n3.trans n4).trans n5).trans n6, ik _ _ _ _ (ik _ _ _ _ (ik _ _ _ _ i2 n4) n5) n6, t5.2⟩
          | dI _ => exact t5.elim
          | dS _ => exact t5.elim
          | ins _ _ => exact t5.elim
  · have e' : i = xs.length := by omega
    subst e'
    rw [List.drop_length] at go
    refine .inl ⟨ie S2 H2 i2 n3.refl st, ?_⟩
    have f := go.2
    unfold lcFin at f
    cases e : S2 p with
    | none => rw [e] at f; exact f.elim
    | some c =>
      rw [e] at f
      cases c with
      | ml ys =>
        cases m with
        | true => exact o _ _ _ _ f (n1.trans n3) (by simp only [Rep])
        | false =>
          obtain ⟨n4, r4⟩ := n3.refl.frz e
          exact o _ _ _ _ f ((n1.trans n3).trans n4) r4
      | dI _ => exact f.elim
      | dS _ => exact f.elim
      | ins _ _ => exact f.elim
section
variable {X : Cx} {G0 : Hp}
def DTs (X : Cx) (G0 : Hp) (ifs : List Expr) (t : TDT) : Prop := PTs X ifs (upT X.K G0 t)
theorem dts_nil : DTs X G0 [] dYes := ⟨fun pins s σ H Q I ⟨ρ, S, P, st, t, o⟩ => pts_nil.run pins s σ H Q I (o _ _ _ t st.refl)⟩
theorem dts_one {c : Expr} {t : TDT} (h : DT X G0 c t) : DTs X G0 [c] t := pts_one h
theorem de_lc (m : Bool) {elt tg iter : Expr} {ifs : List Expr} {scope : Scope} {own : List (Str × Nat)} {pos : Pos} {wi : TI} {ti : TDI} {g : TG} {g' : TDG} {tt : TDT} {te : TDE} (hc : X.calm = true) (hN : X.N.Nodup) (hi : PI X tg iter wi) (hli : LiftI X.K G0 wi ti) (hl : LiftG X.K g g') (hw : WipeG g (own.map (·.2)))
    (ok : BlkOk X.N X.env.scope scope own)
    (hg : ∀ (s : Shared) (H : Hp) (C : Addr) (cl : List (Str × Addr)) (fp : List Addr), PG (X.blk s H scope (compEnvC scope cl C X.env) fp) tg g)
    (ht : ∀ (s : Shared) (H : Hp) (C : Addr) (cl : List (Str × Addr)) (fp : List Addr) (G1 : Hp), Takes (X.blk s H scope (compEnvC scope cl C X.env) fp) (upW X.K G1 W0) → DTs (X.blk s H scope (compEnvC scope cl C X.env) fp) G1 ifs tt)
    (he : ∀ (s : Shared) (H : Hp) (C : Addr) (cl : List (Str × Addr)) (fp : List Addr) (G1 : Hp), Takes (X.blk s H scope (compEnvC scope cl C X.env) fp) (upW X.K G1 W0) → DE (X.blk s H scope (compEnvC scope cl C X.env) fp) G1 elt te)
    (hs : ∀ x, foldedSetIterable iter X.env x = pure x := by intro _; rfl) :
    DE X G0 (.ListComp elt [⟨tg, iter, ifs, 0⟩] scope pos) (dLc m ti g' tt te (own.map (·.2))) :=
  PE.imp (pe_lc (tt := fun σ H Q => ∃ G1, upT X.K G1 tt σ H Q) (te := fun σ H Q => ∃ G1, upE X.K G1 te σ H Q) hc hN hi ok hg
    (fun s H C cl fp => ⟨fun pins s1 σ H1 Q I ⟨G1, h⟩ => (ht s H C cl fp G1 (takesB (X := X.blk s H scope (compEnvC scope cl C X.env) fp))).run pins s1 σ H1 Q I h⟩)
    (fun s H C cl fp => ⟨fun pins s1 σ H1 Q I ⟨G1, h⟩ => (he s H C cl fp G1 (takesB (X := X.blk s H scope (compEnvC scope cl C X.env) fp))).run pins s1 σ H1 Q I h⟩) hs) (lc_up hli hl hw)
theorem ds_setLc (i : Nat) (m : Bool) {y : Str} {py : Pos} {elt tg iter : Expr} {ifs : List Expr} {scope : Scope} {own : List (Str × Nat)} {pos spos : Pos} {wi : TI} {ti : TDI} {g : TG} {g' : TDG} {tt : TDT} {te : TDE} (hc : X.calm = true) (hN : X.N.Nodup) (hy : X.N[i]? = some y) (hyl : X.env.scope.names.lookup y = some .local)
    (hsw : swapsWith (.ListComp elt [⟨tg, iter, ifs, 0⟩] scope pos) (some (.Name y py)) spos.line X.env = pure true) (hi : PI X tg iter wi) (hli : LiftI X.K G0 wi ti) (hl : LiftG X.K g g') (hw : WipeG g (own.map (·.2)))
    (ok : BlkOk X.N X.env.scope scope own)
    (hg : ∀ (s : Shared) (H : Hp) (C : Addr) (cl : List (Str × Addr)) (fp : List Addr), PG (X.blk s H scope (compEnvC scope cl C X.env) fp) tg g)
    (ht : ∀ (s : Shared) (H : Hp) (C : Addr) (cl : List (Str × Addr)) (fp : List Addr) (G1 : Hp), Takes (X.blk s H scope (compEnvC scope cl C X.env) fp) (upW X.K G1 W0) → DTs (X.blk s H scope (compEnvC scope cl C X.env) fp) G1 ifs tt)
    (he : ∀ (s : Shared) (H : Hp) (C : Addr) (cl : List (Str × Addr)) (fp : List Addr) (G1 : Hp), Takes (X.blk s H scope (compEnvC scope cl C X.env) fp) (upW X.K G1 W0) → DE (X.blk s H scope (compEnvC scope cl C X.env) fp) G1 elt te)
    (hs : ∀ x, foldedSetIterable iter X.env x = pure x := by intro _; rfl) :
    DS X G0 (.Assign [.Name y py] (.ListComp elt [⟨tg, iter, ifs, 0⟩] scope pos) spos) (dAsg (dLc m ti g' tt te (own.map (·.2))) (dgN i)) :=
  PS.imp (ps_setLc (tt := fun σ H Q => ∃ G1, upT X.K G1 tt σ H Q) (te := fun σ H Q => ∃ G1, upE X.K G1 te σ H Q) hc hN hy hyl hsw hi ok hg
    (fun s H C cl fp => ⟨fun pins s1 σ H1 Q I ⟨G1, h⟩ => (ht s H C cl fp G1 (takesB (X := X.blk s H scope (compEnvC scope cl C X.env) fp))).run pins s1 σ H1 Q I h⟩)
    (fun s H C cl fp => ⟨fun pins s1 σ H1 Q I ⟨G1, h⟩ => (he s H C cl fp G1 (takesB (X := X.blk s H scope (compEnvC scope cl C X.env) fp))).run pins s1 σ H1 Q I h⟩) hs)
    fun E σ H ⟨ρ, S, dD, s, t, o⟩ => lc_up hli hl hw σ H _ ⟨ρ, S, _, s, t, fun d S' v H' a b c => lift_gN _ _ _ _ _ _ _ _ _ (s.next b) c a fun ρ' σ' p s' => o.nx _ _ _ _ p s'⟩
end
end DL
namespace DL
open PySem L2
def tyS (S : Sto) : D → Option String
  | .non => some "NoneType"
  | .bl _ => some "bool"
  | .int _ => some "int"
  | .str _ => some "str"
  | .lst _ => some "list"
  | .scr _ => none
  | .tup _ => some "tuple"
  | .ref p => match S p with
    | some (.ml _) => some "list"
    | _ => none
  | .ty _ => none
def instB (T n : String) : Bool := T == n || (T == "bool" && n == "int")
theorem kit_inst : ∀ T ∈ ["NoneType", "bool", "int", "str", "list", "tuple"], ∀ n ∈ ["bool", "int", "str", "list", "tuple"], kitB T n = some (instB T n) := by decide +kernel
def isiK (o : Option String) (n : String) (S : Sto) (P : D → Sto → Prop) : Prop := match o with
  | some T => P (.bl (instB T n)) S
  | none => False
def dIsi (n : String) (te : TDE) : TDE := fun ρ S P => te ρ S fun x S1 => isiK (tyS S1 x) n S1 P
theorem tyS_mem {S : Sto} {d : D} {T : String} (e : tyS S d = some T) : T ∈ ["NoneType", "bool", "int", "str", "list", "tuple"] := by
  cases d with
  | ref p =>
    simp only [tyS] at e
    split at e
    · cases e; decide
    · cases e
  | scr _ => cases e
  | ty _ => cases e
  | _ => cases e; decide

theorem tyS_ok {K : PySem.W.Frag} {G H : Hp} {S : Sto} {d : D} {v : V} {T : String} (n : Nx K G S H) (r : Rep K (wo H S) d v) (e : tyS S d = some T) : TyOf K H v (.type T) := by
  cases d with
  | non => simp only [Rep] at r; subst r; cases e; exact .non
  | bl b => simp only [Rep] at r; subst r; cases e; exact .bl b
  | int i => simp only [Rep] at r; subst r; cases e; exact .int i
  | str x => simp only [Rep] at r; subst r; cases e; exact .str x
  | lst xs =>
    simp only [Rep] at r
    obtain ⟨a, vs, rfl, q, _⟩ := r
    cases e
    exact .lst (wo_le _ _ _ _ q)
  | tup xs =>
    simp only [Rep] at r
    obtain ⟨a, vs, rfl, q, _⟩ := r
    cases e
    exact .tup (wo_le _ _ _ _ q)
  | ref p =>
    simp only [Rep] at r
    subst r
    simp only [tyS] at e
    split at e
    · rename_i xs h
      cases e
      obtain ⟨vs, q, _⟩ := n.ok p _ h
      exact .lst q
    · cases e
  | scr _ => cases e
  | ty _ => cases e
section
variable {X : Cx} {G0 : Hp} {pos p p2 : Pos} {e : Expr} {te : TDE}
theorem de_isi (n : String) {x2 : Str} (hmem : n ∈ ["bool", "int", "str", "list", "tuple"]) (hm : X.mg "isinstance" = none) (hm2 : X.mg x2 = none) (he : DE X G0 e te) (hv2 : bootBuiltins x2 = some (.type n)) (hg : Gl X "isinstance" := by rfl) (hg2 : Gl X x2 := by rfl)
    (hn2 : x2 ≠ "__name__" := by decide) (hd2 : (x2 == ("__debug__" : Str)) = false := by decide)
    (hs : starEach [e, .Name x2 p2] X.env = (false, eval e X.env) :: starEach [.Name x2 p2] X.env := by rfl) (hs2 : starEach [.Name x2 p2] X.env = (false, eval (.Name x2 p2) X.env) :: starEach [] X.env := by rfl) (hpl : (backTo pos (starEach [.Name x2 p2] X.env)).any (·.1) = false := by rfl) :
    DE X G0 (.Call (.Name "isinstance" p) [e, .Name x2 p2] [] pos) (dIsi n te) :=
  PE.imp (pe_callB call_isi hg hm (by decide +kernel) (pa_cons he (pa_cons (pe_bltn (v := .ty n) (r := rfl) hg2 hm2 hv2 hn2 hd2) pa_nil hs2) hs) (he := hs) (hpl := hpl)) fun σ H Q ⟨ρ, S, P, st, t, o⟩ =>
    ⟨ρ, S, _, st, t, fun d S1 v H1 t1 n1 r1 => by
      cases e : tyS S1 d with
      | none => rw [e] at t1; exact t1.elim
      | some T =>
        rw [e] at t1
        exact ⟨v, .ty n, .type T, .type n, _, rfl, .ty n, .base (tyS_ok n1 r1 e), kit_ty (kit_inst T (tyS_mem e) n hmem), o _ _ _ _ t1 n1 (by simp only [Rep])⟩⟩
end
def isEK (o : Option Bool) (S : Sto) (P : D → Sto → Prop) : Prop := match o with
  | some b => P (.bl b) S
  | none => False
def isED (K : PySem.W.Frag) (C a : Addr) : RCD := fun xs S P => ExcC K C ∧ match xs with
  | [.ref a', .ref D] => a' = a ∧ isEK (PySem.W.kitOne K (.ref C) (.ref D)) S P
  | [.ref a', .ty n] => a' = a ∧ isEK (PySem.W.kitOne K (.ref C) (.type n)) S P
  | _ => False
theorem isEK_ok {o : Option Bool} {S : Sto} {P : D → Sto → Prop} (t : isEK o S P) : ∃ b, o = some b ∧ P (.bl b) S := by
  cases o with
  | none => exact t.elim
  | some b => exact ⟨b, rfl, t⟩
theorem lift_isE {K : PySem.W.Frag} {C a : Addr} : LiftC K (fun xs H Q => ExcC K C ∧ rIsE K C a xs H Q) (isED K C a) := by
  intro xs vs G S H P Q n r t o
  obtain ⟨c, t⟩ := t
  refine ⟨c, ?_⟩
  split at t
  · obtain ⟨v, u, rfl, r1, r2⟩ := r.two
    simp only [Rep] at r1 r2
    subst r1 r2
    obtain ⟨rfl, t⟩ := t
    obtain ⟨b, e, t⟩ := isEK_ok t
    exact ⟨_, _, b, rfl, fun u h => h, e, o.now n t (by simp only [Rep])⟩
  · obtain ⟨v, u, rfl, r1, r2⟩ := r.two
    simp only [Rep] at r1 r2
    subst r1 r2
    obtain ⟨rfl, t⟩ := t
    obtain ⟨b, e, t⟩ := isEK_ok t
    exact ⟨_, _, b, rfl, fun u h => h, e, o.now n t (by simp only [Rep])⟩
  · exact t.elim
section
variable {X : Cx} {G1 : Hp} {pos p : Pos} {e e2 : Expr} {ta : TDA} {a C : Addr} {oe : Obj} {pn : List (Addr × Obj)}
theorem de_isE (hz : Zc (.ref C) none oe) (hf : ∃ vs, oe.data = .fields vs) (hm : X.mg "isinstance" = none) (ha : DA (X.suite a ((a, oe) :: pn)) G1 [e, e2] ta) (hg : Gl X "isinstance" := by rfl)
    (he : starEach [e, e2] X.env = (false, eval e X.env) :: starEach [e2] X.env := by rfl) (hpl : (backTo pos (starEach [e2] X.env)).any (·.1) = false := by rfl) :
    DE (X.suite a ((a, oe) :: pn)) G1 (.Call (.Name "isinstance" p) [e, e2] [] pos) (dCB (isED X.K C a) ta) :=
  de_callB (X := X.suite a ((a, oe) :: pn)) (r := fun xs H Q => ExcC X.K C ∧ rIsE X.K C a xs H Q) (fun pins s σ H xs us Q I r h => call_isE h.1 hz hf pins s σ H xs us Q I r h.2) lift_isE hg hm (by decide +kernel) ha (he := he) (hpl := hpl)
end
def tryW (K : PySem.W.Frag) (c : Value) (ts : Addr → Addr → TDS) (i : Option Nat) (W : WD) (E : DEnds) : WD := fun C ρ' S' => ∃ b, PySem.W.exmOne K (.ref C) c = some b ∧
  (b = true → ∀ a, S' a = none → match i with
    | some i => ts C a { nx := fun ρ S => E.nx (ρ.set i none) S, rt := E.rt, bk := fun ρ S => E.bk (ρ.set i none) S, ct := fun ρ S => E.ct (ρ.set i none) S } (ρ'.set i (some (.ref a))) S'
    | none => ts C a E ρ' S') ∧ (b = false → W C ρ' S')
def dTry (K : PySem.W.Frag) (c : Value) (i : Option Nat) (tb : WD → TDS) (ts : Addr → Addr → TDS) (W : WD) : TDS := fun E ρ S => tb (tryW K c ts i W E) E ρ S
section
variable {X : Cx} {G0 : Hp} {x n : Str} {c : Value} {i : Nat} {body suite : List Stmt} {b₀ : Stmt} {np pos pos' : Pos} {tb : WD → TDS} {ts : Addr → Addr → TDS} {W : WD}
theorem ds_try_as (i : Nat) (hs : X.stack = X.env :: X.outer) (hf : X.env.frame = some X.env.locals) (hN : X.N.Nodup) (hi : X.N[i]? = some n) (hln : X.env.kindOf n = some .local) (hc : Names X x c) (tk : Takes X (upW X.K G0 W))
    (hb : ∀ (W1 : WD) (pn : List (Addr × Obj)) (xe : Value → Shared → Prop), Takes (X.tr pn xe) (upW X.K G0 W1) → PassesOwn (model X.prog X.w) X.A X.env xe → DSs (X.tr pn xe) G0 body (tb W1))
    (hsu : ∀ (a : Addr) (oe : Obj) (C : Addr) (pn : List (Addr × Obj)), Zc (.ref C) none oe → (∃ vs, oe.data = .fields vs) → DSs (X.suite a ((a, oe) :: pn)) G0 (b₀ :: suite) (ts C a)) :
    DS X G0 (.Try body [.ExceptHandler (some (.Name x np)) (some n) (b₀ :: suite) pos'] [] [] pos) (dTry X.K c (some i) tb ts W) :=
  PS.imp (ps_try_as (tb := fun Wx D σ H => ∃ W1 : WD, (∀ cls d σ H, upW X.K G0 W1 cls d σ H → Wx cls d σ H) ∧ upS X.K G0 (tb W1) D σ H) (ts := fun a cls d D σ H => ∃ C, cls = .ref C ∧ d = none ∧ upS X.K G0 (ts C a) D σ H) hs hf hN hi hln hc tk
    (fun Wx pn xe tk1 po => ⟨fun pins s σ H D I ⟨W1, h1, h2⟩ => (hb W1 pn xe (tk1.imp h1) po).run pins s σ H D I h2⟩)
    (fun a oe cls d pn hz hf => ⟨fun pins s σ H D I ⟨C, e1, e2, h2⟩ => by subst e1 e2; exact (hsu a oe C pn hz hf).run pins s σ H D I h2⟩))
    fun E σ H ⟨ρ, S, dD, s, t, o⟩ => ⟨tryW X.K c ts (some i) W dD, fun cls d σ1 H1 ⟨ρ1, S1, C, e1, e2, s1, b, hb1, hy, hn⟩ => ⟨b, by rw [e1]; exact hb1, fun h a ha => ⟨C, e1, e2, ρ1.set i (some (.ref a)), S1, _, ⟨s1.env.set (by simp only [Rep]), s1.nx⟩, hy h a (s1.nx.free ha),
      ⟨fun ρ S σ H z s => o.nx _ _ _ _ z ⟨s.env.wipe i, s.nx⟩, o.rt, fun ρ S σ H z s => o.bk _ _ _ _ z ⟨s.env.wipe i, s.nx⟩, fun ρ S σ H z s => o.ct _ _ _ _ z ⟨s.env.wipe i, s.nx⟩⟩⟩, fun h => ⟨ρ1, S1, C, e1, e2, s1, hn h⟩⟩, ρ, S, dD, s, t, o⟩
theorem ds_try_only (hs : X.stack = X.env :: X.outer) (hf : X.env.frame = some X.env.locals) (hc : Names X x c) (tk : Takes X (upW X.K G0 W))
    (hb : ∀ (W1 : WD) (pn : List (Addr × Obj)) (xe : Value → Shared → Prop), Takes (X.tr pn xe) (upW X.K G0 W1) → PassesOwn (model X.prog X.w) X.A X.env xe → DSs (X.tr pn xe) G0 body (tb W1))
    (hsu : ∀ (a : Addr) (oe : Obj) (C : Addr) (pn : List (Addr × Obj)), Zc (.ref C) none oe → (∃ vs, oe.data = .fields vs) → DSs (X.suite a ((a, oe) :: pn)) G0 (b₀ :: suite) (ts C a)) :
    DS X G0 (.Try body [.ExceptHandler (some (.Name x np)) none (b₀ :: suite) pos'] [] [] pos) (dTry X.K c none tb ts W) :=
  PS.imp (ps_try_only (tb := fun Wx D σ H => ∃ W1 : WD, (∀ cls d σ H, upW X.K G0 W1 cls d σ H → Wx cls d σ H) ∧ upS X.K G0 (tb W1) D σ H) (ts := fun a cls d D σ H => ∃ C, cls = .ref C ∧ d = none ∧ upS X.K G0 (ts C a) D σ H) hs hf hc tk
    (fun Wx pn xe tk1 po => ⟨fun pins s σ H D I ⟨W1, h1, h2⟩ => (hb W1 pn xe (tk1.imp h1) po).run pins s σ H D I h2⟩)
    (fun a oe cls d pn hz hf => ⟨fun pins s σ H D I ⟨C, e1, e2, h2⟩ => by subst e1 e2; exact (hsu a oe C pn hz hf).run pins s σ H D I h2⟩))
    fun E σ H ⟨ρ, S, dD, s, t, o⟩ => ⟨tryW X.K c ts none W dD, fun cls d σ1 H1 ⟨ρ1, S1, C, e1, e2, s1, b, hb1, hy, hn⟩ => ⟨b, by rw [e1]; exact hb1, fun h a ha => ⟨C, e1, e2, ρ1, S1, dD, s1, hy h a (s1.nx.free ha), o⟩, fun h => ⟨ρ1, S1, C, e1, e2, s1, hn h⟩⟩, ρ, S, dD, s, t, o⟩
end
end DL
namespace DL
open PySem L2
structure CA where
  (Guild Post GuildError NoHouse NoWay WayThere NoRoad NoLetter TooMany BadNote : Addr)
structure DefT (K : PySem.W.Frag) (mg : Str → Option Value) (x : Str) (st : Stmt) (ps : List Str) (f : Addr) (fd : FuncData) : Prop where
  F : Fun K x x st f fd
  g : mg x = some (.ref f)
  b : Binds K fd ps []
structure MethT (K : PySem.W.Frag) (C : Addr) (x qual : Str) (st : Stmt) (ps : List Str) (f : Addr) (fd : FuncData) : Prop where
  F : Fun K x qual st f fd
  m : Meth K C x f
  b : Binds K fd ps []
structure ExcT (K : PySem.W.Frag) (mg : Str → Option Value) (x : Str) (C : Addr) : Prop where
  g : mg x = some (.ref C)
  xi : PySem.W.excIn K C [.type "ValueError", .type "Exception", .type "BaseException", .type "object"] "ValueError.__new__" = true
  k : PySem.W.keepIn K (.ref C) = true
  b : PySem.W.subIn K (.ref C) (.type "BaseException") = some true
  t : PySem.W.typeIn K (.ref C) = some (.type "type")
theorem ExcT.mk' {X : Cx} {x m : Str} {C : Addr} {j : Nat} {p p2 pos : Pos} (T : ExcT X.K X.mg x C) (hg : Gl X x) (hdb : (x == ("__debug__" : Str)) = false := by decide) : PMk X (.Call (.Name x p) [.Constant (.str m) j p2] [] pos) (fun _ H Q => Q (.ref C) none H) :=
  pmk_own PySem.F.excBase_ValueError T.xi T.g T.k (raises_own T.b T.t) hg hdb
def spTop (K : PySem.W.Frag) : Sp := fun vs H Q _ => ∃ (a : Addr) (ns : List Int), vs = [.ref a] ∧ SqL K H a (ns.map V.int) ∧ ns.length ≤ 63 ∧ ∀ H', Q (.bl true) H'
theorem top_up {K : PySem.W.Frag} {sp : DSp} (len : ∀ ds S Q E, sp ds S Q E → ds.length = ["script"].length) (h : ∀ ns : List Int, ns.length ≤ 63 → ∀ (P : D → Sto → Prop) (E : Addr → Sto → Prop), P (.bl true) (fun _ => none) → sp [.scr ns] (fun _ => none) P E)
    (vs : List V) (H : Hp) (Q : VK) (E : XK) (t : spTop K vs H Q E) : upSp K sp vs H Q E := by
  obtain ⟨a, ns, rfl, q, hl, k⟩ := t
  have e : wo H (fun _ => none) = H := rfl
  refine ⟨[.scr ns], fun _ => none, fun d _ => d = .bl true, fun _ _ => False, ⟨Same.refl _, fun a c z => by cases z⟩, Reps.cons ?_ Reps.nil, h ns hl _ _ rfl, fun d S' v H' z _ r => ?_, fun _ _ _ z => z.elim⟩
  · simp only [Rep]; exact ⟨a, rfl, q⟩
  · subst z
    simp only [Rep] at r
    subst r
    exact k H'
end DL
namespace DL
open PySem L2
structure Enc {α : Type} [DecidableEq α] (f : α → D) (n : Nat) : Prop where
  pu : ∀ x, pureD (f x) = true
  ly : ∀ x, (toP (f x)).canLay0 = true
  dp : ∀ x, (toP (f x)).depth ≤ n
  eq : ∀ x y, dEq (f x) (f y) = decide (x = y)
  no : ∀ x, PyData.eqv .none (toP (f x)) = false ∧ PyData.eqv (toP (f x)) .none = false
def eO {α : Type} (f : α → D) : Option α → D
  | none => .non
  | some x => f x
def eL {α : Type} (f : α → D) (xs : List α) : D := .lst (xs.map f)
def eT {α : Type} (f : α → D) (xs : List α) : D := .tup (xs.map f)
def eP {α β : Type} (f : α → D) (g : β → D) (p : α × β) : D := .tup [f p.1, g p.2]
def e3 {α β γ : Type} (f : α → D) (g : β → D) (h : γ → D) (p : α × β × γ) : D := .tup [f p.1, g p.2.1, h p.2.2]
abbrev eR : List Int → D := eL .int
section
variable {α β γ : Type} [DecidableEq α] [DecidableEq β] [DecidableEq γ] {f : α → D} {g : β → D} {h : γ → D} {n m k : Nat}
theorem Enc.int : Enc D.int 0 := ⟨fun _ => rfl, fun _ => rfl, fun _ => Nat.le_refl _, fun x y => by simp only [dEq, toP, PyData.eqv]; exact Bool.beq_eq_decide_eq x y, fun _ => ⟨rfl, rfl⟩⟩
theorem Enc.bl : Enc D.bl 0 := ⟨fun _ => rfl, fun _ => rfl, fun _ => Nat.le_refl _, fun x y => by simp only [dEq, toP, PyData.eqv]; exact Bool.beq_eq_decide_eq x y, fun _ => ⟨rfl, rfl⟩⟩
theorem pureDs_map (e : Enc f n) : ∀ xs : List α, pureDs (xs.map f) = true
  | [] => rfl
  | x :: xs => by simp only [List.map_cons, pureDs, e.pu x, pureDs_map e xs, Bool.and_self]
theorem lays_map (e : Enc f n) : ∀ xs : List α, PyData.canLayAll0 (toPs (xs.map f)) = true
  | [] => rfl
  | x :: xs => by simp only [List.map_cons, toPs, PyData.canLayAll0, e.ly x, lays_map e xs, Bool.and_self]
theorem depths_map (e : Enc f n) : ∀ xs : List α, PyData.depthAll (toPs (xs.map f)) ≤ n
  | [] => Nat.zero_le _
  | x :: xs => by
    simp only [List.map_cons, toPs, PyData.depthAll]
    have h1 := e.dp x
    have h2 := depths_map e xs
    omega
theorem eqs_map (e : Enc f n) : ∀ xs ys : List α, PyData.eqvAll (toPs (xs.map f)) (toPs (ys.map f)) = decide (xs = ys)
  | [], [] => rfl
  | [], y :: ys => rfl
  | x :: xs, [] => rfl
  | x :: xs, y :: ys => by
    simp only [List.map_cons, toPs, PyData.eqvAll]
    have h1 := e.eq x y
    unfold dEq at h1
    rw [h1, eqs_map e xs ys]
    by_cases q : x = y
    · subst q; by_cases r : xs = ys
      · subst r; simp
      · simp [r]
    · simp [q]
theorem Enc.lst (e : Enc f n) : Enc (eL f) (n + 1) := ⟨fun x => by simp only [eL, pureD]; exact pureDs_map e x, fun x => by simp only [eL, toP, PyData.canLay0]; exact lays_map e x,
  fun x => by simp only [eL, toP, PyData.depth]; have := depths_map e x; omega, fun x y => by simp only [eL, dEq, toP, PyData.eqv]; exact eqs_map e x y, fun x => ⟨rfl, rfl⟩⟩
theorem Enc.tup (e : Enc f n) : Enc (eT f) (n + 1) := ⟨fun x => by simp only [eT, pureD]; exact pureDs_map e x, fun x => by simp only [eT, toP, PyData.canLay0]; exact lays_map e x,
  fun x => by simp only [eT, toP, PyData.depth]; have := depths_map e x; omega, fun x y => by simp only [eT, dEq, toP, PyData.eqv]; exact eqs_map e x y, fun x => ⟨rfl, rfl⟩⟩
theorem Enc.opt' (e : Enc f n) : (∀ x, pureD (eO f x) = true) ∧ (∀ x, (toP (eO f x)).canLay0 = true) ∧ (∀ x, (toP (eO f x)).depth ≤ n) ∧ ∀ x y, dEq (eO f x) (eO f y) = decide (x = y) := by
  refine ⟨fun x => by cases x with | none => rfl | some x => exact e.pu x, fun x => by cases x with | none => rfl | some x => exact e.ly x, fun x => by cases x with | none => exact Nat.zero_le _ | some x => exact e.dp x, fun x y => ?_⟩
  cases x with
  | none =>
    cases y with
    | none => rfl
    | some y => exact (e.no y).1
  | some x =>
    cases y with
    | none => exact (e.no x).2
    | some y =>
      have := e.eq x y
      simp only [eO, this, Option.some.injEq]
theorem Enc.pair (e : Enc f n) (e' : Enc g m) : Enc (eP f g) (max n m + 1) := ⟨fun x => by simp only [eP, pureD, pureDs, e.pu, e'.pu, Bool.and_self], fun x => by simp only [eP, toP, toPs, PyData.canLay0, PyData.canLayAll0, e.ly, e'.ly, Bool.and_self],
  fun x => by simp only [eP, toP, toPs, PyData.depth, PyData.depthAll]; have h1 := e.dp x.1; have h2 := e'.dp x.2; omega, fun x y => by
    obtain ⟨a, b⟩ := x
    obtain ⟨c, d⟩ := y
    have h1 := e.eq a c
    have h2 := e'.eq b d
    unfold dEq at h1 h2
    simp only [eP, dEq, toP, toPs, PyData.eqv, PyData.eqvAll, h1, h2, Bool.and_true]
    by_cases q : a = c <;> by_cases r : b = d <;> simp [q, r], fun x => ⟨rfl, rfl⟩⟩
structure EncO {α : Type} [DecidableEq α] (f : α → D) (n : Nat) : Prop where
  pu : ∀ x, pureD (f x) = true
  ly : ∀ x, (toP (f x)).canLay0 = true
  dp : ∀ x, (toP (f x)).depth ≤ n
  eq : ∀ x y, dEq (f x) (f y) = decide (x = y)
theorem Enc.o (e : Enc f n) : EncO f n := ⟨e.pu, e.ly, e.dp, e.eq⟩
theorem Enc.opt (e : Enc f n) : EncO (eO f) n := let ⟨a, b, c, d⟩ := e.opt'; ⟨a, b, c, d⟩
theorem EncO.lst (e : EncO f n) : Enc (eL f) (n + 1) := by
  have p : ∀ xs : List α, pureDs (xs.map f) = true := fun xs => by
    induction xs with
    | nil => rfl
    | cons x xs ih => simp only [List.map_cons, pureDs, e.pu x, ih, Bool.and_self]
  have l : ∀ xs : List α, PyData.canLayAll0 (toPs (xs.map f)) = true := fun xs => by
    induction xs with
    | nil => rfl
    | cons x xs ih => simp only [List.map_cons, toPs, PyData.canLayAll0, e.ly x, ih, Bool.and_self]
  have d : ∀ xs : List α, PyData.depthAll (toPs (xs.map f)) ≤ n := fun xs => by
    induction xs with
    | nil => exact Nat.zero_le _
    | cons x xs ih =>
      simp only [List.map_cons, toPs, PyData.depthAll]
      have h1 := e.dp x
      omega
  have q : ∀ xs ys : List α, PyData.eqvAll (toPs (xs.map f)) (toPs (ys.map f)) = decide (xs = ys) := fun xs => by
    induction xs with
    | nil => intro ys; cases ys <;> rfl
    | cons x xs ih =>
      intro ys
      cases ys with
      | nil => rfl
      | cons y ys =>
        simp only [List.map_cons, toPs, PyData.eqvAll]
        have h1 := e.eq x y
        unfold dEq at h1
        rw [h1, ih ys]
        by_cases q : x = y
        · subst q; by_cases r : xs = ys
          · subst r; simp
          · simp [r]
        · simp [q]
  exact ⟨fun x => by simp only [eL, pureD]; exact p x, fun x => by simp only [eL, toP, PyData.canLay0]; exact l x, fun x => by simp only [eL, toP, PyData.depth]; have := d x; omega, fun x y => by simp only [eL, dEq, toP, PyData.eqv]; exact q x y, fun x => ⟨rfl, rfl⟩⟩
theorem EncO.triple (e : EncO f n) (e' : EncO g m) (e'' : EncO h k) : Enc (e3 f g h) (max n (max m k) + 1) := ⟨fun x => by simp only [e3, pureD, pureDs, e.pu, e'.pu, e''.pu, Bool.and_self], fun x => by simp only [e3, toP, toPs, PyData.canLay0, PyData.canLayAll0, e.ly, e'.ly, e''.ly, Bool.and_self],
  fun x => by simp only [e3, toP, toPs, PyData.depth, PyData.depthAll]; have h1 := e.dp x.1; have h2 := e'.dp x.2.1; have h3 := e''.dp x.2.2; omega, fun x y => by
    obtain ⟨a, b, c⟩ := x
    obtain ⟨a', b', c'⟩ := y
    have h1 := e.eq a a'
    have h2 := e'.eq b b'
    have h3 := e''.eq c c'
    unfold dEq at h1 h2 h3
    simp only [e3, dEq, toP, toPs, PyData.eqv, PyData.eqvAll, h1, h2, h3, Bool.and_true]
    by_cases q : a = a' <;> by_cases r : b = b' <;> by_cases t : c = c' <;> simp [q, r, t], fun x => ⟨rfl, rfl⟩⟩
theorem EncO.ok (e : EncO f n) (hn : n ≤ 64) (x : α) : okD (f x) = true := by
  unfold okD SeqAt.shaped
  rw [e.pu x, e.ly x, decide_eq_true (Nat.le_trans (e.dp x) hn)]; rfl
theorem EncO.any (e : EncO f n) (x : α) : ∀ ys : List α, ((ys.map f).any fun z => dEq z (f x)) = decide (x ∈ ys)
  | [] => rfl
  | y :: ys => by
    rw [List.map_cons, List.any_cons, e.eq y x, EncO.any e x ys]
    by_cases q : y = x
    · subst q; simp
    · simp [q, Ne.symm q]
end
theorem encR : Enc eR 1 := Enc.int.lst
theorem encOR : EncO (eO eR) 1 := encR.opt
theorem encTab : Enc (eL (eO eR)) 2 := encOR.lst
abbrev eII : Int × Int → D := eP .int .int
theorem encII : Enc eII 1 := Enc.int.pair Enc.int
theorem dEq_int (i j : Int) : dEq (.int i) (.int j) = decide (i = j) := Enc.int.eq i j
theorem dEq_bl (i j : Bool) : dEq (.bl i) (.bl j) = decide (i = j) := Enc.bl.eq i j
theorem okD_int (i : Int) : okD (.int i) = true := Enc.int.o.ok (by decide) i
theorem okD_bl (i : Bool) : okD (.bl i) = true := Enc.bl.o.ok (by decide) i
theorem okD_non : okD .non = true := by decide
theorem dEq_R (x y : List Int) : dEq (.lst (x.map .int)) (.lst (y.map .int)) = decide (x = y) := encR.eq x y
theorem okD_R (x : List Int) : okD (.lst (x.map .int)) = true := encR.o.ok (by decide) x
theorem atI_map {α : Type} (f : α → D) (xs : List α) (k : Int) : atI (xs.map f) k = (atI xs k).map f := by
  unfold atI
  rw [List.length_map]
  cases ixN xs.length k with
  | none => rfl
  | some j => simp
theorem atI_pos {α : Type} {xs : List α} {k : Int} (h0 : 0 ≤ k) (h1 : k < xs.length) : atI xs k = some (xs[k.toNat]'(by omega)) := by
  unfold atI ixN
  rw [if_pos h0, if_pos h1]
  simp
theorem atI_last {α : Type} {xs : List α} (h : xs ≠ []) : atI xs (-1) = some (xs.getLast h) := by
  have hl : 0 < xs.length := List.length_pos_iff.mpr h
  unfold atI ixN
  rw [if_neg (by decide), if_pos (by omega)]
  have e : ((-1 : Int) + (xs.length : Nat)).toNat = xs.length - 1 := by omega
  rw [e, Option.bind_some, List.getLast_eq_getElem]
  simp [hl]
theorem ixN_pos {n : Nat} {k : Int} (h0 : 0 ≤ k) (h1 : k < n) : ixN n k = some k.toNat := by
  unfold ixN; rw [if_pos h0, if_pos h1]
theorem seqIx_pos {n : Nat} {k : Int} (h0 : 0 ≤ k) (h1 : k < n) : seqIndex? k n = some k.toNat := (ixN_seq (ixN_pos h0 h1)).1
theorem dGo_ind {still : Sto → Prop} {g : TDG} {tb : TDS} {E : DEnds} (I : List D → Env' → Sto → Prop) (hd : ∀ ρ S, I [] ρ S → still S ∧ E.nx ρ S)
    (hs : ∀ x r ρ S (N : Env' → Sto → Prop), I (x :: r) ρ S → (∀ ρ S, I r ρ S → N ρ S) → still S ∧ g x ρ S fun ρ' S' => tb { nx := N, ct := N, bk := E.nx, rt := E.rt } ρ' S') :
    ∀ (xs : List D) (ρ : Env') (S : Sto), I xs ρ S → dGo still g tb E xs ρ S
  | [], ρ, S, h => hd ρ S h
  | x :: r, ρ, S, h => hs x r ρ S _ h fun ρ S h => dGo_ind I hd hs r ρ S h
theorem dGo_map {α : Type} {f : α → D} {still : Sto → Prop} {g : TDG} {tb : TDS} {E : DEnds} (I : List α → Env' → Sto → Prop) (hd : ∀ ρ S, I [] ρ S → still S ∧ E.nx ρ S)
    (hs : ∀ x r ρ S (N : Env' → Sto → Prop), I (x :: r) ρ S → (∀ ρ S, I r ρ S → N ρ S) → still S ∧ g (f x) ρ S fun ρ' S' => tb { nx := N, ct := N, bk := E.nx, rt := E.rt } ρ' S') :
    ∀ (xs : List α) (ρ : Env') (S : Sto), I xs ρ S → dGo still g tb E (xs.map f) ρ S
  | [], ρ, S, h => hd ρ S h
  | x :: r, ρ, S, h => hs x r ρ S _ h fun ρ S h => dGo_map I hd hs r ρ S h
theorem dGo_rng {lo : Int} {n : Nat} {g : TDG} {tb : TDS} {E : DEnds} (I : Nat → Env' → Sto → Prop) (hd : ∀ ρ S, I n ρ S → E.nx ρ S)
    (hs : ∀ k ρ S (N : Env' → Sto → Prop), k < n → I k ρ S → (∀ ρ S, I (k + 1) ρ S → N ρ S) → g (.int (lo + (k : Nat))) ρ S fun ρ' S' => tb { nx := N, ct := N, bk := E.nx, rt := E.rt } ρ' S')
    (ρ : Env') (S : Sto) (h : I 0 ρ S) : dGo (fun _ => True) g tb E (intsD lo n) ρ S := by
  have main : ∀ (j k : Nat) (ρ : Env') (S : Sto), k + j = n → I k ρ S → dGo (fun _ => True) g tb E ((List.range' k j).map fun i => .int (lo + (i : Nat))) ρ S := by
    intro j
    induction j with
    | zero => intro k ρ S e h; have : k = n := by omega
              subst this; exact ⟨trivial, hd ρ S h⟩
    | succ j ih =>
      intro k ρ S e h
      rw [List.range'_succ, List.map_cons]
      exact ⟨trivial, hs k ρ S _ (by omega) h fun ρ S h => ih (k + 1) ρ S (by omega) h⟩
  have := main n 0 ρ S (by omega) h
  unfold intsD
  rw [List.range_eq_range']
  exact this
theorem dWh_ind {c : TDT} {tb : TDS} {E : DEnds} (I : Env' → Sto → Prop) (μ : Env' → Sto → Nat)
    (hs : ∀ ρ S (N : Env' → Sto → Prop), I ρ S → (∀ ρ' S', I ρ' S' → μ ρ' S' < μ ρ S → N ρ' S') → c ρ S fun b S1 => if b = true then tb { nx := N, ct := N, bk := E.nx, rt := E.rt } ρ S1 else E.nx ρ S1) (ρ : Env') (S : Sto) (h : I ρ S) : ∃ n, dWh c tb E n ρ S := by
  have main : ∀ (n : Nat) (ρ : Env') (S : Sto), μ ρ S < n → I ρ S → dWh c tb E n ρ S := by
    intro n
    induction n with
    | zero => intro ρ S h; omega
    | succ n ih => intro ρ S hl h; exact hs ρ S _ h fun ρ' S' h' l => ih ρ' S' (by omega) h'
  exact ⟨_, main (μ ρ S + 1) ρ S (Nat.lt_succ_self _) h⟩
theorem lc_pure {m : Bool} {g : TDG} {tt : TDT} {te : TDE} {ρ0 : Env'} {still : Sto → Prop} {S1 : Sto} {P : D → Sto → Prop} (p : D → Bool) (f : D → D) {xs : List D} (hl : xs.length ≤ sizeLine) (hst : ∀ S', SLe S1 S' → still S')
    (hs : ∀ x ∈ xs, ∀ (S' : Sto) (N : Sto → Prop) (Y : D → Sto → Prop), SLe S1 S' → (p x = false → N S') → (p x = true → Y (f x) S') → g x ρ0 S' fun ρ2 S2 => tt ρ2 S2 fun b S3 => if b = true then te ρ2 S3 Y else N S3)
    (h : newL m ((xs.filter p).map f) S1 P) : ∀ q, S1 q = none → lcGo still g tt te ρ0 q (lcFin m q P) xs (su S1 q (.ml [])) := by
  intro q hq
  have main : ∀ (r : List D) (acc : List D), (∀ x ∈ r, x ∈ xs) → acc.length + r.length ≤ sizeLine → newL m (acc ++ (r.filter p).map f) S1 P → lcGo still g tt te ρ0 q (lcFin m q P) r (su S1 q (.ml acc)) := by
    intro r
    induction r with
    | nil =>
      intro acc _ _ h
      refine ⟨hst _ (SLe.su hq), ?_⟩
      unfold lcFin
      rw [su_same]
      simp only [List.filter_nil, List.map_nil, List.append_nil] at h
      cases m with
      | true => exact h q hq
      | false =>
        show P _ (sd (su S1 q (.ml acc)) q)
        rw [sd_su hq]
        exact h
    | cons x r ih =>
      intro acc hm hl h
      refine ⟨hst _ (SLe.su hq), hs x (hm x List.mem_cons_self) _ _ _ (SLe.su hq) (fun hp => ?_) fun hp => ?_⟩
      · refine ih acc (fun y hy => hm y (List.mem_cons_of_mem _ hy)) (by simp only [List.length_cons] at hl; omega) ?_
        rw [List.filter_cons_of_neg (by simp [hp])] at h
        exact h
      · unfold lcAdd
        rw [su_same]
        refine ⟨by simp only [List.length_cons] at hl; omega, ?_⟩
        show lcGo still g tt te ρ0 q (lcFin m q P) r (su (su S1 q (.ml acc)) q (.ml (acc ++ [f x])))
        rw [su_su]
        refine ih _ (fun y hy => hm y (List.mem_cons_of_mem _ hy)) (by simp only [List.length_append, List.length_cons, List.length_nil] at hl ⊢; omega) ?_
        rw [List.filter_cons_of_pos hp, List.map_cons] at h
        rw [List.append_assoc]
        exact h
  exact main xs [] (fun _ h => h) (by simpa using hl) (by simpa using h)
theorem lc_map {α : Type} {m : Bool} {g : TDG} {tt : TDT} {te : TDE} {ρ0 : Env'} {still : Sto → Prop} {S1 : Sto} {P : D → Sto → Prop} (w : α → D) (p : α → Bool) (f : α → D) {xs : List α} (hl : xs.length ≤ sizeLine) (hst : ∀ S', SLe S1 S' → still S')
    (hs : ∀ x ∈ xs, ∀ (S' : Sto) (N : Sto → Prop) (Y : D → Sto → Prop), SLe S1 S' → (p x = false → N S') → (p x = true → Y (f x) S') → g (w x) ρ0 S' fun ρ2 S2 => tt ρ2 S2 fun b S3 => if b = true then te ρ2 S3 Y else N S3)
    (h : newL m ((xs.filter p).map f) S1 P) : ∀ q, S1 q = none → lcGo still g tt te ρ0 q (lcFin m q P) (xs.map w) (su S1 q (.ml [])) := by
  intro q hq
  have main : ∀ (r : List α) (acc : List D), (∀ x ∈ r, x ∈ xs) → acc.length + r.length ≤ sizeLine → newL m (acc ++ (r.filter p).map f) S1 P → lcGo still g tt te ρ0 q (lcFin m q P) (r.map w) (su S1 q (.ml acc)) := by
    intro r
    induction r with
    | nil =>
      intro acc _ _ h
      refine ⟨hst _ (SLe.su hq), ?_⟩
      unfold lcFin
      rw [su_same]
      simp only [List.filter_nil, List.map_nil, List.append_nil] at h
      cases m with
      | true => exact h q hq
      | false =>
        show P _ (sd (su S1 q (.ml acc)) q)
        rw [sd_su hq]
        exact h
    | cons x r ih =>
      intro acc hm hl h
      refine ⟨hst _ (SLe.su hq), hs x (hm x List.mem_cons_self) _ _ _ (SLe.su hq) (fun hp => ?_) fun hp => ?_⟩
      · refine ih acc (fun y hy => hm y (List.mem_cons_of_mem _ hy)) (by simp only [List.length_cons] at hl; omega) ?_
        rw [List.filter_cons_of_neg (by simp [hp])] at h
        exact h
      · unfold lcAdd
        rw [su_same]
        refine ⟨by simp only [List.length_cons] at hl; omega, ?_⟩
        show lcGo still g tt te ρ0 q (lcFin m q P) (r.map w) (su (su S1 q (.ml acc)) q (.ml (acc ++ [f x])))
        rw [su_su]
        refine ih _ (fun y hy => hm y (List.mem_cons_of_mem _ hy)) (by simp only [List.length_append, List.length_cons, List.length_nil] at hl ⊢; omega) ?_
        rw [List.filter_cons_of_pos hp, List.map_cons] at h
        rw [List.append_assoc]
        exact h
  exact main xs [] (fun _ h => h) (by simpa using hl) (by simpa using h)
theorem lc_all {α : Type} {m : Bool} {g : TDG} {te : TDE} {ρ0 : Env'} {still : Sto → Prop} {S1 : Sto} {P : D → Sto → Prop} (w : α → D) (f : α → D) {xs : List α} (hl : xs.length ≤ sizeLine) (hst : ∀ S', SLe S1 S' → still S')
    (hs : ∀ x ∈ xs, ∀ (S' : Sto) (Y : D → Sto → Prop), SLe S1 S' → Y (f x) S' → g (w x) ρ0 S' fun ρ2 S2 => te ρ2 S2 Y)
    (h : newL m (xs.map f) S1 P) : ∀ q, S1 q = none → lcGo still g dYes te ρ0 q (lcFin m q P) (xs.map w) (su S1 q (.ml [])) :=
  lc_map (m := m) (P := P) w (fun _ => true) f hl hst (fun x hx S' N Y hS _ y => by simp only [dYes, ↓reduceIte]; exact hs x hx S' Y hS (y rfl)) (by rw [List.filter_eq_self.mpr (fun _ _ => rfl)]; exact h)
theorem su_two {S : Sto} {p q : Addr} {a b c : Cl} (h : p ≠ q) : su (su (su S p a) q b) p c = su (su S p c) q b := by rw [su_comm (S := su S p a) (Ne.symm h), su_su]
theorem inst_NoneType_bool : instB "NoneType" "bool" = false := rfl
theorem inst_NoneType_int : instB "NoneType" "int" = false := rfl
theorem inst_NoneType_str : instB "NoneType" "str" = false := rfl
theorem inst_NoneType_list : instB "NoneType" "list" = false := rfl
theorem inst_NoneType_tuple : instB "NoneType" "tuple" = false := rfl
theorem inst_bool_bool : instB "bool" "bool" = true := rfl
theorem inst_bool_int : instB "bool" "int" = true := rfl
theorem inst_bool_str : instB "bool" "str" = false := rfl
theorem inst_bool_list : instB "bool" "list" = false := rfl
theorem inst_bool_tuple : instB "bool" "tuple" = false := rfl
theorem inst_int_bool : instB "int" "bool" = false := rfl
theorem inst_int_int : instB "int" "int" = true := rfl
theorem inst_int_str : instB "int" "str" = false := rfl
theorem inst_int_list : instB "int" "list" = false := rfl
theorem inst_int_tuple : instB "int" "tuple" = false := rfl
theorem inst_str_bool : instB "str" "bool" = false := rfl
theorem inst_str_int : instB "str" "int" = false := rfl
theorem inst_str_str : instB "str" "str" = true := rfl
theorem inst_str_list : instB "str" "list" = false := rfl
theorem inst_str_tuple : instB "str" "tuple" = false := rfl
theorem inst_list_bool : instB "list" "bool" = false := rfl
theorem inst_list_int : instB "list" "int" = false := rfl
theorem inst_list_str : instB "list" "str" = false := rfl
theorem inst_list_list : instB "list" "list" = true := rfl
theorem inst_list_tuple : instB "list" "tuple" = false := rfl
theorem inst_tuple_bool : instB "tuple" "bool" = false := rfl
theorem inst_tuple_int : instB "tuple" "int" = false := rfl
theorem inst_tuple_str : instB "tuple" "str" = false := rfl
theorem inst_tuple_list : instB "tuple" "list" = false := rfl
theorem inst_tuple_tuple : instB "tuple" "tuple" = true := rfl
theorem dSeq_ap {t u : TDS} {E : DEnds} {ρ : Env'} {S : Sto} : dSeq t u E ρ S = t { E with nx := u E } ρ S := rfl
theorem pow_10_6 {S : Sto} {P : D → Sto → Prop} : powD (.int 10) (.int 6) S P = P (.int 1000000) S := by
  refine propext ⟨fun h => h.2, fun h => ⟨⟨by decide, by decide, by decide⟩, h⟩⟩
theorem pow_10_60 {S : Sto} {P : D → Sto → Prop} : powD (.int 10) (.int 60) S P = P (.int (10 ^ 60)) S := by
  refine propext ⟨fun h => h.2, fun h => ⟨⟨by decide, by decide, by decide⟩, h⟩⟩
theorem at_0 {x : D} {l : List D} : atI (x :: l) 0 = some x := by rw [atI_pos (by decide) (by simp)]; rfl
theorem at_1 {x y : D} {l : List D} : atI (x :: y :: l) 1 = some y := by rw [atI_pos (by decide) (by simp; omega)]; rfl
theorem at_2 {x y z : D} {l : List D} : atI (x :: y :: z :: l) 2 = some z := by rw [atI_pos (by decide) (by simp; omega)]; rfl
theorem cast0 : ((0 : Nat) : Int) = 0 := rfl
theorem cast1 : ((1 : Nat) : Int) = 1 := rfl
theorem cast2 : ((2 : Nat) : Int) = 2 := rfl
theorem cast3 : ((3 : Nat) : Int) = 3 := rfl
theorem rt_of {Q : D → Sto → Prop} {d : D} {S : Sto} (q : Q d S) : (endsOf Q).rt d S := ⟨S, SLe.refl S, q⟩
theorem rt_le {Q : D → Sto → Prop} {d : D} {S S' : Sto} (h : SLe S S') (q : Q d S) : (endsOf Q).rt d S' := ⟨S, h, q⟩
theorem nx_of {Q : D → Sto → Prop} {ρ : Env'} {S : Sto} (q : Q .non S) : (endsOf Q).nx ρ S := ⟨S, SLe.refl S, q⟩
theorem nx_le {Q : D → Sto → Prop} {ρ : Env'} {S S' : Sto} (h : SLe S S') (q : Q .non S) : (endsOf Q).nx ρ S' := ⟨S, h, q⟩
theorem wish_of {E : Addr → Sto → Prop} {C : Addr} {ρ : Env'} {S : Sto} (q : E C S) : wishOf E C ρ S := ⟨S, SLe.refl S, q⟩
theorem wish_le {E : Addr → Sto → Prop} {C : Addr} {ρ : Env'} {S S' : Sto} (h : SLe S S') (q : E C S) : wishOf E C ρ S' := ⟨S, h, q⟩
end DL
namespace DL
open PySem L2 PySem.W PySem.SeqAt PyProof.Rows
def rLtDt (K : PySem.W.Frag) : R2 := fun x y H Q => ∃ d e, Dp K H x d ∧ Dp K H y e ∧ alike d e = true ∧ d ≠ .none ∧ d.depth ≤ 64 ∧ Q (.bl (dataLt d e)) H
theorem op_ltDt {X : Cx} (hu : X.A.units + 64 < cLine) : OpR X (compareOp .Lt) (rLtDt X.K) := by
  intro pins s σ H x y v u Q I rx ry ⟨d, e, hd, he, al, hn, hp, q⟩
  obtain ⟨as, r1⟩ := Dp.reads I d x v hd rx
  obtain ⟨bs, r2⟩ := Dp.reads I e y u he ry
  exact lt_data r1 r2 al hn (by omega) ⟨.bl _, H, I, rfl, q⟩
def dLt (a b : D) : Bool := dataLt (toP a) (toP b)
def ltD : R2D := fun x y S P => pureD (rs S x) = true ∧ pureD (rs S y) = true ∧ alike (toP (rs S x)) (toP (rs S y)) = true ∧ toP (rs S x) ≠ .none ∧ (toP (rs S x)).depth ≤ 64 ∧ P (.bl (dLt (rs S x) (rs S y))) S
theorem lift_ltD {K : PySem.W.Frag} : Lift2 K (rLtDt K) ltD := by
  intro x y u v G S H P Q n ru rv t o
  obtain ⟨h1, h2, h3, h4, h5, t⟩ := t
  refine ⟨_, _, rs_dp n ru h1, rs_dp n rv h2, h3, h4, h5, ?_⟩
  refine o.now n t ?_
  simp only [Rep]; rfl
section
variable {X : Cx} {G0 : Hp} {pos : Pos} {a b : Expr} {ta tb : TDE} {k : Nat}
theorem de_ltD (hr : Room k X.A) (ha : DE X G0 a ta) (hb : DE X G0 b tb) : DE X G0 (.Compare a [.Lt] [b] pos) (dOp ltD ta tb) := de_cmp (op_ltDt hr.units) lift_ltD ha hb (nomark _)
theorem dt_ltD (hr : Room k X.A) (ha : DE X G0 a ta) (hb : DE X G0 b tb) : DT X G0 (.Compare a [.Lt] [b] pos) (dB (dOp ltD ta tb)) := dt_cmp (op_ltDt hr.units) lift_ltD ha hb (nomark _)
end
def srtD (ds : List D) : List D := ds.mergeSort (dataLe false toP)
def rSortDt (K : PySem.W.Frag) : List V → Hp → VK → Prop := fun vs H Q => ∃ (a : Addr) (xs : List V) (ds : List D) (R : V → D → Prop), vs = [.ref a] ∧ SqL K H a xs ∧ EachIs R xs ds ∧ (∀ x d, R x d → Dp K H x (toP d)) ∧
  AllAlike (ds.map toP) ∧ Sortable (ds.map toP) ∧ (∀ d ∈ ds, (toP d).depth ≤ 60) ∧ ∀ (ys : List V) (p : Addr), EachIs R ys (srtD ds) → H p = none → Q (.ref p) (upd H p (.lst ys))
theorem each_vals {R : V → D → Prop} : ∀ {xs : List V} {us : List Value} {ds : List D}, Vals xs us → EachIs R xs ds → EachIs (fun v d => ∃ y, RelV y v ∧ R y d) us ds
  | _, _, _, .nil, e => by cases e; exact .nil
  | _, _, _, .cons r t, e => by
    cases e with
    | cons h e => exact .cons ⟨_, r, h⟩ (each_vals t e)
theorem each_back {R : V → D → Prop} : ∀ {us : List Value} {ds : List D}, EachIs (fun v d => ∃ y, RelV y v ∧ R y d) us ds → ∃ ys, Vals ys us ∧ EachIs R ys ds
  | _, _, .nil => ⟨[], .nil, .nil⟩
  | _, _, .cons ⟨y, r, h⟩ e => by
    obtain ⟨ys, v, q⟩ := each_back e
    exact ⟨y :: ys, .cons r v, .cons h q⟩
theorem cr_sortDt {X : Cx} (hu : X.A.units + 64 < cLine) : CallR X (.builtin "sorted") (rSortDt X.K) := by
  intro pins s σ H vs us Q I r ⟨a, xs, ds, R, e, hs, hR, hd, al, so, dp, q⟩
  subst e
  obtain ⟨its, rv, hl, hz⟩ := I.list hs
  rw [Vals.ref1 r]
  have e1 := each_vals rv hR
  have hlen : ds.length ≤ sizeLine := by rw [← e1.length, ← rv.length]; exact hz
  refine sorted_data (enc := toP) hl.isList e1 (e1.mono fun v d ⟨y, r1, r2⟩ => Dp.reads I _ _ _ (hd _ _ r2) r1) al so hlen (fun b hb => by have := dp b hb; omega) fun out ho eo => ?_
  obtain ⟨ys, v, eo⟩ := each_back eo
  obtain ⟨ep, he⟩ := sortedAll_at s.heap its out.toArray
  have hy : ys.length ≤ sizeLine := by rw [v.length, ho]; exact hlen
  exact ⟨.ref _, upd H (s.heap.objs.size + 1) (.lst ys), I.laid (t' := s.toks) (fun _ _ => sortedAll_old) (Nat.le_succ _) ⟨hy, out, ep, v, he⟩, rfl, q _ _ eo (I.hok.fresh (Nat.le_succ _))⟩
def sortedTD (m : Bool) : RCD := fun xs S P => match xs with
  | [x] => match vm S x with
    | some ds => pureDs ds = true ∧ AllAlike (ds.map toP) ∧ Sortable (ds.map toP) ∧ (∀ d ∈ ds, (toP d).depth ≤ 60) ∧ newL m (srtD ds) S P
    | none => False
  | _ => False
theorem reps_each {K : PySem.W.Frag} {G : Hp} : ∀ {ds : List D} {vs : List V}, Reps K G ds vs → pureDs ds = true → EachIs (fun v d => Rep K G d v ∧ pureD d = true) vs ds
  | [], vs, h, _ => by simp only [Reps] at h; subst h; exact .nil
  | d :: ds, vs, h, p => by
    simp only [Reps] at h
    simp only [pureDs, Bool.and_eq_true] at p
    obtain ⟨v, r, rfl, q, s⟩ := h
    exact .cons ⟨q, p.1⟩ (reps_each s p.2)
theorem each_reps {K : PySem.W.Frag} {G : Hp} : ∀ {ds : List D} {vs : List V}, EachIs (fun v d => Rep K G d v ∧ pureD d = true) vs ds → Reps K G ds vs
  | _, _, .nil => Reps.nil
  | _, _, .cons h e => Reps.cons h.1 (each_reps e)
theorem lift_sortDt {K : PySem.W.Frag} {m : Bool} : LiftC K (rSortDt K) (sortedTD m) := by
  intro xs vs G S H P Q n r t o
  match xs, t with
  | [], t => exact t.elim
  | _ :: _ :: _, t => exact t.elim
  | [x], t =>
    obtain ⟨v, ev, rx⟩ := r.one
    subst ev
    simp only [sortedTD] at t
    cases e : vm S x with
    | none => rw [e] at t; exact t.elim
    | some ds =>
      rw [e] at t
      obtain ⟨t1, t2, t3, t4, t⟩ := t
      obtain ⟨a, us, rfl, q, r⟩ := vm_rep n rx e
      refine ⟨a, us, ds, _, rfl, SqL.of q, reps_each r t1, fun x d h => Rep.dp (wo_le H S) d x h.2 h.1, t2, t3, t4, fun ys p he hl => ?_⟩
      exact newL_ok n (each_reps he) hl t o
theorem de_sortedT {X : Cx} {G0 : Hp} {e : Expr} {ta : TDA} {pos : Pos} {k : Nat} {p : Pos} (m : Bool) (hr : Room k X.A) (hm : X.mg "sorted" = none) (ha : DA X G0 [e] ta) (hg : Gl X "sorted" := by rfl) (he : starEach [e] X.env = (false, eval e X.env) :: starEach [] X.env := by rfl) : DE X G0 (.Call (.Name "sorted" p) [e] [] pos) (dCB (sortedTD m) ta) := de_callB (cr_sortDt hr.units) lift_sortDt hg hm (by decide +kernel) ha (he := he)
abbrev TDO := Env' → Sto → (Option Int → Sto → Prop) → Prop
def upO (K : PySem.W.Frag) (G0 : Hp) (t : TDO) : TO := fun σ H Q => ∃ ρ S P, Stt K G0 ρ S σ H ∧ t ρ S P ∧ ∀ o S' H', P o S' → Nx K (wo H S) S' H' → Q o H'
abbrev DO (X : Cx) (G0 : Hp) (e : Option Expr) (t : TDO) : Prop := PO X e (upO X.K G0 t)
theorem PO.imp {X : Cx} {e : Option Expr} {t t' : TO} (h : PO X e t) (f : ∀ σ H Q, t' σ H Q → t σ H Q) : PO X e t' := ⟨fun pins s σ H Q I w => h.run pins s σ H Q I (f _ _ _ w)⟩
def doNone : TDO := fun _ S P => P none S
def doSome (te : TDE) : TDO := fun ρ S P => te ρ S fun d S1 => match d with
  | .int i => P (some i) S1
  | _ => False
def cutD (xs : List D) (lo hi : Option Int) : List D := (xs.drop (HT.sIx xs.length 0 lo)).take (HT.sIx xs.length xs.length hi - HT.sIx xs.length 0 lo)
def slk (m : Bool) (o : Option (List D)) (l h : Option Int) (S : Sto) (P : D → Sto → Prop) : Prop := match o with
  | some xs => newL m (cutD xs l h) S P
  | none => False
def dSlL (m : Bool) (te : TDE) (tl th : TDO) : TDE := fun ρ S P => te ρ S fun x S1 => tl ρ S1 fun l S2 => th ρ S2 fun h S3 => slk m (vl S3 x) l h S3 P
section
variable {X : Cx} {G0 : Hp} {pos p2 : Pos} {e : Expr} {te : TDE} {lo hi : Option Expr} {tl th : TDO}
theorem do_none : DO X G0 none doNone := PO.imp po_none fun σ H Q ⟨ρ, S, P, st, t, o⟩ => o _ _ _ t st.refl
theorem do_some (he : DE X G0 e te) : DO X G0 (some e) (doSome te) := PO.imp (po_some he) fun σ H Q ⟨ρ, S, P, st, t, o⟩ => ⟨ρ, S, _, st, t, fun d S1 v H1 t1 n1 r1 => by
  cases d with
  | int i => simp only [Rep] at r1; exact ⟨i, r1, o _ _ _ t1 n1⟩
  | _ => exact t1.elim⟩
theorem de_slL (m : Bool) (he : DE X G0 e te) (hl : DO X G0 lo tl) (hh : DO X G0 hi th) : DE X G0 (.Subscript e (.Slice lo hi none p2) pos) (dSlL m te tl th) :=
  PE.imp (pe_slice sl_list he hl hh) fun σ H Q ⟨ρ, S, P, st, t, o⟩ => ⟨ρ, S, _, st, t, fun x S1 v H1 t1 n1 r1 => ⟨ρ, S1, _, st.next n1, t1, fun l S2 H2 t2 n2 => ⟨ρ, S2, _, (st.next n1).next n2, t2, fun h S3 H3 t3 n3 => by
    have n4 := n2.trans n3
    have r4 := r1.mono n4.st
    cases e : vl S3 x with
    | none => rw [e] at t3; exact t3.elim
    | some xs =>
      rw [e] at t3
      obtain ⟨a, vs, rfl, q, r⟩ := vl_rep n4 r4 e
      refine ⟨a, vs, rfl, q, fun p hp => ?_⟩
      have hlen := r.len
      unfold cutV
      rw [← hlen]
      exact newL_ok n4 ((r.drop _).take _) hp t3 fun d S' v' H' p' n' r' => o _ _ _ _ p' ((n1.trans n4).trans n') r'⟩⟩⟩
end
end DL
namespace DL
open PySem L2 PySem.SeqAt PyProof.Rows PySem.MeetsSeq PySem.MeetsSeq2
open PySem.AutoSeq1 (wpAny_loadPart')
theorem rem_loopAt (l : Addr) (its : Array Value) (n : Nat) (x : Value) (e : Value → Bool) (j : Nat) (hj : j < its.size) (hit : e its[j] = true) (k : Nat) (hz : its.size ≤ sizeLine) :
    ∀ i : Nat, j - i = k → i ≤ j → (∀ m (hm : m < its.size), i ≤ m → m < j → e its[m] = false) →
      Meets (Builtin.«list.remove.loop» ⟨[.ref l, x, rawInt i], []⟩) (fun A R s => s.heap.get? l = some { cls := .type "list", dict := none, data := .seq its n, slots := #[] } ∧ (∀ y, y ∈ its → EqAt A.in1 s y x (e y)) ∧
        R (.ok (.ret .none)) { s with heap := s.heap.update l (Obj.mapSeq fun xs => xs.eraseIdxIfInBounds j) }) := by
  induction k with
  | zero =>
    intro i hk hij hno prog w A R s ⟨hl, he, h⟩
    obtain ⟨hp, g, d, tk, os⟩ := s
    have hij' : i = j := by omega
    subst hij'
    wp_walk using wpAny_loadPart' hl
    have hi : its[((i : Nat) : Int).toNat]? = some its[i] := by simp [hj]
    rw [hi]
    refine wpAny_bind (he _ (Array.getElem_mem hj) prog w _ _ ?_)
    rw [hit]
    have hz' : (its.eraseIdxIfInBounds i).size ≤ sizeLine + 1 := Nat.le_trans (size_erased its _) (Nat.le_succ_of_le hz)
    wp_walk using (wpAny_updateSeq hl rfl (hz := hz) (_hz' := hz')), wpAny_loadPart' hl
    simpa using h
  | succ k ih =>
    intro i hk hij hno prog w A R s ⟨hl, he, h⟩
    obtain ⟨hp, g, d, tk, os⟩ := s
    have hlt : i < its.size := by omega
    wp_walk using wpAny_loadPart' hl
    have hi : its[((i : Nat) : Int).toNat]? = some its[i] := by simp [hlt]
    have hc : ((i : Int) + 1) = ((i + 1 : Nat) : Int) := by push_cast; rfl
    rw [hi]
    refine wpAny_bind (he _ (Array.getElem_mem hlt) prog w _ _ ?_)
    rw [hno i hlt (Nat.le_refl _) (by omega)]
    wp_walk
    rw [hc]
    refine ⟨plainId_quiet plain_remove_loop _, codeAny_builtin entry_remove_loop ?_⟩
    rw [Around.under_plainId plain_remove_loop _]
    exact ih (i + 1) (by omega) (by omega) (fun m hm h1 h2 => hno m hm (by omega) h2) prog w A R _ ⟨hl, he, h⟩
theorem list_remAt (l : Addr) (its : Array Value) (n : Nat) (x : Value) (e : Value → Bool) (j : Nat) (hj : j < its.size) (hit : e its[j] = true) (hno : ∀ m (hm : m < its.size), m < j → e its[m] = false) (hz : its.size ≤ sizeLine) :
    Meets (Builtin.«list.remove» ⟨[.ref l, x], []⟩) (fun A R s => s.heap.get? l = some { cls := .type "list", dict := none, data := .seq its n, slots := #[] } ∧ (∀ y, y ∈ its → EqAt A.in1 s y x (e y)) ∧
      R (.ok (.ret .none)) { s with heap := s.heap.update l (Obj.mapSeq fun xs => xs.eraseIdxIfInBounds j) }) := by
  intro prog w A R s ⟨hl, he, h⟩
  obtain ⟨hp, g, d, tk, os⟩ := s
  wp_walk using wpAny_loadPart' hl
  refine ⟨plainId_quiet plain_remove_loop _, codeAny_builtin entry_remove_loop ?_⟩
  rw [Around.under_plainId plain_remove_loop _]
  exact rem_loopAt l its n x e j hj hit _ hz 0 rfl (Nat.zero_le _) (fun m hm _ h2 => hno m hm h2) prog w A R _ ⟨hl, he, h⟩
def rRemDt (K : PySem.W.Frag) : V → List V → Hp → VK → Prop := fun x xs H Q => ∃ (l : Addr) (us : List V) (y : V) (d : PyData) (ds : List PyData) (j : Nat) (z : PyData), x = .ref l ∧ xs = [y] ∧ H l = some (.lst us) ∧ DpAll K H us ds ∧ Dp K H y d ∧
  SeqAt.shaped (.list ds) = true ∧ SeqAt.shaped d = true ∧ ds[j]? = some z ∧ PyData.eqv z d = true ∧ (∀ (m : Nat) (z' : PyData), m < j → ds[m]? = some z' → PyData.eqv z' d = false) ∧ Q .non (upd H l (.lst (us.eraseIdx j)))
theorem mt_removeDt {X : Cx} (hu : X.A.units + 65 < cLine) : MtM X "list.remove" (rRemDt X.K) := by
  intro pins s σ H x xs v us Q I rx rxs ⟨l, vs, y, d, ds, j, z, ex, exs, hH, hds, hy, sl, sd, hz, hzj, hno, q⟩
  subst ex exs
  cases rx
  obtain ⟨u, rfl, ry⟩ := rxs.one
  obtain ⟨bs, r1⟩ := Dp.reads I d y u hy ry
  obtain ⟨hzl, its, n, r, hl, e⟩ := I.lstM hH
  obtain ⟨as, h4⟩ := Dp.readsAll I ds _ its hds r
  have hxs : PyData.canLayAll0 ds = true := SeqAt.canLay_of_shaped sl
  have hn : its.length = ds.length := SeqAt.ReadsAll.length ds its as h4
  have hmap : its.map (SeqAt.readOf s.heap) = ds := SeqAt.readsAll_map ds its as hxs h4
  have hjd : j < ds.length := (List.getElem?_eq_some_iff.mp hz).1
  have hj : j < its.toArray.size := by rw [List.size_toArray]; omega
  have at_ : ∀ (m : Nat) (hm : m < its.toArray.size) (z' : PyData), ds[m]? = some z' → SeqAt.readOf s.heap its.toArray[m] = z' := fun m hm z' hz' => by
    have hml : m < its.length := by simpa using hm
    rw [← hmap, List.getElem?_map, List.getElem?_eq_getElem hml] at hz'
    simpa using hz'
  refine call_meets PySem.F.slot_list_remove ⟨_, e, rfl⟩ PySem.F.entry_list_remove (PySem.F.args_list_remove_2 _ _) (list_remAt l its.toArray n u (fun u => PyData.eqv (SeqAt.readOf s.heap u) d) j hj ?_ ?_ ?_)
    ⟨e, SeqAt.items_eqAt (vs := its.toArray) (show ReadsAll s.heap its.toArray.toList ds as from h4) r1 hxs (SeqAt.canLay_of_shaped sd) (room_in_shaped sd hu), ?_⟩
  · show PyData.eqv (SeqAt.readOf s.heap its.toArray[j]) d = true
    rw [at_ j hj z hz]; exact hzj
  · intro m hm hmj
    have hmd : m < ds.length := by rw [List.size_toArray] at hm; omega
    show PyData.eqv (SeqAt.readOf s.heap its.toArray[m]) d = false
    rw [at_ m hm _ (List.getElem?_eq_getElem hmd)]
    exact hno m _ hmj (List.getElem?_eq_getElem hmd)
  · have := r.length
    rw [List.size_toArray]; omega
  · refine ⟨.non, _, I.lset (its' := its.eraseIdx j) (t' := s.toks) hH e ?_ (r.eraseIdx j) ?_, rfl, q⟩
    · show its.toArray.eraseIdxIfInBounds j = (its.eraseIdx j).toArray
      rw [List.eraseIdxIfInBounds_toArray]
    · have := List.length_eraseIdx_le vs j
      omega
theorem toPs_map : ∀ xs : List D, toPs xs = xs.map toP
  | [] => rfl
  | x :: xs => by simp only [toPs, List.map_cons, toPs_map xs]
def removeD : RMD := fun x ys S P => match ys with
  | [y] => onCell S x fun p xs => okD y = true ∧ okD (.lst xs) = true ∧ match xs.findIdx? fun z => dEq z y with
    | some j => P .non (su S p (.ml (xs.eraseIdx j)))
    | none => False
  | _ => False
theorem lift_remove {K : PySem.W.Frag} : LiftM K (rRemDt K) removeD := by
  intro x ys v vs G S H P Q n rx ry t o
  match ys, t with
  | [], t => exact t.elim
  | _ :: _ :: _, t => exact t.elim
  | [y], t =>
    obtain ⟨u, rfl, ru⟩ := ry.one
    obtain ⟨p, xs, rfl, h, h1, h2, t⟩ := onCell_ok t
    simp only [Rep] at rx
    obtain ⟨us, q, r⟩ := n.ok p _ h
    obtain ⟨p1, s1⟩ := okD_and h1
    obtain ⟨p2, s2⟩ := okD_and h2
    simp only [pureD] at p2
    simp only [toP] at s2
    cases e : xs.findIdx? fun z => dEq z y with
    | none => rw [e] at t; exact t.elim
    | some j =>
      rw [e] at t
      obtain ⟨hj, e1, e2⟩ := List.findIdx?_eq_some_iff_getElem.mp e
      have gt : ∀ (m : Nat) (hm : m < xs.length), (toPs xs)[m]? = some (toP xs[m]) := fun m hm => by rw [toPs_map, List.getElem?_map, List.getElem?_eq_getElem hm]; rfl
      refine ⟨p, us, u, toP y, toPs xs, j, toP xs[j], rx, rfl, q, Reps.dp (wo_le H S) xs us p2 r, Rep.dp (wo_le H S) y u p1 ru, s2, s1, gt j hj, e1, fun m z' hm hz => ?_, ?_⟩
      · have hml : m < xs.length := by omega
        rw [gt m hml] at hz
        cases hz
        have := e2 m hm
        exact Bool.eq_false_iff.mpr this
      · exact o _ _ _ _ t (wr_list n h (r.eraseIdx j)) (by simp only [Rep])
def ddN (ns : List Int) : Nat := (firstMet (fun i => ns.getD i 0) ns.length).length
def tLenSetG (K : PySem.W.Frag) (ta : TE) : TE := fun σ H Q => ta σ H fun x H1 => ∃ (l : Addr) (ns : List Int), x = .ref l ∧ SqL K H1 l (ns.map V.int) ∧ ns.length ≤ 4000 ∧ Q (.int (ddN ns : Nat)) H1
theorem pe_lenSetG {X : Cx} {a : Expr} {ta : TE} {p p2 q pos : Pos} (hc : X.calm = true) (hg : Gl X "len") (hm : X.mg "len" = none) (hg2 : Gl X "set") (hm2 : X.mg "set" = none) (ha : PE X a ta)
    (na : starEach [a] X.env = (false, eval a X.env) :: starEach [] X.env := by rfl) : PE X (.Call (.Name "len" p) [.Call (.Name "set" p2) [a] [] q] [] pos) (tLenSetG X.K ta) := by
  refine ⟨fun pins s σ H Q I h => Call_ (ld_blt I hg hm boot_len (PyProof.Rows.callWith_builtin1 (PyProof.Rows.args_cons (Call_ (ld_blt I hg2 hm2 boot_set ?_)) rfl) rfl rfl))⟩
  refine PyProof.Rows.callWith_type1 (PyProof.Rows.args_cons (thn (ha.run pins s σ H _ I h) fun v s1 ⟨x, H1, I1, r1, l, ns, ex, hq, hl, q1⟩ => PyProof.Rows.args_nil ?_) na) na rfl
  subst ex
  cases r1
  obtain ⟨its, r, pl, hz⟩ := I1.list hq
  have hlen : its.toArray.size = ns.length := by rw [List.size_toArray, ← r.length, List.length_map]
  refine call_set_list (I1.ok.hd hc) pl.isList (by simpa using r.ints) (by rw [hlen]; unfold scanBound; omega) fun h' tk hS hk => PyProof.Rows.args_nil ?_
  rw [hlen] at hS
  obtain ⟨o, es, ep, t, ho, hex, hd, _, _, _, hf, hn⟩ := hS
  have I2 : Inv X pins σ H1 { s1 with heap := h', toks := tk } := I1.kept fun b o e => hk b o (Heap.lt_size e) e
  have hle := firstMet_length_le (fun i => ns.getD i 0) ns.length
  exact call_len_set ho hex hd hf (by rw [hn]; omega) ⟨.int (ddN ns : Nat), H1, I2.tok _, ⟨_, by rw [hn]; rfl⟩, q1⟩
def lsk (o : Option (List Int)) (S : Sto) (P : D → Sto → Prop) : Prop := match o with
  | some ns => ns.length ≤ 4000 ∧ P (.int (ddN ns)) S
  | none => False
def dLenSet (te : TDE) : TDE := fun ρ S P => te ρ S fun x S1 => lsk ((vl S1 x).bind kInts) S1 P
theorem de_lenSet {X : Cx} {G0 : Hp} {e : Expr} {te : TDE} {p p2 q pos : Pos} (hc : X.calm = true) (hm : X.mg "len" = none) (hm2 : X.mg "set" = none) (he : DE X G0 e te) (hg : Gl X "len" := by rfl) (hg2 : Gl X "set" := by rfl)
    (na : starEach [e] X.env = (false, eval e X.env) :: starEach [] X.env := by rfl) : DE X G0 (.Call (.Name "len" p) [.Call (.Name "set" p2) [e] [] q] [] pos) (dLenSet te) :=
  PE.imp (pe_lenSetG hc hg hm hg2 hm2 he na) fun σ H Q ⟨ρ, S, P, st, t, o⟩ => ⟨ρ, S, _, st, t, fun x S1 v H1 t1 n1 r1 => by
    cases e : vl S1 x with
    | none => rw [e] at t1; exact t1.elim
    | some ds =>
      rw [e, Option.bind_some] at t1
      cases e2 : kInts ds with
      | none => rw [e2] at t1; exact t1.elim
      | some ns =>
        rw [e2] at t1
        have := kInts_eq e2
        subst this
        obtain ⟨a, vs, rfl, q, r⟩ := vl_rep n1 r1 e
        have := r.ints
        subst this
        exact ⟨a, ns, rfl, q, t1.1, o _ _ _ _ t1.2 n1 (by simp only [Rep])⟩⟩
theorem ddN_nodup {ns : List Int} (h : ns.Nodup) : ddN ns = ns.length := by
  unfold ddN
  rw [firstMet_nodup ns h _ (Nat.le_refl _), List.take_length]
theorem dd_fold : ∀ (l acc : List Int), (l.foldl step_dedup acc).length ≤ acc.length + l.length ∧ ((l.foldl step_dedup acc).length = acc.length + l.length → l.Nodup ∧ ∀ x ∈ l, x ∉ acc)
  | [], acc => ⟨Nat.le_refl _, fun _ => ⟨List.nodup_nil, fun x h => by cases h⟩⟩
  | x :: l, acc => by
    rw [List.foldl_cons]
    by_cases c : acc.any (· == x) = true
    · have e : step_dedup acc x = acc := if_pos c
      have h := dd_fold l acc
      rw [e, List.length_cons]
      exact ⟨by omega, fun z => by omega⟩
    · have e : step_dedup acc x = acc ++ [x] := if_neg c
      have h := dd_fold l (acc ++ [x])
      rw [List.length_append, List.length_singleton] at h
      rw [e, List.length_cons]
      refine ⟨by omega, fun z => ?_⟩
      obtain ⟨h1, h2⟩ := h.2 (by omega)
      have hx : x ∉ acc := fun m => c (List.any_eq_true.mpr ⟨x, m, beq_self_eq_true x⟩)
      refine ⟨List.nodup_cons.mpr ⟨fun m => h2 x m (by simp), h1⟩, fun y m => ?_⟩
      rcases List.mem_cons.mp m with rfl | m
      · exact hx
      · exact fun z => h2 y m (List.mem_append_left _ z)
theorem ddN_iff (ns : List Int) : ddN ns = ns.length ↔ ns.Nodup := by
  refine ⟨fun h => ?_, ddN_nodup⟩
  have e : (List.range ns.length).map (fun i => ns.getD i 0) = ns := by
    refine List.ext_getElem (by simp) fun i h1 h2 => ?_
    rw [List.getElem_map, List.getElem_range, List.getD_eq_getElem?_getD, List.getElem?_eq_getElem h2]; rfl
  unfold ddN firstMet at h
  rw [e] at h
  exact ((dd_fold ns []).2 (by simpa using h)).1
theorem mt_removeD {X : Cx} {k : Nat} (hr : Room k X.A) : MtM X "list.remove" (rRemDt X.K) := mt_removeDt (by have := hr.un; omega)
end DL
namespace DL
open PySem PySem.Spec PySem.W PySem.Calls PyProof.Rows PyProof.V L2 RT
section
variable {prog : Program} {w : World} {A : Around} {E : Value → Shared → Prop} {s : Shared}
theorem extend_rev {R : Result → Shared → Prop} {it l : Addr} {items : Array Value} (hh : A.handled = none) (hit : s.heap.IsRevIter it l ((items.size : Int) - 1)) (hl : s.heap.IsList l items) (hne : l ≠ it) (hn : items.size ≤ sizeLine) (S : Addr) (res : Value) (c₀ : Nat)
    (hS : s.heap.get? S = some { cls := .type "list", data := .seq #[] c₀ }) (hSi : S ≠ it) (hSl : S ≠ l)
    (hR : ∀ h' tk acc' c', (∀ b o, b ≠ S → b ≠ it → s.heap.get? b = some o → h'.get? b = some o) → h'.get? S = some { cls := .type "list", dict := none, data := .seq acc' c', slots := #[] } →
      ItemsOf (fun i v => items[items.size - 1 - i]? = some v) acc' items.size → R (.ok (.ret res)) { s with heap := h', toks := tk }) :
    wpAny (model prog w) A.in1 (Builtin.List.listExtendWith (.ref S) (.ref it) res)
      (fun fin s' => match fin with | .done f => R (.ok f) s' | .again c' => c'.quiet = true ∧ codeAny (model prog w) A c' R s') (fun e s' => R (.error e) s') s := by
  have W := (Walks.listRev (prog := prog) (w := w) (A := A.in1) hh it l hne items).toS
  have hSf : S ∉ [it, l] := by simp only [List.mem_cons, List.not_mem_nil, or_false, not_or]; exact ⟨hSi, hSl⟩
  have hT : s.TypeIs (.ref it) "list_reverseiterator" := hit.typeIs
  have h1 : Builtin.List.listSameRef (.ref S) (.ref it) = false := by simp [Builtin.List.listSameRef, hSi]
  unfold Builtin.List.listExtendWith
  refine wpAny_bind (wpAny_typeOf hT ?_)
  rw [if_neg (by rw [h1]; decide)]
  refine wpAny_bind (wpAny_pyIter_revIter hit ?_)
  refine wpAny_bind (wpAny_holding ?_)
  unfold Builtin.List.listLengthHint
  refine wpAny_bind (wpAny_specialOf hT nolen_lri ?_)
  show wpAny _ A.in1 (specialOf (Value.ref it) (Str.ofString "__length_hint__") >>= _) _ _ _
  refine wpAny_bind (wpAny_specialOf hT hint_lri ?_)
  generalize hid : ("list_reverseiterator.__length_hint__" : String) = id0
  wp_delta
  rw [show splitId id0 = some ("list_reverseiterator", "__length_hint__") from by subst hid; decide +kernel]
  subst hid
  refine wpAny_bind (wpAny_isInstance (b := true) hT (by rw [isSubtype_type]; kernel_rfl) ?_)
  refine wpAny_pure ?_
  rw [if_neg (by decide)]
  have e0 : ((items.size : Nat) : Int) - 1 - ((0 : Nat) : Int) = (items.size : Int) - 1 := by omega
  refine wpAny_pure ⟨plainId_quiet F.plain_extend_loop _, codeAny_extend_loopS W hn _ hSf _ items.size 0 _ _ _ rfl (Nat.zero_le _) ⟨Nat.zero_le _, by rw [e0]; exact hit, hl⟩ hS (ItemsOf.nil _) fun s' acc' c' hm hS' hacc => ?_⟩
  rw [Moved.eq_with hm]
  refine hR s'.heap s'.toks acc' c' (fun b o hb hb2 e => hm.heap b o (fun hmem => ?_) e) hS' hacc
  rcases List.mem_cons.mp hmem with e' | hmem
  · exact hb e'
  · exact hb2 (List.mem_singleton.mp hmem)
theorem list_init_rev {R : Result → Shared → Prop} {it l : Addr} {items : Array Value} (hh : A.handled = none) (hit : s.heap.IsRevIter it l ((items.size : Int) - 1)) (hl : s.heap.IsList l items) (hne : l ≠ it) (hn : items.size ≤ sizeLine) (S : Addr)
    (hS : s.heap.get? S = some { cls := .type "list", data := .seq #[] }) (hSi : S ≠ it) (hSl : S ≠ l)
    (hR : ∀ h' tk acc' c', (∀ b o, b ≠ S → b ≠ it → s.heap.get? b = some o → h'.get? b = some o) → h'.get? S = some { cls := .type "list", dict := none, data := .seq acc' c', slots := #[] } →
      ItemsOf (fun i v => items[items.size - 1 - i]? = some v) acc' items.size → R (.ok (.ret .none)) { s with heap := h', toks := tk }) :
    wpAny (model prog w) A.in1 (Builtin.«list.__init__» ⟨[.ref S, .ref it], []⟩)
      (fun fin s' => match fin with | .done f => R (.ok f) s' | .again c' => c'.quiet = true ∧ codeAny (model prog w) A c' R s') (fun e s' => R (.error e) s') s := by
  show wpAny _ A.in1 (do let old ← Builtin.List.listItems (.ref S); Builtin.List.listUpdate (.ref S) (fun _ => #[]); letGo old.toList.reverse; Builtin.List.listExtendWith (.ref S) (.ref it) .none) _ _ s
  refine wpAny_bind ?_
  unfold Builtin.List.listItems
  refine wpAny_bind (wpAny_seqItems hS rfl (wpAny_pure ?_))
  show wpAny _ A.in1 (updateSeq S (fun _ => #[]) >>= fun _ => letGo (#[] : Array Value).toList.reverse >>= fun _ => Builtin.List.listExtendWith (.ref S) (.ref it) .none) _ _ s
  refine wpAny_bind (wpAny_updateSeq hS rfl ?_)
  have hS₂ := Heap.get?_update_self (Obj.mapSeq (fun _ => (#[] : Array Value))) hS rfl
  have oth : ∀ b o, b ≠ S → s.heap.get? b = some o → (s.heap.update S (Obj.mapSeq (fun _ => (#[] : Array Value)))).get? b = some o :=
    fun b o hb e => (Heap.get?_update_other _ _ (Ne.symm hb)).trans e
  refine wpAny_bind (wpAny_letGo ?_)
  have hl2 : (s.heap.update S (Obj.mapSeq (fun _ => (#[] : Array Value)))).IsList l items := by
    obtain ⟨o, ho, r⟩ := id hl
    exact ⟨o, oth l o (Ne.symm hSl) ho, r⟩
  refine extend_rev (s := { s with heap := s.heap.update S (Obj.mapSeq (fun _ => (#[] : Array Value))) }) hh (hit.at fun o e => oth it o (Ne.symm hSi) e) hl2 hne hn S .none _ hS₂ hSi hSl fun h' tk acc' c' hk hS' hacc => ?_
  exact hR h' tk acc' c' (fun b o hb hb2 e => hk b o hb hb2 (oth b o hb e)) hS' hacc
theorem call_list_rev {Q : Value → Shared → Prop} {it l : Addr} {items : Array Value} (hh : A.handled = none) (hit : s.heap.IsRevIter it l ((items.size : Int) - 1)) (hl : s.heap.IsList l items) (hne : l ≠ it) (hn : items.size ≤ sizeLine)
    (hQ : ∀ h' tk acc' c', (∀ b o, b ≠ it → s.heap.get? b = some o → h'.get? b = some o) →
      h'.get? s.heap.objs.size = some { cls := .type "list", dict := none, data := .seq acc' c', slots := #[] } → ItemsOf (fun i v => items[items.size - 1 - i]? = some v) acc' items.size → Q (.ref s.heap.objs.size) { s with heap := h', toks := tk }) :
    wpAny (model prog w) A (call (.type "list") [.ref it]) Q E s := by
  refine callType_codes (Q₁ := fun obj s₁ => obj = .ref s.heap.objs.size ∧ s₁ = { s with heap := s.heap.push { cls := .type "list", data := .seq #[] } }) F.called_list (F.typeCall_list_1 _) F.entry_list_init
    (code_list_new _ ⟨rfl, rfl⟩) fun obj s₁ h₁ => ?_
  obtain ⟨rfl, rfl⟩ := h₁
  have hS : (s.heap.push { cls := .type "list", data := .seq #[] }).get? s.heap.objs.size = some { cls := .type "list", data := .seq #[] } := Heap.get?_push_size _ rfl
  obtain ⟨oi, hoi, _⟩ := id hit
  obtain ⟨ol, hol, _⟩ := id hl
  refine ⟨⟨_, hS, rfl⟩, F.args_list_init_2 _ _, list_init_rev (A := A.in1) (s := { s with heap := s.heap.push { cls := .type "list", data := .seq #[] } }) hh (hit.at fun o e => Heap.get?_push_of_some _ e) (hl.push _) hne hn _ hS (Nat.ne_of_gt (Heap.lt_size hoi)) (Nat.ne_of_gt (Heap.lt_size hol)) fun h' tk acc' c' hk hS' hacc => ?_⟩
  exact ⟨rfl, hQ h' tk acc' c' (fun b o hb e => hk b o (Nat.ne_of_lt (Heap.lt_size e)) hb (Heap.get?_push_of_some _ e)) hS' hacc⟩
end
def tListRev (K : PySem.W.Frag) (te : TE) : TE := fun σ H Q => te σ H fun v H1 => ∃ (a : Addr) (xs : List V), v = .ref a ∧ SqL K H1 a xs ∧ ∀ q, H1 q = none → Q (.ref q) (upd H1 q (.lst xs.reverse))
theorem pe_listRev {X : Cx} {e : Expr} {te : TE} {p p2 pos pos2 : Pos} (hc : X.calm = true) (hg : Gl X "list") (hm : X.mg "list" = none) (hg2 : Gl X "reversed") (hm2 : X.mg "reversed" = none) (he : PE X e te)
    (hs : starEach [e] X.env = (false, eval e X.env) :: starEach [] X.env := by rfl)
    (hs2 : starEach [.Call (.Name "reversed" p2) [e] [] pos2] X.env = (false, eval (.Call (.Name "reversed" p2) [e] [] pos2) X.env) :: starEach [] X.env := by rfl) :
    PE X (.Call (.Name "list" p) [.Call (.Name "reversed" p2) [e] [] pos2] [] pos) (tListRev X.K te) := by
  refine ⟨fun pins s σ H Q I h => ?_⟩
  refine Call_ (ld_blt I hg hm boot_list (PyProof.Rows.callWith_type1 (args_cons (Call_ (ld_blt I hg2 hm2 PyProof.Rows.boot_reversed (PyProof.Rows.callWith_type1 (args_cons (thn (he.run pins s σ H _ I h) fun u s1 ⟨v, H1, I1, r1, q1⟩ => args_nil ?_) hs) hs rfl))) hs2) hs2 rfl))
  obtain ⟨a, xs, ev, hq, q⟩ := q1
  subst ev
  obtain rfl : u = Value.ref a := r1
  obtain ⟨its, rv, p', hz⟩ := I1.list hq
  refine call_reversed_list p'.isList (args_nil ?_)
  have hl := p'.isList
  obtain ⟨ol, hol, _⟩ := id hl
  have hne : a ≠ s1.heap.objs.size := Nat.ne_of_lt (Heap.lt_size hol)
  have hn : its.toArray.size ≤ sizeLine := by rw [List.size_toArray, ← rv.length]; exact hz
  refine call_list_rev (s := { s1 with heap := s1.heap.push (revObj a ((its.toArray.size : Int) - 1)) }) (I1.ok.hd hc) ⟨_, Heap.get?_push_size _ rfl, rfl, rfl⟩ (hl.push _) hne hn fun h' tk acc c' hk e' hi => ?_
  have hS : s1.heap.objs.size ≤ (s1.heap.push (revObj a ((its.toArray.size : Int) - 1))).objs.size := by
    show _ ≤ (s1.heap.objs.push _).size
    simp
  refine ⟨.ref (s1.heap.push (revObj a ((its.toArray.size : Int) - 1))).objs.size, upd H1 (s1.heap.push (revObj a ((its.toArray.size : Int) - 1))).objs.size (.lst xs.reverse), I1.laid (t' := tk) (fun b o e => hk b o (Nat.ne_of_lt (Heap.lt_size e)) (Heap.get?_push_of_some _ e)) hS (show ObjOk X.prog X.w _ _ _ (.lst xs.reverse) from ⟨by rw [List.length_reverse]; exact hz, acc.toList, c', vals_rev rv hi, ?_⟩), rfl, q _ (I1.hok.fresh hS)⟩
  rw [Array.toArray_toList]
  exact e'
def lrk (m : Bool) (o : Option (List D)) (S : Sto) (P : D → Sto → Prop) : Prop := match o with
  | some xs => newL m xs.reverse S P
  | none => False
def dListRev (m : Bool) (te : TDE) : TDE := fun ρ S P => te ρ S fun x S1 => lrk m (vl S1 x) S1 P
theorem de_listRev (m : Bool) {X : Cx} {G0 : Hp} {e : Expr} {te : TDE} {p p2 pos pos2 : Pos} (hc : X.calm = true) (hm : X.mg "list" = none) (hm2 : X.mg "reversed" = none) (he : DE X G0 e te) (hg : Gl X "list" := by rfl) (hg2 : Gl X "reversed" := by rfl)
    (hs : starEach [e] X.env = (false, eval e X.env) :: starEach [] X.env := by rfl)
    (hs2 : starEach [.Call (.Name "reversed" p2) [e] [] pos2] X.env = (false, eval (.Call (.Name "reversed" p2) [e] [] pos2) X.env) :: starEach [] X.env := by rfl) : DE X G0 (.Call (.Name "list" p) [.Call (.Name "reversed" p2) [e] [] pos2] [] pos) (dListRev m te) :=
  PE.imp (pe_listRev hc hg hm hg2 hm2 he hs hs2) fun σ H Q ⟨ρ, S, P, st, t, o⟩ => ⟨ρ, S, _, st, t, fun x S1 v H1 t1 n1 r1 => by
    cases e : vl S1 x with
    | none => rw [e] at t1; exact t1.elim
    | some ds =>
      rw [e] at t1
      obtain ⟨a, vs, rfl, q, r⟩ := vl_rep n1 r1 e
      exact ⟨a, vs, rfl, q, fun p hp => newL_ok n1 r.rev hp t1 fun d S' v' H' p' n' r' => o _ _ _ _ p' (n1.trans n') r'⟩⟩
def rPopT1 : V → List V → Hp → VK → Prop := fun x xs H Q => ∃ (a : Addr) (kvs : List (List L2.Key × V)) (k : List L2.Key) (b : Addr) (v : V), x = .ref a ∧ xs = [.ref b] ∧ H a = some (.dT kvs) ∧ H b = some (.tup (k.map kV)) ∧ valV kvs k = some v ∧ Q v (upd H a (.dT (dropK kvs k)))
theorem mt_popT1 {X : Cx} (hu : X.A.units + 1 < cLine) : MtR X "dict.pop" rPopT1 := by
  intro pins s σ H x xs v us Q I rx rxs h
  obtain ⟨a, kvs, k, b, v0, rfl, rfl, ha, hb, ev, q⟩ := h
  cases rx
  obtain ⟨u, rfl, r1⟩ := rxs.one
  cases r1
  obtain ⟨z, hd, xs', rel, dd⟩ := dt_of I.hok ha
  have hz : xs'.length ≤ sizeLine := by rw [← Paired.length rel]; exact z
  refine call_meetsIn PySem.F.slot_dict_pop dd.typeIs PySem.F.entry_dict_pop (PySem.F.args_dict_pop_2 _ _) (meetsH_dict_pop (tupleKind (mixKind X.prog X.w)) a b hd [] (.inl rfl))
    ⟨tupleKind_room_in1 hu, k, xs', key_of I.hok hb, dd, hz, fun p hp h' dd' hs => ?_, fun hn tk => ?_⟩
  · have r := rel.val k
    rw [hp, ev] at r
    obtain ⟨o, es, ep, hq, h2, h3, h4, _, h5⟩ := dd'
    have I2 : Inv X pins σ (upd H a (.dT (dropK kvs k))) { s with heap := h', toks := s.toks + (tupleKind (mixKind X.prog X.w)).draws k } :=
      d_write I (by rw [ha]; exact True.intro) hs ⟨o, hq⟩ ⟨Nat.le_trans (dropK_le kvs k) z, hd, _, (DX.KT_drop k rel).keeps (fun c ys ec => (by rw [upd_ne (ne_of ec ha (fun z => nomatch z))]; exact ec)), o, es, ep, hq, h2, h3, h4, h5⟩
    exact ⟨v0, _, I2, r, q⟩
  · have r := rel.val k
    rw [hn, ev] at r
    exact (show False from r).elim
theorem zip_drop (k : List Int) {K : PySem.W.Frag} {G : Hp} : ∀ {kvs : List (List Int × D)} {vs : List V}, Reps K G (kvs.map (·.2)) vs →
    ∃ us, dropK ((kvs.map fun p => (p.1.map Sum.inl : List L2.Key)).zip vs) (k.map Sum.inl) = ((ddrop kvs k).map fun p => (p.1.map Sum.inl : List L2.Key)).zip us ∧ Reps K G ((ddrop kvs k).map (·.2)) us
  | [], vs, r => by
    simp only [List.map_nil, Reps] at r; subst r
    exact ⟨[], rfl, Reps.nil⟩
  | (a, d') :: kvs, vs, r => by
    simp only [List.map_cons, Reps] at r
    obtain ⟨v', t, rfl, q', s⟩ := r
    obtain ⟨us, e, ru⟩ := zip_drop k s
    by_cases h : a = k
    · subst h
      have e1 : ddrop ((a, d') :: kvs) a = ddrop kvs a := List.filter_cons_of_neg (by simp)
      have e2 : dropK (((a.map Sum.inl : List L2.Key), v') :: (kvs.map fun p => (p.1.map Sum.inl : List L2.Key)).zip t) (a.map Sum.inl) = dropK ((kvs.map fun p => (p.1.map Sum.inl : List L2.Key)).zip t) (a.map Sum.inl) := List.filter_cons_of_neg (by simp)
      refine ⟨us, ?_, ?_⟩
      · simp only [List.map_cons, List.zip_cons_cons]
        rw [e1, e2]; exact e
      · rw [e1]; exact ru
    · have h' : ¬ (a.map Sum.inl : List L2.Key) = k.map Sum.inl := fun z => h (inl_inj _ _ z)
      have e1 : ddrop ((a, d') :: kvs) k = (a, d') :: ddrop kvs k := List.filter_cons_of_pos (by simp [h])
      have e2 : dropK (((a.map Sum.inl : List L2.Key), v') :: (kvs.map fun p => (p.1.map Sum.inl : List L2.Key)).zip t) (k.map Sum.inl) = ((a.map Sum.inl : List L2.Key), v') :: dropK ((kvs.map fun p => (p.1.map Sum.inl : List L2.Key)).zip t) (k.map Sum.inl) := List.filter_cons_of_pos (by simp [h'])
      refine ⟨v' :: us, ?_, ?_⟩
      · simp only [List.map_cons, List.zip_cons_cons]
        rw [e1, e2, e]; rfl
      · rw [e1]; exact Reps.cons q' ru
def onDict (S : Sto) (d : D) (k : Addr → List (List Int × D) → Prop) : Prop := match d with
  | .ref p => match S p with
    | some (.dI kvs) => k p kvs
    | _ => False
  | _ => False
theorem onDict_ok {S : Sto} {d : D} {k : Addr → List (List Int × D) → Prop} (t : onDict S d k) : ∃ p kvs, d = .ref p ∧ S p = some (.dI kvs) ∧ k p kvs := by
  unfold onDict at t
  split at t
  · rename_i p
    split at t
    · rename_i e
      exact ⟨p, _, rfl, e, t⟩
    · exact t.elim
  · exact t.elim
def dpk (o : Option D) (p : Addr) (kvs : List (List Int × D)) (S : Sto) (P : D → Sto → Prop) : Prop := match o with
  | some d => P d (su S p (.dI kvs))
  | none => False
def dpj (o : Option (List Int)) (p : Addr) (kvs : List (List Int × D)) (S : Sto) (P : D → Sto → Prop) : Prop := match o with
  | some k => dpk (dget kvs k) p (ddrop kvs k) S P
  | none => False
def dDPop (to : TDE) (te : TDE) : TDE := fun ρ S P => to ρ S fun x S1 => onDict S1 x (fun _ _ => True) ∧ te ρ S1 fun y S2 => onDict S2 x fun p kvs => dpj (kI y) p kvs S2 P
theorem de_dpop {X : Cx} {G0 : Hp} {k : Nat} {o e : Expr} {to te : TDE} {apos cpos : Pos} (hr : Room k X.A) (ho : DE X G0 o to) (he : DE X G0 e te)
    (hbase : attributeBase o "pop" X.env (eval o X.env) = eval o X.env := by rfl)
    (hfew : ((backTo cpos (starEach [e] X.env)).all (fun x => !x.1) && (backToKw cpos (keywordEach [] X.env)).all (fun x => x.1.isSome)
      && decide (([e] : List Expr).length + ([] : List Keyword).length + (if ([] : List Keyword).isEmpty then 0 else 1) < 30)) = true := by rfl)
    (hline : (apos.endLine == cpos.line) = true := by rfl) (hs : starEach [e] X.env = (false, eval e X.env) :: starEach [] X.env := by rfl) (hplain : (backTo cpos (starEach [] X.env)).any (·.1) = false := by rfl) :
    DE X G0 (.Call (.Attribute o "pop" apos) [e] [] cpos) (dDPop to te) :=
  PE.imp (pe_bm PySem.F.plainAttrs_dict PySem.F.slot_dict_pop PySem.F.type_dict_pop (mt_popT1 (hu_of hr)) ho (pa_cons he pa_nil hs) hbase hfew hline hs hplain) fun σ H Q ⟨ρ, S, P, st, t, oo⟩ =>
    ⟨ρ, S, _, st, t, fun x S1 v H1 t1 n1 r1 => by
      obtain ⟨p, kvs, rfl, h1, _⟩ := onDict_ok t1.1
      simp only [Rep] at r1
      subst r1
      obtain ⟨vs1, hH1, _⟩ := n1.ok p _ h1
      refine ⟨.inr (.inr (.inl ⟨rfl, .inr ⟨_, hH1⟩⟩)), ρ, S1, _, st.next n1, t1.2, fun y S2 u H2 t2 n2 r2 => ?_⟩
      obtain ⟨p', kvs2, ep, h2, t2⟩ := onDict_ok t2
      cases ep
      cases ek : kI y with
      | none => rw [ek] at t2; exact t2.elim
      | some key =>
        rw [ek] at t2
        simp only [dpj] at t2
        cases eg : dget kvs2 key with
        | none => rw [eg] at t2; exact t2.elim
        | some d =>
          rw [eg] at t2
          obtain ⟨vs, hH, r⟩ := n2.ok p _ h2
          obtain ⟨b, rfl, hb⟩ := kI_rep (wo_le H2 S2) r2 ek
          have g := zip_get (f := fun k : List Int => (k.map Sum.inl : List L2.Key)) inl_inj key r
          rw [eg] at g
          obtain ⟨w0, hw, rw'⟩ := g.some_of
          obtain ⟨us, e1, r3⟩ := zip_drop key r
          have n3 : Nx X.K (wo H2 S2) (su S2 p (.dI (ddrop kvs2 key))) (upd H2 p (.dT (((ddrop kvs2 key).map fun p => (p.1.map Sum.inl : List L2.Key)).zip us))) := n2.write h2 ⟨us, upd_same, r3⟩
          refine ⟨p, _, key.map Sum.inl, b, w0, rfl, rfl, hH, hb, hw, ?_⟩
          rw [e1]
          exact oo _ _ _ _ t2 (n1.trans (n2.trans n3)) (rw'.mono n3.st)⟩
theorem dd_mem : ∀ (l acc : List Int), acc.Nodup → (l.foldl step_dedup acc).Nodup ∧ ∀ x, x ∈ l.foldl step_dedup acc ↔ x ∈ acc ∨ x ∈ l
  | [], acc, h => ⟨h, fun x => by simp⟩
  | y :: l, acc, h => by
    rw [List.foldl_cons]
    by_cases c : acc.any (· == y) = true
    · have e : step_dedup acc y = acc := if_pos c
      rw [e]
      obtain ⟨h1, h2⟩ := dd_mem l acc h
      refine ⟨h1, fun x => ?_⟩
      rw [h2, List.mem_cons]
      obtain ⟨z, hz, ez⟩ := List.any_eq_true.mp c
      have : z = y := by simpa using ez
      subst this
      constructor
      · rintro (q | q)
        · exact .inl q
        · exact .inr (.inr q)
      · rintro (q | rfl | q)
        · exact .inl q
        · exact .inl hz
        · exact .inr q
    · have e : step_dedup acc y = acc ++ [y] := if_neg c
      have hy : y ∉ acc := fun m => c (List.any_eq_true.mpr ⟨y, m, beq_self_eq_true y⟩)
      rw [e]
      have hn : (acc ++ [y]).Nodup := by
        rw [List.nodup_append]
        refine ⟨h, List.nodup_cons.mpr ⟨List.not_mem_nil, List.nodup_nil⟩, fun a ha b hb z => ?_⟩
        rw [List.mem_singleton.mp hb] at z
        exact hy (z ▸ ha)
      obtain ⟨h1, h2⟩ := dd_mem l (acc ++ [y]) hn
      refine ⟨h1, fun x => ?_⟩
      rw [h2, List.mem_append, List.mem_singleton, List.mem_cons]
      constructor
      · rintro ((q | q) | q)
        · exact .inl q
        · exact .inr (.inl q)
        · exact .inr (.inr q)
      · rintro (q | q | q)
        · exact .inl (.inl q)
        · exact .inl (.inr q)
        · exact .inr q
theorem ddN_of {ns l : List Int} (hd : l.Nodup) (hm : ∀ x, x ∈ l ↔ x ∈ ns) : l.length = ddN ns := by
  have e : (List.range ns.length).map (fun i => ns.getD i 0) = ns := by
    refine List.ext_getElem (by simp) fun i h1 h2 => ?_
    rw [List.getElem_map, List.getElem_range, List.getD_eq_getElem?_getD, List.getElem?_eq_getElem h2]; rfl
  unfold ddN firstMet
  rw [e]
  obtain ⟨h1, h2⟩ := dd_mem ns [] List.nodup_nil
  exact ((List.perm_ext_iff_of_nodup hd h1).mpr fun x => by rw [hm, h2]; simp).length_eq
def tLenSetT (K : PySem.W.Frag) (ta : TE) : TE := fun σ H Q => ta σ H fun x H1 => ∃ (l : Addr) (ns : List Int), x = .ref l ∧ SqT K H1 l (ns.map V.int) ∧ ns.length ≤ 4000 ∧ Q (.int (ddN ns : Nat)) H1
theorem pe_lenSetT {X : Cx} {a : Expr} {ta : TE} {p p2 q pos : Pos} (hc : X.calm = true) (hg : Gl X "len") (hm : X.mg "len" = none) (hg2 : Gl X "set") (hm2 : X.mg "set" = none) (ha : PE X a ta)
    (na : starEach [a] X.env = (false, eval a X.env) :: starEach [] X.env := by rfl) : PE X (.Call (.Name "len" p) [.Call (.Name "set" p2) [a] [] q] [] pos) (tLenSetT X.K ta) := by
  refine ⟨fun pins s σ H Q I h => Call_ (ld_blt I hg hm boot_len (PyProof.Rows.callWith_builtin1 (PyProof.Rows.args_cons (Call_ (ld_blt I hg2 hm2 PyProof.Rows.boot_set ?_)) rfl) rfl rfl))⟩
  refine PyProof.Rows.callWith_type1 (PyProof.Rows.args_cons (thn (ha.run pins s σ H _ I h) fun v s1 ⟨x, H1, I1, r1, l, ns, ex, hq, hl, q1⟩ => PyProof.Rows.args_nil ?_) na) na rfl
  subst ex
  cases r1
  obtain ⟨its, r, pl, hz⟩ := I1.tuple hq
  refine call_set_tupI ns (I1.ok.hd hc) pl (by simpa using r.ints) (by unfold scanBound; omega) fun h' tk c hS hcl hk => PyProof.Rows.args_nil ?_
  obtain ⟨o, es, ep, t, ho, hex, hd, _, hnd, hmem, _, hf, hn, _⟩ := hS
  have e : c = ddN ns := by
    rw [← hn, show es.size = (es.toList.map keyOf).length by rw [List.length_map, Array.length_toList]]
    refine ddN_of hnd fun x => ?_
    rw [← hmem x]; simp
  have hle := hcl
  have I2 : Inv X pins σ H1 { s1 with heap := h', toks := tk } := I1.kept fun b o e => hk b o e
  exact call_len_set ho hex hd hf (by rw [hn]; omega) ⟨.int (ddN ns : Nat), H1, I2.tok _, ⟨_, by rw [hn, e]⟩, q1⟩
def lskT (x : D) (S : Sto) (P : D → Sto → Prop) : Prop := match x with
  | .tup xs => lsk (kInts xs) S P
  | _ => False
def dLenSetT (te : TDE) : TDE := fun ρ S P => te ρ S fun x S1 => lskT x S1 P
theorem de_lenSetT {X : Cx} {G0 : Hp} {e : Expr} {te : TDE} {p p2 q pos : Pos} (hc : X.calm = true) (hm : X.mg "len" = none) (hm2 : X.mg "set" = none) (he : DE X G0 e te) (hg : Gl X "len" := by rfl) (hg2 : Gl X "set" := by rfl)
    (na : starEach [e] X.env = (false, eval e X.env) :: starEach [] X.env := by rfl) : DE X G0 (.Call (.Name "len" p) [.Call (.Name "set" p2) [e] [] q] [] pos) (dLenSetT te) :=
  PE.imp (pe_lenSetT hc hg hm hg2 hm2 he na) fun σ H Q ⟨ρ, S, P, st, t, o⟩ => ⟨ρ, S, _, st, t, fun x S1 v H1 t1 n1 r1 => by
    cases x with
    | tup ds =>
      simp only [lskT] at t1
      cases e2 : kInts ds with
      | none => rw [e2] at t1; exact t1.elim
      | some ns =>
        rw [e2] at t1
        have := kInts_eq e2
        subst this
        simp only [Rep] at r1
        obtain ⟨a, vs, rfl, q, r⟩ := r1
        have := r.ints
        subst this
        exact ⟨a, ns, rfl, SqT.of (wo_le _ _ _ _ q), t1.1, o _ _ _ _ t1.2 n1 (by simp only [Rep])⟩
    | _ => exact t1.elim⟩
end DL
namespace DL
open PySem L2
structure ExK (K : PySem.W.Frag) (a : CA) : Prop where
  t0 : True
end DL
namespace DL
open PySem L2
theorem vm_cases {S : Sto} {x : D} {xs : List D} (h : vm S x = some xs) : x = .lst xs ∨ ∃ p, x = .ref p ∧ S p = some (.ml xs) := by
  cases x with
  | lst ys => simp only [vm, Option.some.injEq] at h; exact .inl (by rw [h])
  | ref p =>
    simp only [vm] at h
    split at h
    · rename_i e; cases h; exact .inr ⟨p, rfl, e⟩
    · cases h
  | _ => simp [vm] at h
theorem vm_vl {S : Sto} {x : D} {xs : List D} (h : vm S x = some xs) : vl S x = some xs := by
  rcases vm_cases h with rfl | ⟨p, rfl, e⟩
  · rfl
  · exact h
theorem vm_rs {S : Sto} {x : D} {xs : List D} (h : vm S x = some xs) : rs S x = .lst xs := by unfold rs; rw [h]
theorem vm_ty {S : Sto} {x : D} {xs : List D} (h : vm S x = some xs) : tyS S x = some "list" := by
  rcases vm_cases h with rfl | ⟨p, rfl, e⟩
  · rfl
  · simp only [tyS, e]
theorem vm_len {S : Sto} {x : D} {xs : List D} (h : vm S x = some xs) : lenS S x = some xs.length := by
  rcases vm_cases h with rfl | ⟨p, rfl, e⟩
  · rfl
  · simp only [lenS, e]
def RdAt (S : Sto) (x : D) : Option (List Int) → Prop
  | none => x = .non
  | some l => vm S x = some (l.map .int)
theorem RdAt.rs {S : Sto} {x : D} {r : Option (List Int)} (h : RdAt S x r) : rs S x = eO eR r := by
  cases r with
  | none => rw [show x = .non from h]; rfl
  | some l => exact vm_rs h
theorem RdAt.ok {S : Sto} {x : D} {r : Option (List Int)} (h : RdAt S x r) : okD (DL.rs S x) = true := by rw [h.rs]; exact encOR.ok (by decide) r
theorem rdAt_eO (S : Sto) (r : Option (List Int)) : RdAt S (eO eR r) r := by
  cases r with
  | none => rfl
  | some l => rfl
theorem rdAt_lst (S : Sto) (r : List Int) : RdAt S (.lst (r.map .int)) (some r) := rfl
theorem rdAt_ref {S : Sto} {p : Addr} {r : List Int} (h : S p = some (.ml (r.map .int))) : RdAt S (.ref p) (some r) := by simp only [RdAt, vm, h]
theorem rdAt_cases {S : Sto} {x : D} {r : Option (List Int)} (h : RdAt S x r) : (x = .non ∧ r = none) ∨ (∃ l : List Int, x = .lst (l.map .int) ∧ r = some l) ∨ ∃ (p : Addr) (l : List Int), x = .ref p ∧ S p = some (.ml (l.map .int)) ∧ r = some l := by
  cases r with
  | none => exact .inl ⟨h, rfl⟩
  | some l =>
    rcases vm_cases h with rfl | ⟨p, rfl, e⟩
    · exact .inr (.inl ⟨l, rfl, rfl⟩)
    · exact .inr (.inr ⟨p, l, rfl, e, rfl⟩)
theorem ne_beq {n m : Nat} : (true ^^ dEq (.int n) (.int m)) = !decide (n = m) := by
  rw [dEq_int, Bool.true_xor]; congr 1; simp only [decide_eq_decide]; omega
theorem dEq_eO (x y : Option (List Int)) : dEq (eO eR x) (eO eR y) = decide (x = y) := encOR.eq x y
theorem okD_eO (x : Option (List Int)) : okD (eO eR x) = true := encOR.ok (by decide) x
theorem map_eraseIdx {α β : Type} (f : α → β) : ∀ (l : List α) (i : Nat), (l.map f).eraseIdx i = (l.eraseIdx i).map f
  | [], _ => rfl
  | _ :: _, 0 => rfl
  | x :: l, i + 1 => by simp only [List.map_cons, List.eraseIdx_cons_succ, map_eraseIdx f l i]
theorem append_at {S : Sto} {p : Addr} {xs : List D} {y : D} {P : D → Sto → Prop} (h : S p = some (.ml xs)) (hl : xs.length < sizeLine) (k : P .non (su S p (.ml (xs ++ [y])))) : appendD (.ref p) [y] S P := by
  simp only [appendD, onCell, cellL, h]; exact ⟨hl, k⟩
theorem popAt_at {α : Type} {f : α → D} {S : Sto} {p : Addr} {l : List α} {i : Int} {P : D → Sto → Prop} (h : S p = some (.ml (l.map f))) (h0 : 0 ≤ i) (h1 : i < l.length) (hb : l.length < sizeLine) (k : P (f (l[i.toNat]'(by omega))) (su S p (.ml ((l.eraseIdx i.toNat).map f)))) : popAtD (.ref p) [.int i] S P := by
  simp only [popAtD, onCell, cellL, h]
  have hs : sizeLine = 2 ^ 24 := rfl
  refine ⟨by omega, by omega, ?_⟩
  rw [List.length_map, seqIx_pos h0 h1]
  simp only [List.getElem?_map]
  rw [List.getElem?_eq_getElem (by omega)]
  simp only [Option.map_some]
  rw [map_eraseIdx]
  exact k
theorem nodup_le : ∀ (n : Nat) (l : List Int), l.Nodup → (∀ g ∈ l, 0 ≤ g ∧ g < n) → l.length ≤ n
  | 0, l, _, h => by
    cases l with
    | nil => exact Nat.le_refl _
    | cons x l => have := h x List.mem_cons_self; omega
  | n + 1, l, hd, h => by
    by_cases c : (n : Int) ∈ l
    · have h1 := nodup_le n (l.erase (n : Int)) (hd.erase _) fun g hg => by
        have h2 := (hd.mem_erase_iff).mp hg
        have h3 := h g h2.2
        have h4 := h2.1
        omega
      have h2 := List.length_erase_of_mem c
      have h3 : 0 < l.length := List.length_pos_of_mem c
      omega
    · have h1 := nodup_le n l hd fun g hg => by
        have h3 := h g hg
        have h4 : g ≠ n := fun z => c (z ▸ hg)
        omega
      omega
theorem any_int (l : List Int) (i : Int) : ((l.map D.int).any fun z => dEq z (.int i)) = decide (i ∈ l) := Enc.int.o.any i l
theorem nodup_one {α : Type} (x : α) : [x].Nodup := List.nodup_cons.mpr ⟨List.not_mem_nil, List.nodup_nil⟩
theorem dEq_str (x y : Str) : dEq (.str x) (.str y) = decide (x = y) := by simp only [dEq, toP, PyData.eqv]; exact Bool.beq_eq_decide_eq x y
theorem okD_str {x : Str} (h : PyData.strOk x = true) : okD (.str x) = true := by simp [okD, pureD, SeqAt.shaped, toP, PyData.canLay0, PyData.depth, h]
theorem getLast_snoc {α : Type} (l : List α) (x : α) : atI (l ++ [x]) (-1) = some x := by
  rw [atI_last (by simp)]; simp
theorem atI_tab {α : Type} (f : α → D) (xs : List α) {k : Int} (h0 : 0 ≤ k) (h1 : k < xs.length) : atI (xs.map f) k = some (f (xs[k.toNat]'(by omega))) := by
  rw [atI_map, atI_pos h0 h1]; rfl
theorem nodup_inj {α : Type} {l : List α} (hd : l.Nodup) {i j : Nat} (hi : i < l.length) (hj : j < l.length) (e : l[i] = l[j]) : i = j := by
  have h := List.pairwise_iff_getElem.mp hd
  rcases Nat.lt_trichotomy i j with h1 | h1 | h1
  · exact absurd e (h i j hi hj h1)
  · exact h1
  · exact absurd e.symm (h j i hj hi h1)
theorem dEq_tab (x y : List (Option (List Int))) : dEq (.lst (x.map (eO eR))) (.lst (y.map (eO eR))) = decide (x = y) := encTab.eq x y
theorem okD_tab (x : List (Option (List Int))) : okD (.lst (x.map (eO eR))) = true := encTab.o.ok (by decide) x
theorem free_of {S : Sto} {p q : Addr} {c : Cl} (h : su S p c q = none) : q ≠ p ∧ S q = none := by
  have n : q ≠ p := fun z => by rw [z, su_same] at h; cases h
  rw [su_ne n] at h
  exact ⟨n, h⟩
theorem su_at2 {S : Sto} {g p q : Addr} {a b d c : Cl} (h1 : g ≠ p) (h2 : g ≠ q) : su (su (su (su S g a) p b) q d) g c = su (su (su S g c) p b) q d := by
  rw [su_comm (S := su (su S g a) p b) (Ne.symm h2), su_two h1]
theorem su_at3 {S : Sto} {g p q r : Addr} {a b d e c : Cl} (h1 : g ≠ p) (h2 : g ≠ q) (h3 : g ≠ r) : su (su (su (su (su S g a) p b) q d) r e) g c = su (su (su (su S g c) p b) q d) r e := by
  rw [su_comm (S := su (su (su S g a) p b) q d) (Ne.symm h3), su_at2 h1 h2]
theorem su_at4 {S : Sto} {g p q r t : Addr} {a b d e f c : Cl} (h1 : g ≠ p) (h2 : g ≠ q) (h3 : g ≠ r) (h4 : g ≠ t) : su (su (su (su (su (su S g a) p b) q d) r e) t f) g c = su (su (su (su (su S g c) p b) q d) r e) t f := by
  rw [su_comm (S := su (su (su (su S g a) p b) q d) r e) (Ne.symm h4), su_at3 h1 h2 h3]
theorem sorted_snoc {m : Bool} {l : List Int} {b : Int} {S : Sto} {P : D → Sto → Prop} : sortedD m [.lst (l.map .int ++ [.int b])] S P = newL m ((sortI (l ++ [b])).map .int) S P := by
  have e : l.map D.int ++ [.int b] = (l ++ [b]).map .int := by rw [List.map_append]; rfl
  rw [e]
  simp only [sortedD, vm, Option.bind_some, kInts_map]
theorem setD_at {S : Sto} {p : Addr} {xs : List D} {k : Int} {d : D} {P : Sto → Prop} (h : S p = some (.ml xs)) (h0 : 0 ≤ k) (h1 : k < xs.length) (q : P (su S p (.ml (xs.set k.toNat d)))) : setD (.ref p) (.int k) d S P := by
  simp only [setD, h, ixN_pos h0 h1]
  exact q
theorem setD_key {S : Sto} {p : Addr} {kvs : List (List Int × D)} {k : List Int} {d : D} {P : Sto → Prop} (h : S p = some (.dI kvs)) (hl : kvs.length < sizeLine) (q : P (su S p (.dI (dput kvs k d)))) : setD (.ref p) (.tup (k.map .int)) d S P := by
  simp only [setD, h, kI, kInts_map]
  exact ⟨hl, q⟩
theorem vm_le {S S' : Sto} {x : D} {xs : List D} (h : vm S x = some xs) (l : SLe S S') : vm S' x = some xs := by
  rcases vm_cases h with rfl | ⟨p, rfl, e⟩
  · rfl
  · simp only [vm, l _ _ e]
theorem inR_vm {neg : Bool} {x y : D} {S : Sto} {P : D → Sto → Prop} {ys : List D} (h : vm S y = some ys) : inR neg x y S P = (okD (rs S x) = true ∧ okD (.lst ys) = true ∧ P (.bl (neg ^^ ys.any fun z => dEq z (rs S x))) S) := by
  rcases vm_cases h with rfl | ⟨p, rfl, e⟩ <;> simp only [inR, inL, h]
theorem ixD_vm {x y : D} {S : Sto} {P : D → Sto → Prop} {xs : List D} (h : vm S x = some xs) : ixD x y S P = ixL xs y S P := by
  have h2 := vm_vl h
  rcases vm_cases h with rfl | ⟨p, rfl, e⟩ <;> simp only [ixD, ixLK, h2]
theorem lenD_vm {x : D} {S : Sto} {P : D → Sto → Prop} {xs : List D} (h : vm S x = some xs) : lenD [x] S P = P (.int xs.length) S := by
  have h2 := vm_len h
  rcases vm_cases h with rfl | ⟨p, rfl, e⟩ <;> simp only [lenD, h2]
theorem listD_vm {m : Bool} {x : D} {S : Sto} {P : D → Sto → Prop} {xs : List D} (h : vm S x = some xs) : listD m [x] S P = newL m xs S P := by
  have h2 := vm_vl h
  rcases vm_cases h with rfl | ⟨p, rfl, e⟩ <;> simp only [listD, h2]
abbrev WL := List (Int × Int)
theorem encWL : Enc (eL eII) 2 := encII.lst
theorem okD_WL (w : WL) : okD (.lst (w.map eII)) = true := encWL.o.ok (by decide) w
theorem okD_II (i j : Int) : okD (.tup [.int i, .int j]) = true := encII.o.ok (by decide) (i, j)
theorem any_II (w : WL) (i j : Int) : ((w.map eII).any fun z => dEq z (.tup [.int i, .int j])) = decide ((i, j) ∈ w) := (encII.o.any (i, j) w).trans (decide_eq_decide.mpr Iff.rfl)
def relW (w : WL) : Int → Int → Bool := fun x y => decide ((min x y, max x y) ∈ w)
theorem isE_at {K : PySem.W.Frag} {C x D' : Addr} {b : Bool} {S : Sto} {P : D → Sto → Prop} (h : ExcC K C) (hk : PySem.W.kitOne K (.ref C) (.ref D') = some b) (q : P (.bl b) S) : isED K C x [.ref x, .ref D'] S P := ⟨h, rfl, by simp only [isEK, hk]; exact q⟩
theorem isE_ty {K : PySem.W.Frag} {C x : Addr} {b : Bool} {n : String} {S : Sto} {P : D → Sto → Prop} (h : ExcC K C) (hk : PySem.W.kitOne K (.ref C) (.type n) = some b) (q : P (.bl b) S) : isED K C x [.ref x, .ty n] S P := ⟨h, rfl, by simp only [isEK, hk]; exact q⟩
theorem cut1 (xs : List D) : cutD xs (some 1) none = xs.drop 1 := by
  unfold cutD
  have e1 : HT.sIx xs.length 0 (some 1) = min 1 xs.length := HT.sIx_nat xs.length 0 1
  rw [e1, HT.sIx_none]
  cases xs with
  | nil => rfl
  | cons x xs =>
    rw [show min 1 (x :: xs).length = 1 by simp]
    exact List.take_of_length_le (by simp)
theorem dEq_II (p q : Int × Int) : dEq (eII p) (eII q) = decide (p = q) := encII.eq p q
theorem find_erase (q : Int × Int) : ∀ l : WL, q ∈ l → ∃ k, (l.map eII).findIdx? (fun z => dEq z (eII q)) = some k ∧ (l.map eII).eraseIdx k = (l.erase q).map eII
  | [], h => by cases h
  | p :: l, h => by
    rw [List.map_cons, List.findIdx?_cons, dEq_II]
    by_cases c : p = q
    · subst c
      exact ⟨0, by simp, by simp⟩
    · obtain ⟨k, e1, e2⟩ := find_erase q l (by rcases List.mem_cons.mp h with h | h; exact absurd h.symm c; exact h)
      refine ⟨k + 1, by rw [e1]; simp [c], ?_⟩
      rw [List.eraseIdx_cons_succ, e2, List.erase_cons_tail (by simpa using c)]
      rfl
theorem remove_at {S : Sto} {p : Addr} {w : WL} {i j : Int} {P : D → Sto → Prop} (h : S p = some (.ml (w.map eII))) (m : (i, j) ∈ w) (q : P .non (su S p (.ml ((w.erase (i, j)).map eII)))) : removeD (.ref p) [.tup [.int i, .int j]] S P := by
  obtain ⟨k, e1, e2⟩ := find_erase (i, j) w m
  simp only [removeD, onCell, cellL, h]
  refine ⟨okD_II i j, okD_WL w, ?_⟩
  rw [show D.tup [D.int i, .int j] = eII (i, j) from rfl, e1]
  show P .non (su S p (.ml ((w.map eII).eraseIdx k)))
  rw [e2]
  exact q
theorem dEq_BL (x y : List Bool) : dEq (.lst (x.map .bl)) (.lst (y.map .bl)) = decide (x = y) := Enc.bl.lst.eq x y
theorem okD_BL (x : List Bool) : okD (.lst (x.map .bl)) = true := Enc.bl.lst.o.ok (by decide) x
theorem dEq_nil : dEq (.lst []) (.lst []) = true := rfl
theorem okD_nil : okD (.lst []) = true := rfl
theorem dFor_at {i : Nat} {x : D} {xs : List D} {g : TDG} {tb : TDS} {E : DEnds} {ρ : Env'} {S : Sto} (h : ρ[i]? = some (some x)) (hv : vl S x = some xs) (k : dGo (fun S' => vl S' x = some xs) g tb E xs ρ S) : dFor (dVar i) g tb E ρ S := by
  unfold dFor dVar
  rw [h]
  simp only [hv, dForK]
  exact k
theorem dFor_keys {i : Nat} {p : Addr} {kvs : List (List Int × D)} {g : TDG} {tb : TDS} {E : DEnds} {ρ : Env'} {S : Sto} (h : ρ[i]? = some (some (.ref p))) (hv : S p = some (.dI kvs)) (k : dGo (fun _ => True) g tb E ((kvs.map (·.1)).map fun k => .tup (k.map .int)) ρ S) : dFor (dCB (listD false) (dCons (dVar i) dNil)) g tb E ρ S := by
  unfold dFor dCB dCons dVar dNil
  rw [h]
  have e : vl S (.ref p) = none := by simp only [vl, vm, hv]
  simp only [listD, e, keysS, hv, newL, vl, vm, dForK]
  exact k

end DL
namespace DL
open PySem L2
structure GS where
  n : Nat
  T : Int → Int → Bool
  H : Int → Int → Bool
  F : Int → Int → Int
  L : List (List Int × Int)
structure GA where
  (g t h f l : Addr)
def GA.all (A : GA) : List Addr := [A.g, A.t, A.h, A.f, A.l]
def intsN (n : Nat) : List Int := (List.range n).map fun i : Nat => (i : Int)
def nb (n : Nat) (R : Int → Int → Bool) (x : Int) : List Int := (intsN n).filter fun y => R x y
def nbs (n : Nat) (R : Int → Int → Bool) : List (List Int) := (intsN n).map (nb n R)
def eKV (p : List Int × Int) : List Int × D := (p.1, .int p.2)
def gf (A : GA) (n : Nat) : List (Str × D) := [("houses", .int n), ("ties", .ref A.t), ("shy", .ref A.h), ("fond", .ref A.f), ("longings", .ref A.l)]
structure GAt (a : CA) (S : Sto) (A : GA) (s : GS) (m : Nat) : Prop where
  g : S A.g = some (.ins a.Guild (gf A s.n))
  t : S A.t = some (.ml ((nbs s.n s.T).map eR))
  h : S A.h = some (.ml ((nbs s.n s.H).map eR))
  f : ∃ fl, S A.f = some (.dI fl) ∧ (∀ x y, (dget fl [x, y]).getD (.int 0) = .int (s.F x y)) ∧ fl.length ≤ m
  l : S A.l = some (.dI (s.L.map eKV))
  ll : s.L.length ≤ m
  nt : A.t ≠ A.h
  nf : A.f ≠ A.l
  n1 : 1 ≤ s.n
  n2 : s.n ≤ 60
theorem GAt.frame {a : CA} {S S' : Sto} {A : GA} {s : GS} {m : Nat} (x : GAt a S A s m) (e : ∀ b ∈ A.all, S' b = S b) : GAt a S' A s m := by
  obtain ⟨g, t, h, f, l, ll, nt, nf, n1, n2⟩ := x
  have m1 : A.g ∈ A.all := by simp [GA.all]
  have m2 : A.t ∈ A.all := by simp [GA.all]
  have m3 : A.h ∈ A.all := by simp [GA.all]
  have m4 : A.f ∈ A.all := by simp [GA.all]
  have m5 : A.l ∈ A.all := by simp [GA.all]
  exact ⟨by rw [e _ m1]; exact g, by rw [e _ m2]; exact t, by rw [e _ m3]; exact h, by rw [e _ m4]; exact f, by rw [e _ m5]; exact l, ll, nt, nf, n1, n2⟩
theorem GAt.more {a : CA} {S : Sto} {A : GA} {s : GS} {m m' : Nat} (x : GAt a S A s m) (h : m ≤ m') : GAt a S A s m' := by
  obtain ⟨fl, e1, e2, e3⟩ := x.f
  exact ⟨x.g, x.t, x.h, ⟨fl, e1, e2, Nat.le_trans e3 h⟩, x.l, Nat.le_trans x.ll h, x.nt, x.nf, x.n1, x.n2⟩
theorem GAt.su {a : CA} {S : Sto} {A : GA} {s : GS} {m : Nat} {p : Addr} {c : Cl} (x : GAt a S A s m) (h : S p = none) : GAt a (DL.su S p c) A s m := by
  refine x.frame fun b hb => su_ne fun z => ?_
  subst z
  have : ∀ {o : Option Cl} {c : Cl}, o = none → o = some c → False := fun e1 e2 => by rw [e1] at e2; cases e2
  obtain ⟨fl, f1, _⟩ := x.f
  simp only [GA.all, List.mem_cons, List.not_mem_nil, or_false] at hb
  rcases hb with rfl | rfl | rfl | rfl | rfl
  · exact this h x.g
  · exact this h x.t
  · exact this h x.h
  · exact this h f1
  · exact this h x.l
def GS.new (n : Nat) : GS := ⟨n, fun _ _ => false, fun _ _ => false, fun _ _ => 0, []⟩
def GS.ok (s : GS) (x : Int) : Prop := 0 ≤ x ∧ x < s.n
instance (s : GS) (x : Int) : Decidable (s.ok x) := inferInstanceAs (Decidable (_ ∧ _))
def GS.ok2 (s : GS) (x y : Int) : Prop := s.ok x ∧ s.ok y ∧ x ≠ y
instance (s : GS) (x y : Int) : Decidable (s.ok2 x y) := inferInstanceAs (Decidable (_ ∧ _ ∧ _))
def relPut (R : Int → Int → Bool) (a b : Int) : Int → Int → Bool := fun x y => R x y || (decide (x = a) && decide (y = b))
def GS.lay (s : GS) (a b : Int) : GS := { s with T := fun x y => s.T x y || (decide (x = a) && decide (y = b)) || (decide (x = b) && decide (y = a)) }
def GS.lift (s : GS) (a b : Int) : GS := { s with T := fun x y => s.T x y && !(decide (x = a) && decide (y = b)) && !(decide (x = b) && decide (y = a)) }
def GS.like (s : GS) (a b r : Int) : GS := { s with F := fun x y => if x = a ∧ y = b then r else s.F x y }
def GS.shun (s : GS) (a b : Int) : GS := { s with H := relPut s.H a b }
def kget {κ β : Type} [DecidableEq κ] (l : List (κ × β)) (k : κ) : Option β := (l.find? fun p => decide (p.1 = k)).map (·.2)
def kput {κ β : Type} [DecidableEq κ] (l : List (κ × β)) (k : κ) (v : β) : List (κ × β) := if l.any (fun p => decide (p.1 = k)) then l.map (fun p => if p.1 = k then (p.1, v) else p) else l ++ [(k, v)]
def GS.wish (s : GS) (r : List Int) (k : Int) : GS := { s with L := kput s.L r k }
theorem dget_kv (l : List (List Int × Int)) (k : List Int) : dget (l.map eKV) k = (kget l k).map .int := by
  unfold dget kget
  rw [List.find?_map]
  show Option.map (·.2) (Option.map eKV (List.find? (fun p => decide (p.1 = k)) l)) = _
  cases List.find? (fun p => decide (p.1 = k)) l <;> rfl
theorem dput_kv (l : List (List Int × Int)) (k : List Int) (v : Int) : dput (l.map eKV) k (.int v) = (kput l k v).map eKV := by
  unfold dput kput
  have e : (l.map eKV).any (fun p => decide (p.1 = k)) = l.any (fun p => decide (p.1 = k)) := by rw [List.any_map]; rfl
  rw [e]
  split
  · rw [List.map_map, List.map_map]
    refine List.map_congr_left fun p _ => ?_
    by_cases c : p.1 = k <;> simp [Function.comp, eKV, c]
  · rw [List.map_append]; rfl
theorem kput_len {κ β : Type} [DecidableEq κ] (l : List (κ × β)) (k : κ) (v : β) : (kput l k v).length ≤ l.length + 1 := by
  unfold kput; split <;> simp
theorem kget_put {κ β : Type} [DecidableEq κ] (l : List (κ × β)) (k j : κ) (v : β) : kget (kput l k v) j = if j = k then some v else kget l j := by
  unfold kput
  by_cases c : l.any (fun p => decide (p.1 = k)) = true
  · rw [if_pos c]
    unfold kget
    rw [List.find?_map]
    induction l with
    | nil => simp at c
    | cons p l ih =>
      rw [List.find?_cons, List.find?_cons]
      by_cases e : p.1 = k
      · by_cases e2 : j = k
        · subst e2; simp [e]
        · have e3 : ¬ k = j := fun z => e2 z.symm
          simp only [Function.comp, e, ↓reduceIte, e3, decide_false, e2]
          by_cases c2 : l.any (fun p => decide (p.1 = k)) = true
          · have := ih c2
            rw [if_neg e2] at this
            exact this
          · have h0 : ∀ q ∈ l, ¬ q.1 = k := fun q hq z => c2 (List.any_eq_true.mpr ⟨q, hq, by simp [z]⟩)
            congr 1
            have : ∀ l' : List (κ × β), (∀ q ∈ l', ¬ q.1 = k) → Option.map (fun p => if p.1 = k then (p.1, v) else p) (List.find? ((fun p => decide (p.1 = j)) ∘ fun p => if p.1 = k then (p.1, v) else p) l') = List.find? (fun p => decide (p.1 = j)) l' := by
              intro l' h
              induction l' with
              | nil => rfl
              | cons q l' ih' =>
                have hq := h q List.mem_cons_self
                rw [List.find?_cons, List.find?_cons]
                simp only [Function.comp, hq, ↓reduceIte]
                cases decide (q.1 = j) with
                | true => simp [hq]
                | false => exact ih' fun q' h' => h q' (List.mem_cons_of_mem _ h')
            exact this l h0
      · have c2 : l.any (fun p => decide (p.1 = k)) = true := by simpa [e] using c
        have := ih c2
        by_cases e4 : p.1 = j
        · have e5 : ¬ j = k := fun z => e (e4.trans z)
          simp [e, e4, e5]
        · simp only [Function.comp, e, ↓reduceIte, e4, decide_false]
          exact this
  · rw [if_neg c]
    unfold kget
    rw [List.find?_append]
    have h0 : ∀ q ∈ l, ¬ q.1 = k := fun q hq z => c (List.any_eq_true.mpr ⟨q, hq, by simp [z]⟩)
    by_cases e2 : j = k
    · subst e2
      have : l.find? (fun p => decide (p.1 = j)) = none := List.find?_eq_none.mpr fun q hq => by simpa using h0 q hq
      rw [this]; simp
    · have e3 : ¬ k = j := fun z => e2 z.symm
      simp [e2, e3]
theorem kget_map {κ β γ : Type} [DecidableEq κ] (f : β → γ) (l : List (κ × β)) (k : κ) : kget (l.map fun p => (p.1, f p.2)) k = (kget l k).map f := by
  unfold kget
  rw [List.find?_map]
  show Option.map _ (Option.map _ (List.find? (fun p => decide (p.1 = k)) l)) = _
  cases (List.find? (fun p => decide (p.1 = k)) l) <;> rfl
theorem dget_k (l : List (List Int × D)) (k : List Int) : dget l k = kget l k := rfl
theorem dput_k (l : List (List Int × D)) (k : List Int) (v : D) : dput l k v = kput l k v := rfl
theorem intsN_len (n : Nat) : (intsN n).length = n := by unfold intsN; simp
theorem intsN_get {n i : Nat} (h : i < (intsN n).length) : (intsN n)[i] = (i : Int) := by
  have h2 : i < n := by rw [intsN_len] at h; exact h
  have e : (intsN n)[i]? = some (i : Int) := by unfold intsN; rw [List.getElem?_map, List.getElem?_range h2]; rfl
  exact (List.getElem?_eq_some_iff.mp e).2
theorem intsN_mem {n : Nat} {x : Int} : x ∈ intsN n ↔ 0 ≤ x ∧ x < n := by
  unfold intsN
  rw [List.mem_map]
  constructor
  · rintro ⟨i, hi, rfl⟩
    have := List.mem_range.mp hi
    omega
  · intro h
    have h2 : x.toNat < n := by omega
    exact ⟨x.toNat, List.mem_range.mpr h2, by omega⟩
theorem intsN_pw (n : Nat) : (intsN n).Pairwise (· < ·) := by
  unfold intsN
  rw [List.pairwise_map]
  exact List.pairwise_lt_range.imp fun h => by omega
theorem intsN_nodup (n : Nat) : (intsN n).Nodup := (intsN_pw n).imp fun h => by omega
theorem nb_pw (n : Nat) (R : Int → Int → Bool) (x : Int) : (nb n R x).Pairwise (· < ·) := (intsN_pw n).filter _
theorem nb_nodup (n : Nat) (R : Int → Int → Bool) (x : Int) : (nb n R x).Nodup := (nb_pw n R x).imp fun h => by omega
theorem nb_mem {n : Nat} {R : Int → Int → Bool} {x y : Int} : y ∈ nb n R x ↔ (0 ≤ y ∧ y < n) ∧ R x y = true := by
  unfold nb
  rw [List.mem_filter, intsN_mem]
theorem nb_len (n : Nat) (R : Int → Int → Bool) (x : Int) : (nb n R x).length ≤ n := by
  unfold nb
  exact Nat.le_trans (List.length_filter_le _ _) (by rw [intsN_len]; exact Nat.le_refl _)
theorem nb_congr {n : Nat} {R R' : Int → Int → Bool} {x : Int} (h : ∀ y : Int, 0 ≤ y → y < n → R x y = R' x y) : nb n R x = nb n R' x := by
  unfold nb
  refine List.filter_congr fun y hy => ?_
  have := intsN_mem.mp hy
  exact h y this.1 this.2
theorem nb_uniq {n : Nat} {R : Int → Int → Bool} {x : Int} {l : List Int} (hs : l.Pairwise (· ≤ ·)) (hd : l.Nodup) (hm : ∀ y, y ∈ l ↔ (0 ≤ y ∧ y < (n : Int)) ∧ R x y = true) : l = nb n R x :=
  sorted_uniq ((List.perm_ext_iff_of_nodup hd (nb_nodup n R x)).mpr fun y => (hm y).trans nb_mem.symm) hs ((nb_pw n R x).imp fun h => by omega)
theorem nb_put {n : Nat} {R : Int → Int → Bool} {a b : Int} (h0 : 0 ≤ b) (h1 : b < n) (hb : R a b = false) {R' : Int → Int → Bool} (hR : ∀ y, 0 ≤ y → y < (n : Int) → R' a y = (R a y || decide (y = b))) : sortI (nb n R a ++ [b]) = nb n R' a := by
  have p := sortI_perm (nb n R a ++ [b])
  have hd : (nb n R a ++ [b]).Nodup := by
    rw [List.nodup_append]
    refine ⟨nb_nodup n R a, nodup_one b, fun x hx y hy z => ?_⟩
    rw [List.mem_singleton.mp hy] at z
    subst z
    rw [(nb_mem.mp hx).2] at hb
    cases hb
  refine nb_uniq (sortI_sorted _) (p.nodup_iff.mpr hd) fun y => ?_
  rw [p.mem_iff, List.mem_append, nb_mem, List.mem_singleton]
  constructor
  · rintro (⟨h, q⟩ | rfl)
    · exact ⟨h, by rw [hR y h.1 h.2, q]; rfl⟩
    · exact ⟨⟨h0, h1⟩, by rw [hR y h0 h1]; simp⟩
  · rintro ⟨h, q⟩
    rw [hR y h.1 h.2, Bool.or_eq_true, decide_eq_true_eq] at q
    rcases q with q | q
    · exact .inl ⟨h, q⟩
    · exact .inr q
theorem nbs_len (n : Nat) (R : Int → Int → Bool) : (nbs n R).length = n := by unfold nbs; rw [List.length_map, intsN_len]
theorem nbs_get {n : Nat} {R : Int → Int → Bool} {i : Nat} (h : i < (nbs n R).length) : (nbs n R)[i] = nb n R i := by simp only [nbs, List.getElem_map, intsN_get]
theorem nbs_at {n : Nat} {R : Int → Int → Bool} {x : Int} (h0 : 0 ≤ x) (h1 : x < n) : atI ((nbs n R).map eR) x = some (eR (nb n R x)) := by
  rw [atI_tab eR (nbs n R) h0 (by rw [nbs_len]; exact h1), nbs_get]
  congr 3
  omega
theorem nbs_congr {n : Nat} {R R' : Int → Int → Bool} (h : ∀ x y : Int, 0 ≤ x → x < n → 0 ≤ y → y < n → R x y = R' x y) : nbs n R = nbs n R' := by
  unfold nbs
  refine List.map_congr_left fun x hx => nb_congr fun y hy0 hy1 => ?_
  have := intsN_mem.mp hx
  exact h x y this.1 this.2 hy0 hy1
theorem nbs_set {n : Nat} {R R' : Int → Int → Bool} {a : Int} {l : List Int} (h0 : 0 ≤ a) (hl : l = nb n R' a) (hR : ∀ x y, x ≠ a → R' x y = R x y) : (nbs n R).set a.toNat l = nbs n R' := by
  refine List.ext_getElem (by rw [List.length_set, nbs_len, nbs_len]) fun i h h' => ?_
  rw [List.getElem_set]
  split
  · rename_i e
    rw [hl, nbs_get]
    congr 1
    omega
  · rename_i e
    rw [nbs_get, nbs_get]
    refine nb_congr fun y _ _ => ?_
    rw [hR _ _ fun z => e (by omega)]
theorem map_set' {α β : Type} (f : α → β) (l : List α) (i : Nat) (x : α) : (l.map f).set i (f x) = (l.set i x).map f := by rw [List.map_set]
theorem ixN_lt {n : Nat} {x : Int} (h0 : 0 ≤ x) (h1 : x < n) : ixN n x = some x.toNat := ixN_pos h0 h1
theorem gf_houses {A : GA} {n : Nat} : (gf A n).lookup ("houses" : Str) = some (.int n) := by with_unfolding_all rfl
theorem gf_ties {A : GA} {n : Nat} : (gf A n).lookup ("ties" : Str) = some (.ref A.t) := by with_unfolding_all rfl
theorem gf_shy {A : GA} {n : Nat} : (gf A n).lookup ("shy" : Str) = some (.ref A.h) := by with_unfolding_all rfl
theorem gf_fond {A : GA} {n : Nat} : (gf A n).lookup ("fond" : Str) = some (.ref A.f) := by with_unfolding_all rfl
theorem gf_longings {A : GA} {n : Nat} : (gf A n).lookup ("longings" : Str) = some (.ref A.l) := by with_unfolding_all rfl
theorem gfm_see_house {A : GA} {n : Nat} : ((gf A n).lookup ("see_house" : Str)).isNone = true := by with_unfolding_all rfl
theorem gfm_see_two {A : GA} {n : Nat} : ((gf A n).lookup ("see_two" : Str)).isNone = true := by with_unfolding_all rfl
theorem gfm_size {A : GA} {n : Nat} : ((gf A n).lookup ("size" : Str)).isNone = true := by with_unfolding_all rfl
theorem gfm_neighbours {A : GA} {n : Nat} : ((gf A n).lookup ("neighbours" : Str)).isNone = true := by with_unfolding_all rfl
theorem gfm_has_way {A : GA} {n : Nat} : ((gf A n).lookup ("has_way" : Str)).isNone = true := by with_unfolding_all rfl
theorem gfm_lay_way {A : GA} {n : Nat} : ((gf A n).lookup ("lay_way" : Str)).isNone = true := by with_unfolding_all rfl
theorem gfm_lift_way {A : GA} {n : Nat} : ((gf A n).lookup ("lift_way" : Str)).isNone = true := by with_unfolding_all rfl
theorem gfm_like {A : GA} {n : Nat} : ((gf A n).lookup ("like" : Str)).isNone = true := by with_unfolding_all rfl
theorem gfm_liking {A : GA} {n : Nat} : ((gf A n).lookup ("liking" : Str)).isNone = true := by with_unfolding_all rfl
theorem gfm_shun {A : GA} {n : Nat} : ((gf A n).lookup ("shun" : Str)).isNone = true := by with_unfolding_all rfl
theorem gfm_shunned {A : GA} {n : Nat} : ((gf A n).lookup ("shunned" : Str)).isNone = true := by with_unfolding_all rfl
theorem gfm_see_road {A : GA} {n : Nat} : ((gf A n).lookup ("see_road" : Str)).isNone = true := by with_unfolding_all rfl
theorem gfm_wish {A : GA} {n : Nat} : ((gf A n).lookup ("wish" : Str)).isNone = true := by with_unfolding_all rfl
theorem gfm_wishes {A : GA} {n : Nat} : ((gf A n).lookup ("wishes" : Str)).isNone = true := by with_unfolding_all rfl
theorem gfm_rank_of {A : GA} {n : Nat} : ((gf A n).lookup ("rank_of" : Str)).isNone = true := by with_unfolding_all rfl
theorem gp_houses {v : D} : putFD "houses" v [] = [(("houses" : Str), v)] := by with_unfolding_all rfl
theorem gp_ties {x0 v : D} : putFD "ties" v [(("houses" : Str), x0)] = [(("houses" : Str), x0), (("ties" : Str), v)] := by with_unfolding_all rfl
theorem gp_shy {x0 x1 v : D} : putFD "shy" v [(("houses" : Str), x0), (("ties" : Str), x1)] = [(("houses" : Str), x0), (("ties" : Str), x1), (("shy" : Str), v)] := by with_unfolding_all rfl
theorem gp_fond {x0 x1 x2 v : D} : putFD "fond" v [(("houses" : Str), x0), (("ties" : Str), x1), (("shy" : Str), x2)] = [(("houses" : Str), x0), (("ties" : Str), x1), (("shy" : Str), x2), (("fond" : Str), v)] := by with_unfolding_all rfl
theorem gp_longings {x0 x1 x2 x3 v : D} : putFD "longings" v [(("houses" : Str), x0), (("ties" : Str), x1), (("shy" : Str), x2), (("fond" : Str), x3)] = [(("houses" : Str), x0), (("ties" : Str), x1), (("shy" : Str), x2), (("fond" : Str), x3), (("longings" : Str), v)] := by with_unfolding_all rfl
theorem GAt.ne {a : CA} {S : Sto} {A : GA} {s : GS} {m : Nat} (x : GAt a S A s m) : A.g ≠ A.t ∧ A.g ≠ A.h ∧ A.g ≠ A.f ∧ A.g ≠ A.l ∧ A.t ≠ A.f ∧ A.t ≠ A.l ∧ A.h ≠ A.f ∧ A.h ≠ A.l := by
  obtain ⟨fl, f1, _⟩ := x.f
  refine ⟨fun z => ?_, fun z => ?_, fun z => ?_, fun z => ?_, fun z => ?_, fun z => ?_, fun z => ?_, fun z => ?_⟩
  · have := x.g; rw [z, x.t] at this; cases this
  · have := x.g; rw [z, x.h] at this; cases this
  · have := x.g; rw [z, f1] at this; cases this
  · have := x.g; rw [z, x.l] at this; cases this
  · have := x.t; rw [z, f1] at this; cases this
  · have := x.t; rw [z, x.l] at this; cases this
  · have := x.h; rw [z, f1] at this; cases this
  · have := x.h; rw [z, x.l] at this; cases this
theorem GAt.setT {a : CA} {S : Sto} {A : GA} {s : GS} {m : Nat} (x : GAt a S A s m) (T : Int → Int → Bool) : GAt a (DL.su S A.t (.ml ((nbs s.n T).map eR))) A { s with T := T } m := by
  obtain ⟨h1, h2, h3, h4, h5, h6, h7, h8⟩ := x.ne
  obtain ⟨fl, f1, f2⟩ := x.f
  exact ⟨by rw [su_ne h1]; exact x.g, su_same, by rw [su_ne (Ne.symm x.nt)]; exact x.h, ⟨fl, by rw [su_ne (Ne.symm h5)]; exact f1, f2⟩, by rw [su_ne (Ne.symm h6)]; exact x.l, x.ll, x.nt, x.nf, x.n1, x.n2⟩
theorem GAt.setH {a : CA} {S : Sto} {A : GA} {s : GS} {m : Nat} (x : GAt a S A s m) (T : Int → Int → Bool) : GAt a (DL.su S A.h (.ml ((nbs s.n T).map eR))) A { s with H := T } m := by
  obtain ⟨h1, h2, h3, h4, h5, h6, h7, h8⟩ := x.ne
  obtain ⟨fl, f1, f2⟩ := x.f
  exact ⟨by rw [su_ne h2]; exact x.g, by rw [su_ne x.nt]; exact x.t, su_same, ⟨fl, by rw [su_ne (Ne.symm h7)]; exact f1, f2⟩, by rw [su_ne (Ne.symm h8)]; exact x.l, x.ll, x.nt, x.nf, x.n1, x.n2⟩
theorem GAt.setF {a : CA} {S : Sto} {A : GA} {s : GS} {m : Nat} (x : GAt a S A s m) {F : Int → Int → Int} {fl : List (List Int × D)} (h : ∀ x y, (dget fl [x, y]).getD (.int 0) = .int (F x y)) (hl : fl.length ≤ m + 1) : GAt a (DL.su S A.f (.dI fl)) A { s with F := F } (m + 1) := by
  obtain ⟨h1, h2, h3, h4, h5, h6, h7, h8⟩ := x.ne
  exact ⟨by rw [su_ne h3]; exact x.g, by rw [su_ne h5]; exact x.t, by rw [su_ne h7]; exact x.h, ⟨fl, su_same, h, hl⟩, by rw [su_ne (Ne.symm x.nf)]; exact x.l, Nat.le_succ_of_le x.ll, x.nt, x.nf, x.n1, x.n2⟩
theorem GAt.setL {a : CA} {S : Sto} {A : GA} {s : GS} {m : Nat} (x : GAt a S A s m) {L : List (List Int × Int)} (hl : L.length ≤ m + 1) : GAt a (DL.su S A.l (.dI (L.map eKV))) A { s with L := L } (m + 1) := by
  obtain ⟨h1, h2, h3, h4, h5, h6, h7, h8⟩ := x.ne
  obtain ⟨fl, f1, f2, f3⟩ := x.f
  exact ⟨by rw [su_ne h4]; exact x.g, by rw [su_ne h6]; exact x.t, by rw [su_ne h8]; exact x.h, ⟨fl, by rw [su_ne x.nf]; exact f1, f2, Nat.le_succ_of_le f3⟩, su_same, hl, x.nt, x.nf, x.n1, x.n2⟩
theorem mem_all_t {A : GA} : A.t ∈ A.all := by simp [GA.all]
theorem mem_all_h {A : GA} : A.h ∈ A.all := by simp [GA.all]
theorem mem_all_f {A : GA} : A.f ∈ A.all := by simp [GA.all]
theorem mem_all_l {A : GA} : A.l ∈ A.all := by simp [GA.all]
theorem mem_all_g {A : GA} : A.g ∈ A.all := by simp [GA.all]
theorem su_out {S : Sto} {A : GA} {p : Addr} {c : Cl} (h : p ∈ A.all) : ∀ b, b ∉ A.all → DL.su S p c b = S b := fun b hb => su_ne fun z => hb (by rw [z]; exact h)
theorem mem_nb {n : Nat} {R : Int → Int → Bool} {x y : Int} (h : 0 ≤ y ∧ y < n) : decide (y ∈ nb n R x) = R x y := by
  cases c : R x y with
  | true => exact decide_eq_true (nb_mem.mpr ⟨h, c⟩)
  | false => exact decide_eq_false fun z => by rw [(nb_mem.mp z).2] at c; cases c
theorem GAt.eq {a : CA} {S : Sto} {A : GA} {s s' : GS} {m : Nat} (x : GAt a S A s m) (hn : s'.n = s.n) (hT : ∀ x y : Int, 0 ≤ x → x < s.n → 0 ≤ y → y < s.n → s.T x y = s'.T x y) (hH : ∀ x y : Int, 0 ≤ x → x < s.n → 0 ≤ y → y < s.n → s.H x y = s'.H x y) (hF : s.F = s'.F) (hL : s.L = s'.L) : GAt a S A s' m := by
  obtain ⟨n', T', H', F', L'⟩ := s'
  obtain rfl : n' = s.n := hn
  obtain rfl : s.F = F' := hF
  obtain rfl : s.L = L' := hL
  exact ⟨x.g, by rw [x.t]; exact congrArg (fun z => some (Cl.ml (z.map eR))) (nbs_congr hT), by rw [x.h]; exact congrArg (fun z => some (Cl.ml (z.map eR))) (nbs_congr hH), x.f, x.l, x.ll, x.nt, x.nf, x.n1, x.n2⟩
def GS.rd (s : GS) (l : List Int) : Prop := 2 ≤ l.length ∧ l.getLast? = some 0 ∧ l.Nodup
def GS.rok (s : GS) (l : List Int) : Prop := (∀ x ∈ l, s.ok x) ∧ s.rd l
def GS.rank (s : GS) (l : List Int) : Int := match kget s.L l with
  | some k => k
  | none => s.F (l.getD 0 0) (l.getD 1 0)
theorem relW_sym (wl : WL) (u v : Int) : relW wl u v = relW wl v u := by unfold relW; rw [Int.min_comm, Int.max_comm]
theorem relW_app (wl : WL) (x y u v : Int) : relW (wl ++ [(min x y, max x y)]) u v = (relW wl u v || (decide (u = x) && decide (v = y)) || (decide (u = y) && decide (v = x))) := by
  unfold relW
  rw [Bool.eq_iff_iff]
  simp only [decide_eq_true_eq, List.mem_append, List.mem_singleton, Prod.mk.injEq, Bool.or_eq_true, Bool.and_eq_true]
  rw [or_assoc]
  refine or_congr Iff.rfl ?_
  omega
theorem relW_erase (wl : WL) (hd : wl.Nodup) (x y u v : Int) : relW (wl.erase (min x y, max x y)) u v = (relW wl u v && !(decide (u = x) && decide (v = y)) && !(decide (u = y) && decide (v = x))) := by
  unfold relW
  rw [Bool.eq_iff_iff]
  simp only [decide_eq_true_eq, hd.mem_erase_iff, ne_eq, Prod.mk.injEq, Bool.and_eq_true, Bool.not_eq_true', Bool.and_eq_false_iff, decide_eq_false_iff_not]
  rw [and_assoc]
  constructor
  · rintro ⟨h1, h2⟩; exact ⟨h2, by omega, by omega⟩
  · rintro ⟨h2, h3, h4⟩; exact ⟨by omega, h2⟩
theorem guild_gone {a : CA} {A : GA} {s : GS} {m : Nat} {S : Sto} {p : Addr} (g : GAt a S A s m) (h : S p = none) : p ∉ A.all := fun z => by
  obtain ⟨fl, f1, _⟩ := g.f
  have : ∀ {o : Option Cl} {c : Cl}, o = none → o = some c → False := fun e1 e2 => by rw [e1] at e2; cases e2
  simp only [GA.all, List.mem_cons, List.not_mem_nil, or_false] at z
  rcases z with rfl | rfl | rfl | rfl | rfl
  · exact this h g.g
  · exact this h g.t
  · exact this h g.h
  · exact this h f1
  · exact this h g.l

end DL
namespace DL
open PySem L2
def t_Guild_see_house (K : PySem.W.Frag) (a : CA) (W : WD) : TDS :=
  (dIfS (dOrT (dB (dOp ltI (dVar 1) (dC (.int 0)))) (dB (dOp geI (dVar 1) (dFld a.Guild "houses" (dVar 0)))))
    (dRaise a.NoHouse W)
    dNext)
abbrev N_Guild_see_house : List Str := ["self", "a"]
def sp_Guild_see_house (a : CA) : DSp := fun ds S P E => ∃ (A : GA) (s : GS) (m : Nat) (x : Int), ds = [.ref A.g, .int x] ∧ GAt a S A s m ∧ (s.ok x → P .non S) ∧ (¬ s.ok x → E a.NoHouse S)
theorem len_Guild_see_house (a : CA) (ds : List D) (S : Sto) (Q : D → Sto → Prop) (E : Addr → Sto → Prop) (h : sp_Guild_see_house a ds S Q E) : ds.length = ["self", "a"].length := by
  obtain ⟨_, _, _, _, rfl, _⟩ := h; rfl
theorem read_Guild_see_house (K : PySem.W.Frag) (a : CA) (ds : List D) (S : Sto) (Q : D → Sto → Prop) (E : Addr → Sto → Prop) (h : sp_Guild_see_house a ds S Q E) : t_Guild_see_house K a (wishOf E) (endsOf Q) (dstart N_Guild_see_house ds) S := by
  obtain ⟨A, s, m, x, rfl, g, q1, q2⟩ := h
  simp only [t_Guild_see_house, N_Guild_see_house, dSeq, dIfS, dB, dOp, dVar, dCB, dCons, dNil, dRet, dRetN, dNext, dC, dAsg, dgN, dgT, dgSeq, dDrop, dCont, dAndT, dOrT, dNotT, dAndV, dOrV, dNotV, dIf, dIsN, dNotN, dNeg, dLst, dTup, dNewI, dCall, dMeth, dMake, dRaise, dFrz, dIsi, isiK, tyS, inst_NoneType_bool, inst_NoneType_int, inst_NoneType_str, inst_NoneType_list, inst_NoneType_tuple, inst_bool_bool, inst_bool_int, inst_bool_str, inst_bool_list, inst_bool_tuple, inst_int_bool, inst_int_int, inst_int_str, inst_int_list, inst_int_tuple, inst_str_bool, inst_str_int, inst_str_str, inst_str_list, inst_str_tuple, inst_list_bool, inst_list_int, inst_list_str, inst_list_list, inst_list_tuple, inst_tuple_bool, inst_tuple_int, inst_tuple_str, inst_tuple_list, inst_tuple_tuple, iiD, iiD0, subD, mulD, fdivD, modD, shrD, pow_10_6, pow_10_60, ltI, leI, gtI, geI, addI, addD, catD, scatD, lenD, lenS, ixD, ixL, ixLK, ixK, vl, vm, newL, i2D, absD, tupleD, dLM, dLM0, dFld, getF, dGet1, dGet2, getK, dSetIx, rng1, rng2, dFor1, dFor2, dFor, dForK, eqR, rs, dstart, List.map_cons, List.map_nil, List.length_cons, List.length_nil, List.cons_append, List.nil_append, List.replicate, List.getElem?_cons_zero, List.getElem?_cons_succ, List.set_cons_zero, List.set_cons_succ, Option.isSome_some, Option.isNone_some, Option.isNone_none, Nat.add_one_sub_one, Nat.reduceAdd, Nat.reduceSub, Nat.sub_self, Nat.sub_zero, Bool.not_true, Bool.not_false, ↓reduceIte, Bool.false_eq_true, Bool.true_eq_false, okD_int, okD_bl, okD_non, dEq_int, dEq_bl, Bool.true_xor, Bool.false_xor, Bool.not_eq_true', decide_eq_true_eq, decide_eq_false_iff_not, true_and, Bool.and_true, Bool.and_false, Bool.true_and, Bool.false_and, at_0, at_1, at_2, cast0, cast1, cast2, cast3, not_true_eq_false, not_false_eq_true, eL, Option.map_some, Option.map_none, dSlL, slk, doNone, doSome, sortedTD, dLenSet, lsk, g.g, onIns, gf_houses, gf_ties, gf_shy, gf_fond, gf_longings, gfm_see_house, gfm_see_two, gfm_size, gfm_neighbours, gfm_has_way, gfm_lay_way, gfm_lift_way, gfm_like, gfm_liking, gfm_shun, gfm_shunned, gfm_see_road, gfm_wish, gfm_wishes, gfm_rank_of, gp_houses, gp_ties, gp_shy, gp_fond, gp_longings]
  unfold GS.ok at q1 q2
  by_cases c : x < 0
  · rw [if_pos c]; exact wish_of (q2 (by omega))
  rw [if_neg c]
  by_cases c2 : (s.n : Int) ≤ x
  · rw [if_pos c2]; exact wish_of (q2 (by omega))
  · rw [if_neg c2]; exact nx_of (q1 (by omega))
theorem x_Guild_see_house {a : CA} {A : GA} {s : GS} {m : Nat} {x : Int} {S : Sto} {P : D → Sto → Prop} {E : Addr → Sto → Prop} (g : GAt a S A s m) (h1 : s.ok x → P .non S) (h2 : ¬ s.ok x → E a.NoHouse S) : sp_Guild_see_house a [.ref A.g, .int x] S P E :=
  ⟨A, s, m, x, rfl, g, h1, h2⟩
theorem x_ok_see_house {a : CA} {A : GA} {s : GS} {m : Nat} {x : Int} {S : Sto} {P : D → Sto → Prop} {E : Addr → Sto → Prop} (g : GAt a S A s m) (h : s.ok x) (h1 : P .non S) : sp_Guild_see_house a [.ref A.g, .int x] S P E :=
  ⟨A, s, m, x, rfl, g, fun _ => h1, fun z => absurd h z⟩

end DL
namespace DL
open PySem L2
def t_Guild_liking (K : PySem.W.Frag) (a : CA) (W : WD) : TDS :=
  (dSeq (dDrop (dMeth a.Guild "see_house" (sp_Guild_see_house a) W (dVar 0) (dCons (dVar 1) dNil)))
  (dSeq (dDrop (dMeth a.Guild "see_house" (sp_Guild_see_house a) W (dVar 0) (dCons (dVar 2) dNil)))
  (dRet (dGet2 (dFld a.Guild "fond" (dVar 0)) (dTup (dCons (dVar 1) (dCons (dVar 2) dNil))) (dC (.int 0))))))
abbrev N_Guild_liking : List Str := ["self", "a", "b"]
def sp_Guild_liking (a : CA) : DSp := fun ds S P E => ∃ (A : GA) (s : GS) (m : Nat) (x y : Int), ds = [.ref A.g, .int x, .int y] ∧ GAt a S A s m ∧ (s.ok x ∧ s.ok y → P (.int (s.F x y)) S) ∧ (¬ (s.ok x ∧ s.ok y) → E a.NoHouse S)
theorem len_Guild_liking (a : CA) (ds : List D) (S : Sto) (Q : D → Sto → Prop) (E : Addr → Sto → Prop) (h : sp_Guild_liking a ds S Q E) : ds.length = ["self", "a", "b"].length := by
  obtain ⟨_, _, _, _, _, rfl, _⟩ := h; rfl
theorem read_Guild_liking (K : PySem.W.Frag) (a : CA) (ds : List D) (S : Sto) (Q : D → Sto → Prop) (E : Addr → Sto → Prop) (h : sp_Guild_liking a ds S Q E) : t_Guild_liking K a (wishOf E) (endsOf Q) (dstart N_Guild_liking ds) S := by
  obtain ⟨A, s, m, x, y, rfl, g, q1, q2⟩ := h
  simp only [t_Guild_liking, N_Guild_liking, dSeq, dIfS, dB, dOp, dVar, dCB, dCons, dNil, dRet, dRetN, dNext, dC, dAsg, dgN, dgT, dgSeq, dDrop, dCont, dAndT, dOrT, dNotT, dAndV, dOrV, dNotV, dIf, dIsN, dNotN, dNeg, dLst, dTup, dNewI, dCall, dMeth, dMake, dRaise, dFrz, dIsi, isiK, tyS, inst_NoneType_bool, inst_NoneType_int, inst_NoneType_str, inst_NoneType_list, inst_NoneType_tuple, inst_bool_bool, inst_bool_int, inst_bool_str, inst_bool_list, inst_bool_tuple, inst_int_bool, inst_int_int, inst_int_str, inst_int_list, inst_int_tuple, inst_str_bool, inst_str_int, inst_str_str, inst_str_list, inst_str_tuple, inst_list_bool, inst_list_int, inst_list_str, inst_list_list, inst_list_tuple, inst_tuple_bool, inst_tuple_int, inst_tuple_str, inst_tuple_list, inst_tuple_tuple, iiD, iiD0, subD, mulD, fdivD, modD, shrD, pow_10_6, pow_10_60, ltI, leI, gtI, geI, addI, addD, catD, scatD, lenD, lenS, ixD, ixL, ixLK, ixK, vl, vm, newL, i2D, absD, tupleD, dLM, dLM0, dFld, getF, dGet1, dGet2, getK, dSetIx, rng1, rng2, dFor1, dFor2, dFor, dForK, eqR, rs, dstart, List.map_cons, List.map_nil, List.length_cons, List.length_nil, List.cons_append, List.nil_append, List.replicate, List.getElem?_cons_zero, List.getElem?_cons_succ, List.set_cons_zero, List.set_cons_succ, Option.isSome_some, Option.isNone_some, Option.isNone_none, Nat.add_one_sub_one, Nat.reduceAdd, Nat.reduceSub, Nat.sub_self, Nat.sub_zero, Bool.not_true, Bool.not_false, ↓reduceIte, Bool.false_eq_true, Bool.true_eq_false, okD_int, okD_bl, okD_non, dEq_int, dEq_bl, Bool.true_xor, Bool.false_xor, Bool.not_eq_true', decide_eq_true_eq, decide_eq_false_iff_not, true_and, Bool.and_true, Bool.and_false, Bool.true_and, Bool.false_and, at_0, at_1, at_2, cast0, cast1, cast2, cast3, not_true_eq_false, not_false_eq_true, eL, Option.map_some, Option.map_none, dSlL, slk, doNone, doSome, sortedTD, dLenSet, lsk, g.g, onIns, gf_houses, gf_ties, gf_shy, gf_fond, gf_longings, gfm_see_house, gfm_see_two, gfm_size, gfm_neighbours, gfm_has_way, gfm_lay_way, gfm_lift_way, gfm_like, gfm_liking, gfm_shun, gfm_shunned, gfm_see_road, gfm_wish, gfm_wishes, gfm_rank_of, gp_houses, gp_ties, gp_shy, gp_fond, gp_longings]
  refine x_Guild_see_house g (fun h1 => ?_) fun h1 => wish_of (q2 fun z => h1 z.1)
  simp only [g.g, onIns, gf_houses, gf_ties, gf_shy, gf_fond, gf_longings, gfm_see_house, gfm_see_two, gfm_size, gfm_neighbours, gfm_has_way, gfm_lay_way, gfm_lift_way, gfm_like, gfm_liking, gfm_shun, gfm_shunned, gfm_see_road, gfm_wish, gfm_wishes, gfm_rank_of, gp_houses, gp_ties, gp_shy, gp_fond, gp_longings, true_and]
  refine x_Guild_see_house g (fun h2 => ?_) fun h2 => wish_of (q2 fun z => h2 z.2)
  obtain ⟨fl, f1, f2, f3⟩ := g.f
  have e : dgetS S (.ref A.f) (.tup [.int x, .int y]) = some (dget fl [x, y]) := by simp only [dgetS, f1]; rfl
  simp only [g.g, onIns, gf_houses, gf_ties, gf_shy, gf_fond, gf_longings, gfm_see_house, gfm_see_two, gfm_size, gfm_neighbours, gfm_has_way, gfm_lay_way, gfm_lift_way, gfm_like, gfm_liking, gfm_shun, gfm_shunned, gfm_see_road, gfm_wish, gfm_wishes, gfm_rank_of, gp_houses, gp_ties, gp_shy, gp_fond, gp_longings, dSeq, dIfS, dB, dOp, dVar, dCB, dCons, dNil, dRet, dRetN, dNext, dC, dAsg, dgN, dgT, dgSeq, dDrop, dCont, dAndT, dOrT, dNotT, dAndV, dOrV, dNotV, dIf, dIsN, dNotN, dNeg, dLst, dTup, dNewI, dCall, dMeth, dMake, dRaise, dFrz, dIsi, isiK, tyS, inst_NoneType_bool, inst_NoneType_int, inst_NoneType_str, inst_NoneType_list, inst_NoneType_tuple, inst_bool_bool, inst_bool_int, inst_bool_str, inst_bool_list, inst_bool_tuple, inst_int_bool, inst_int_int, inst_int_str, inst_int_list, inst_int_tuple, inst_str_bool, inst_str_int, inst_str_str, inst_str_list, inst_str_tuple, inst_list_bool, inst_list_int, inst_list_str, inst_list_list, inst_list_tuple, inst_tuple_bool, inst_tuple_int, inst_tuple_str, inst_tuple_list, inst_tuple_tuple, iiD, iiD0, subD, mulD, fdivD, modD, shrD, pow_10_6, pow_10_60, ltI, leI, gtI, geI, addI, addD, catD, scatD, lenD, lenS, ixD, ixL, ixLK, ixK, vl, vm, newL, i2D, absD, tupleD, dLM, dLM0, dFld, getF, dGet1, dGet2, getK, dSetIx, rng1, rng2, dFor1, dFor2, dFor, dForK, eqR, rs, dstart, List.map_cons, List.map_nil, List.length_cons, List.length_nil, List.cons_append, List.nil_append, List.replicate, List.getElem?_cons_zero, List.getElem?_cons_succ, List.set_cons_zero, List.set_cons_succ, Option.isSome_some, Option.isNone_some, Option.isNone_none, Nat.add_one_sub_one, Nat.reduceAdd, Nat.reduceSub, Nat.sub_self, Nat.sub_zero, Bool.not_true, Bool.not_false, ↓reduceIte, Bool.false_eq_true, Bool.true_eq_false, okD_int, okD_bl, okD_non, dEq_int, dEq_bl, Bool.true_xor, Bool.false_xor, Bool.not_eq_true', decide_eq_true_eq, decide_eq_false_iff_not, true_and, Bool.and_true, Bool.and_false, Bool.true_and, Bool.false_and, at_0, at_1, at_2, cast0, cast1, cast2, cast3, not_true_eq_false, not_false_eq_true, eL, Option.map_some, Option.map_none, dSlL, slk, doNone, doSome, sortedTD, dLenSet, lsk, e, isDS, f1, f2]
  exact ⟨by decide, rt_of (q1 ⟨h1, h2⟩)⟩
theorem x_Guild_liking {a : CA} {A : GA} {s : GS} {m : Nat} {x y : Int} {S : Sto} {P : D → Sto → Prop} {E : Addr → Sto → Prop} (g : GAt a S A s m) (h1 : s.ok x) (h2 : s.ok y) (q : P (.int (s.F x y)) S) : sp_Guild_liking a [.ref A.g, .int x, .int y] S P E := ⟨A, s, m, x, y, rfl, g, fun _ => q, fun z => absurd ⟨h1, h2⟩ z⟩

end DL
namespace DL
open PySem L2
def t_Guild_see_road (K : PySem.W.Frag) (a : CA) (W : WD) : TDS :=
  (dSeq (dFor (dVar 1) (dgN 2)
    (dDrop (dMeth a.Guild "see_house" (sp_Guild_see_house a) W (dVar 0) (dCons (dVar 2) dNil))))
  (dIfS (dOrT (dB (dOp ltI (dCB lenD (dCons (dVar 1) dNil)) (dC (.int 2)))) (dOrT (dB (dOp (eqR true) (dOp ixD (dVar 1) (dNeg (dC (.int 1)))) (dC (.int 0)))) (dB (dOp (eqR true) (dLenSet (dVar 1)) (dCB lenD (dCons (dVar 1) dNil))))))
    (dRaise a.NoRoad W)
    dNext))
abbrev N_Guild_see_road : List Str := ["self", "road", "house"]
def sp_Guild_see_road (a : CA) : DSp := fun ds S P E => ∃ (A : GA) (s : GS) (m : Nat) (r : D) (l : List Int), ds = [.ref A.g, r] ∧ GAt a S A s m ∧ vm S r = some (l.map .int) ∧ l.length ≤ 4000 ∧
  (¬ (∀ x ∈ l, s.ok x) → E a.NoHouse S) ∧ ((∀ x ∈ l, s.ok x) → ¬ s.rd l → E a.NoRoad S) ∧ (s.rok l → P .non S)
theorem len_Guild_see_road (a : CA) (ds : List D) (S : Sto) (Q : D → Sto → Prop) (E : Addr → Sto → Prop) (h : sp_Guild_see_road a ds S Q E) : ds.length = ["self", "road"].length := by
  obtain ⟨_, _, _, _, _, rfl, _⟩ := h; rfl
theorem read_Guild_see_road (K : PySem.W.Frag) (a : CA) (ds : List D) (S : Sto) (Q : D → Sto → Prop) (E : Addr → Sto → Prop) (h : sp_Guild_see_road a ds S Q E) : t_Guild_see_road K a (wishOf E) (endsOf Q) (dstart N_Guild_see_road ds) S := by
  obtain ⟨A, s, m, r, l, rfl, g, hr, hl, q1, q2, q3⟩ := h
  have hv := vm_vl hr
  have e1 : kInts (l.map D.int) = some l := kInts_map l
  simp only [t_Guild_see_road, N_Guild_see_road, dSeq, dFor, dVar, List.getElem?_cons_zero, List.getElem?_cons_succ, dstart, List.map_cons, List.map_nil, List.length_cons, List.length_nil, List.cons_append, List.nil_append, List.replicate, hv, dForK, Nat.reduceAdd, Nat.reduceSub]
  have hfin : ∀ (o : Option D), (∀ x ∈ l, s.ok x) → dIfS (dOrT (dB (dOp ltI (dCB lenD (dCons (dVar 1) dNil)) (dC (D.int 2)))) (dOrT (dB (dOp (eqR true) (dOp ixD (dVar 1) (dNeg (dC (D.int 1)))) (dC (D.int 0)))) (dB (dOp (eqR true) (dLenSet (dVar 1)) (dCB lenD (dCons (dVar 1) dNil)))))) (dRaise a.NoRoad (wishOf E)) dNext (endsOf Q) [some (.ref A.g), some r, o] S := by
    intro o ha
    have hq2 := q2 ha
    by_cases c : l.length < 2
    · have hn : E a.NoRoad S := hq2 fun z => by have := z.1; omega
      rcases vm_cases hr with rfl | ⟨p, rfl, er⟩
      all_goals
        first | simp only [dSeq, dIfS, dB, dOp, dVar, dCB, dCons, dNil, dRet, dRetN, dNext, dC, dAsg, dgN, dgT, dgSeq, dDrop, dCont, dAndT, dOrT, dNotT, dAndV, dOrV, dNotV, dIf, dIsN, dNotN, dNeg, dLst, dTup, dNewI, dCall, dMeth, dMake, dRaise, dFrz, dIsi, isiK, tyS, inst_NoneType_bool, inst_NoneType_int, inst_NoneType_str, inst_NoneType_list, inst_NoneType_tuple, inst_bool_bool, inst_bool_int, inst_bool_str, inst_bool_list, inst_bool_tuple, inst_int_bool, inst_int_int, inst_int_str, inst_int_list, inst_int_tuple, inst_str_bool, inst_str_int, inst_str_str, inst_str_list, inst_str_tuple, inst_list_bool, inst_list_int, inst_list_str, inst_list_list, inst_list_tuple, inst_tuple_bool, inst_tuple_int, inst_tuple_str, inst_tuple_list, inst_tuple_tuple, iiD, iiD0, subD, mulD, fdivD, modD, shrD, pow_10_6, pow_10_60, ltI, leI, gtI, geI, addI, addD, catD, scatD, lenD, lenS, ixD, ixL, ixLK, ixK, vl, vm, newL, i2D, absD, tupleD, dLM, dLM0, dFld, getF, dGet1, dGet2, getK, dSetIx, rng1, rng2, dFor1, dFor2, dFor, dForK, eqR, rs, dstart, List.map_cons, List.map_nil, List.length_cons, List.length_nil, List.cons_append, List.nil_append, List.replicate, List.getElem?_cons_zero, List.getElem?_cons_succ, List.set_cons_zero, List.set_cons_succ, Option.isSome_some, Option.isNone_some, Option.isNone_none, Nat.add_one_sub_one, Nat.reduceAdd, Nat.reduceSub, Nat.sub_self, Nat.sub_zero, Bool.not_true, Bool.not_false, ↓reduceIte, Bool.false_eq_true, Bool.true_eq_false, okD_int, okD_bl, okD_non, dEq_int, dEq_bl, Bool.true_xor, Bool.false_xor, Bool.not_eq_true', decide_eq_true_eq, decide_eq_false_iff_not, true_and, Bool.and_true, Bool.and_false, Bool.true_and, Bool.false_and, at_0, at_1, at_2, cast0, cast1, cast2, cast3, not_true_eq_false, not_false_eq_true, eL, Option.map_some, Option.map_none, dSlL, slk, doNone, doSome, sortedTD, dLenSet, lsk, er, e1] | simp only [dSeq, dIfS, dB, dOp, dVar, dCB, dCons, dNil, dRet, dRetN, dNext, dC, dAsg, dgN, dgT, dgSeq, dDrop, dCont, dAndT, dOrT, dNotT, dAndV, dOrV, dNotV, dIf, dIsN, dNotN, dNeg, dLst, dTup, dNewI, dCall, dMeth, dMake, dRaise, dFrz, dIsi, isiK, tyS, inst_NoneType_bool, inst_NoneType_int, inst_NoneType_str, inst_NoneType_list, inst_NoneType_tuple, inst_bool_bool, inst_bool_int, inst_bool_str, inst_bool_list, inst_bool_tuple, inst_int_bool, inst_int_int, inst_int_str, inst_int_list, inst_int_tuple, inst_str_bool, inst_str_int, inst_str_str, inst_str_list, inst_str_tuple, inst_list_bool, inst_list_int, inst_list_str, inst_list_list, inst_list_tuple, inst_tuple_bool, inst_tuple_int, inst_tuple_str, inst_tuple_list, inst_tuple_tuple, iiD, iiD0, subD, mulD, fdivD, modD, shrD, pow_10_6, pow_10_60, ltI, leI, gtI, geI, addI, addD, catD, scatD, lenD, lenS, ixD, ixL, ixLK, ixK, vl, vm, newL, i2D, absD, tupleD, dLM, dLM0, dFld, getF, dGet1, dGet2, getK, dSetIx, rng1, rng2, dFor1, dFor2, dFor, dForK, eqR, rs, dstart, List.map_cons, List.map_nil, List.length_cons, List.length_nil, List.cons_append, List.nil_append, List.replicate, List.getElem?_cons_zero, List.getElem?_cons_succ, List.set_cons_zero, List.set_cons_succ, Option.isSome_some, Option.isNone_some, Option.isNone_none, Nat.add_one_sub_one, Nat.reduceAdd, Nat.reduceSub, Nat.sub_self, Nat.sub_zero, Bool.not_true, Bool.not_false, ↓reduceIte, Bool.false_eq_true, Bool.true_eq_false, okD_int, okD_bl, okD_non, dEq_int, dEq_bl, Bool.true_xor, Bool.false_xor, Bool.not_eq_true', decide_eq_true_eq, decide_eq_false_iff_not, true_and, Bool.and_true, Bool.and_false, Bool.true_and, Bool.false_and, at_0, at_1, at_2, cast0, cast1, cast2, cast3, not_true_eq_false, not_false_eq_true, eL, Option.map_some, Option.map_none, dSlL, slk, doNone, doSome, sortedTD, dLenSet, lsk, e1]
        rw [if_pos (by rw [List.length_map]; omega)]
        exact wish_of hn
    · have hne : l ≠ [] := fun z => by rw [z] at c; simp at c
      have ea : atI (l.map D.int) (-1) = some (.int (l.getLast hne)) := by rw [atI_map, atI_last hne]; rfl
      rcases vm_cases hr with rfl | ⟨p, rfl, er⟩
      all_goals
        first | simp only [dSeq, dIfS, dB, dOp, dVar, dCB, dCons, dNil, dRet, dRetN, dNext, dC, dAsg, dgN, dgT, dgSeq, dDrop, dCont, dAndT, dOrT, dNotT, dAndV, dOrV, dNotV, dIf, dIsN, dNotN, dNeg, dLst, dTup, dNewI, dCall, dMeth, dMake, dRaise, dFrz, dIsi, isiK, tyS, inst_NoneType_bool, inst_NoneType_int, inst_NoneType_str, inst_NoneType_list, inst_NoneType_tuple, inst_bool_bool, inst_bool_int, inst_bool_str, inst_bool_list, inst_bool_tuple, inst_int_bool, inst_int_int, inst_int_str, inst_int_list, inst_int_tuple, inst_str_bool, inst_str_int, inst_str_str, inst_str_list, inst_str_tuple, inst_list_bool, inst_list_int, inst_list_str, inst_list_list, inst_list_tuple, inst_tuple_bool, inst_tuple_int, inst_tuple_str, inst_tuple_list, inst_tuple_tuple, iiD, iiD0, subD, mulD, fdivD, modD, shrD, pow_10_6, pow_10_60, ltI, leI, gtI, geI, addI, addD, catD, scatD, lenD, lenS, ixD, ixL, ixLK, ixK, vl, vm, newL, i2D, absD, tupleD, dLM, dLM0, dFld, getF, dGet1, dGet2, getK, dSetIx, rng1, rng2, dFor1, dFor2, dFor, dForK, eqR, rs, dstart, List.map_cons, List.map_nil, List.length_cons, List.length_nil, List.cons_append, List.nil_append, List.replicate, List.getElem?_cons_zero, List.getElem?_cons_succ, List.set_cons_zero, List.set_cons_succ, Option.isSome_some, Option.isNone_some, Option.isNone_none, Nat.add_one_sub_one, Nat.reduceAdd, Nat.reduceSub, Nat.sub_self, Nat.sub_zero, Bool.not_true, Bool.not_false, ↓reduceIte, Bool.false_eq_true, Bool.true_eq_false, okD_int, okD_bl, okD_non, dEq_int, dEq_bl, Bool.true_xor, Bool.false_xor, Bool.not_eq_true', decide_eq_true_eq, decide_eq_false_iff_not, true_and, Bool.and_true, Bool.and_false, Bool.true_and, Bool.false_and, at_0, at_1, at_2, cast0, cast1, cast2, cast3, not_true_eq_false, not_false_eq_true, eL, Option.map_some, Option.map_none, dSlL, slk, doNone, doSome, sortedTD, dLenSet, lsk, er, ea, e1, Option.bind_some] | simp only [dSeq, dIfS, dB, dOp, dVar, dCB, dCons, dNil, dRet, dRetN, dNext, dC, dAsg, dgN, dgT, dgSeq, dDrop, dCont, dAndT, dOrT, dNotT, dAndV, dOrV, dNotV, dIf, dIsN, dNotN, dNeg, dLst, dTup, dNewI, dCall, dMeth, dMake, dRaise, dFrz, dIsi, isiK, tyS, inst_NoneType_bool, inst_NoneType_int, inst_NoneType_str, inst_NoneType_list, inst_NoneType_tuple, inst_bool_bool, inst_bool_int, inst_bool_str, inst_bool_list, inst_bool_tuple, inst_int_bool, inst_int_int, inst_int_str, inst_int_list, inst_int_tuple, inst_str_bool, inst_str_int, inst_str_str, inst_str_list, inst_str_tuple, inst_list_bool, inst_list_int, inst_list_str, inst_list_list, inst_list_tuple, inst_tuple_bool, inst_tuple_int, inst_tuple_str, inst_tuple_list, inst_tuple_tuple, iiD, iiD0, subD, mulD, fdivD, modD, shrD, pow_10_6, pow_10_60, ltI, leI, gtI, geI, addI, addD, catD, scatD, lenD, lenS, ixD, ixL, ixLK, ixK, vl, vm, newL, i2D, absD, tupleD, dLM, dLM0, dFld, getF, dGet1, dGet2, getK, dSetIx, rng1, rng2, dFor1, dFor2, dFor, dForK, eqR, rs, dstart, List.map_cons, List.map_nil, List.length_cons, List.length_nil, List.cons_append, List.nil_append, List.replicate, List.getElem?_cons_zero, List.getElem?_cons_succ, List.set_cons_zero, List.set_cons_succ, Option.isSome_some, Option.isNone_some, Option.isNone_none, Nat.add_one_sub_one, Nat.reduceAdd, Nat.reduceSub, Nat.sub_self, Nat.sub_zero, Bool.not_true, Bool.not_false, ↓reduceIte, Bool.false_eq_true, Bool.true_eq_false, okD_int, okD_bl, okD_non, dEq_int, dEq_bl, Bool.true_xor, Bool.false_xor, Bool.not_eq_true', decide_eq_true_eq, decide_eq_false_iff_not, true_and, Bool.and_true, Bool.and_false, Bool.true_and, Bool.false_and, at_0, at_1, at_2, cast0, cast1, cast2, cast3, not_true_eq_false, not_false_eq_true, eL, Option.map_some, Option.map_none, dSlL, slk, doNone, doSome, sortedTD, dLenSet, lsk, ea, e1, Option.bind_some]
        rw [if_neg (by rw [List.length_map]; omega)]
        by_cases c2 : l.getLast hne = 0
        · rw [if_neg (not_not_intro c2)]
          refine ⟨hl, ?_⟩
          by_cases c3 : l.Nodup
          · rw [if_neg (not_not_intro (by rw [ddN_nodup c3, List.length_map]))]
            exact nx_of (q3 ⟨ha, by omega, by rw [List.getLast?_eq_some_getLast hne, c2], c3⟩)
          · rw [if_pos fun z => c3 ((ddN_iff l).mp (by rw [List.length_map] at z; omega))]
            exact wish_of (hq2 fun z => c3 z.2.2)
        · rw [if_pos c2]
          exact wish_of (hq2 fun z => c2 (by have := z.2.1; rw [List.getLast?_eq_some_getLast hne] at this; exact Option.some.inj this))
  refine dGo_map (f := D.int) (fun rest ρ S' => S' = S ∧ (∃ o, ρ = [some (.ref A.g), some r, o]) ∧ ∃ pre, l = pre ++ rest ∧ ∀ x ∈ pre, s.ok x) ?_ ?_ _ _ _ ⟨rfl, ⟨_, rfl⟩, [], rfl, fun x hx => by cases hx⟩
  · rintro ρ S' ⟨rfl, ⟨o, rfl⟩, pre, e, hp⟩
    rw [List.append_nil] at e
    exact ⟨hv, hfin o (by rw [e]; exact hp)⟩
  · rintro x rest ρ S' N ⟨rfl, ⟨o, rfl⟩, pre, e, hp⟩ hN
    refine ⟨hv, ?_⟩
    simp only [dSeq, dIfS, dB, dOp, dVar, dCB, dCons, dNil, dRet, dRetN, dNext, dC, dAsg, dgN, dgT, dgSeq, dDrop, dCont, dAndT, dOrT, dNotT, dAndV, dOrV, dNotV, dIf, dIsN, dNotN, dNeg, dLst, dTup, dNewI, dCall, dMeth, dMake, dRaise, dFrz, dIsi, isiK, tyS, inst_NoneType_bool, inst_NoneType_int, inst_NoneType_str, inst_NoneType_list, inst_NoneType_tuple, inst_bool_bool, inst_bool_int, inst_bool_str, inst_bool_list, inst_bool_tuple, inst_int_bool, inst_int_int, inst_int_str, inst_int_list, inst_int_tuple, inst_str_bool, inst_str_int, inst_str_str, inst_str_list, inst_str_tuple, inst_list_bool, inst_list_int, inst_list_str, inst_list_list, inst_list_tuple, inst_tuple_bool, inst_tuple_int, inst_tuple_str, inst_tuple_list, inst_tuple_tuple, iiD, iiD0, subD, mulD, fdivD, modD, shrD, pow_10_6, pow_10_60, ltI, leI, gtI, geI, addI, addD, catD, scatD, lenD, lenS, ixD, ixL, ixLK, ixK, vl, vm, newL, i2D, absD, tupleD, dLM, dLM0, dFld, getF, dGet1, dGet2, getK, dSetIx, rng1, rng2, dFor1, dFor2, dFor, dForK, eqR, rs, dstart, List.map_cons, List.map_nil, List.length_cons, List.length_nil, List.cons_append, List.nil_append, List.replicate, List.getElem?_cons_zero, List.getElem?_cons_succ, List.set_cons_zero, List.set_cons_succ, Option.isSome_some, Option.isNone_some, Option.isNone_none, Nat.add_one_sub_one, Nat.reduceAdd, Nat.reduceSub, Nat.sub_self, Nat.sub_zero, Bool.not_true, Bool.not_false, ↓reduceIte, Bool.false_eq_true, Bool.true_eq_false, okD_int, okD_bl, okD_non, dEq_int, dEq_bl, Bool.true_xor, Bool.false_xor, Bool.not_eq_true', decide_eq_true_eq, decide_eq_false_iff_not, true_and, Bool.and_true, Bool.and_false, Bool.true_and, Bool.false_and, at_0, at_1, at_2, cast0, cast1, cast2, cast3, not_true_eq_false, not_false_eq_true, eL, Option.map_some, Option.map_none, dSlL, slk, doNone, doSome, sortedTD, dLenSet, lsk, g.g, onIns, gf_houses, gf_ties, gf_shy, gf_fond, gf_longings, gfm_see_house, gfm_see_two, gfm_size, gfm_neighbours, gfm_has_way, gfm_lay_way, gfm_lift_way, gfm_like, gfm_liking, gfm_shun, gfm_shunned, gfm_see_road, gfm_wish, gfm_wishes, gfm_rank_of, gp_houses, gp_ties, gp_shy, gp_fond, gp_longings]
    refine x_Guild_see_house g (fun h1 => ?_) fun h1 => wish_of (q1 fun z => h1 (z x (by rw [e]; simp)))
    exact hN _ _ ⟨rfl, ⟨_, rfl⟩, pre ++ [x], by rw [e]; simp, fun y hy => by
      rcases List.mem_append.mp hy with hy | hy
      · exact hp y hy
      · rw [List.mem_singleton.mp hy]; exact h1⟩
theorem x_Guild_see_road {a : CA} {A : GA} {s : GS} {m : Nat} {r : D} {l : List Int} {S : Sto} {P : D → Sto → Prop} {E : Addr → Sto → Prop} (g : GAt a S A s m) (hr : vm S r = some (l.map .int)) (hl : l.length ≤ 4000) (h : s.rok l) (q : P .non S) : sp_Guild_see_road a [.ref A.g, r] S P E :=
  ⟨A, s, m, r, l, rfl, g, hr, hl, fun z => absurd h.1 z, fun _ z => absurd h.2 z, fun _ => q⟩

end DL
namespace DL
open PySem L2
def t_Guild_rank_of (K : PySem.W.Frag) (a : CA) (W : WD) : TDS :=
  (dSeq (dDrop (dMeth a.Guild "see_road" (sp_Guild_see_road a) W (dVar 0) (dCons (dVar 1) dNil)))
  (dSeq (dAsg (dCB tupleD (dCons (dVar 1) dNil)) (dgN 2))
  (dSeq (dIfS (dB (dOp (inR false) (dVar 2) (dFld a.Guild "longings" (dVar 0))))
    (dRet (dOp ixD (dFld a.Guild "longings" (dVar 0)) (dVar 2)))
    dNext)
  (dRet (dMeth a.Guild "liking" (sp_Guild_liking a) W (dVar 0) (dCons (dOp ixD (dVar 1) (dC (.int 0))) (dCons (dOp ixD (dVar 1) (dC (.int 1))) dNil)))))))
abbrev N_Guild_rank_of : List Str := ["self", "road", "key"]
def sp_Guild_rank_of (a : CA) : DSp := fun ds S P E => ∃ (A : GA) (s : GS) (m : Nat) (r : D) (l : List Int), ds = [.ref A.g, r] ∧ GAt a S A s m ∧ vm S r = some (l.map .int) ∧ l.length ≤ 4000 ∧
  (¬ (∀ x ∈ l, s.ok x) → E a.NoHouse S) ∧ ((∀ x ∈ l, s.ok x) → ¬ s.rd l → E a.NoRoad S) ∧ (s.rok l → P (.int (s.rank l)) S)
theorem len_Guild_rank_of (a : CA) (ds : List D) (S : Sto) (Q : D → Sto → Prop) (E : Addr → Sto → Prop) (h : sp_Guild_rank_of a ds S Q E) : ds.length = ["self", "road"].length := by
  obtain ⟨_, _, _, _, _, rfl, _⟩ := h; rfl
theorem read_Guild_rank_of (K : PySem.W.Frag) (a : CA) (ds : List D) (S : Sto) (Q : D → Sto → Prop) (E : Addr → Sto → Prop) (h : sp_Guild_rank_of a ds S Q E) : t_Guild_rank_of K a (wishOf E) (endsOf Q) (dstart N_Guild_rank_of ds) S := by
  obtain ⟨A, s, m, r, l, rfl, g, hr, hl, q1, q2, q3⟩ := h
  rcases vm_cases hr with rfl | ⟨p, rfl, er⟩
  all_goals
    simp only [t_Guild_rank_of, N_Guild_rank_of, dSeq, dIfS, dB, dOp, dVar, dCB, dCons, dNil, dRet, dRetN, dNext, dC, dAsg, dgN, dgT, dgSeq, dDrop, dCont, dAndT, dOrT, dNotT, dAndV, dOrV, dNotV, dIf, dIsN, dNotN, dNeg, dLst, dTup, dNewI, dCall, dMeth, dMake, dRaise, dFrz, dIsi, isiK, tyS, inst_NoneType_bool, inst_NoneType_int, inst_NoneType_str, inst_NoneType_list, inst_NoneType_tuple, inst_bool_bool, inst_bool_int, inst_bool_str, inst_bool_list, inst_bool_tuple, inst_int_bool, inst_int_int, inst_int_str, inst_int_list, inst_int_tuple, inst_str_bool, inst_str_int, inst_str_str, inst_str_list, inst_str_tuple, inst_list_bool, inst_list_int, inst_list_str, inst_list_list, inst_list_tuple, inst_tuple_bool, inst_tuple_int, inst_tuple_str, inst_tuple_list, inst_tuple_tuple, iiD, iiD0, subD, mulD, fdivD, modD, shrD, pow_10_6, pow_10_60, ltI, leI, gtI, geI, addI, addD, catD, scatD, lenD, lenS, ixD, ixL, ixLK, ixK, vl, vm, newL, i2D, absD, tupleD, dLM, dLM0, dFld, getF, dGet1, dGet2, getK, dSetIx, rng1, rng2, dFor1, dFor2, dFor, dForK, eqR, rs, dstart, List.map_cons, List.map_nil, List.length_cons, List.length_nil, List.cons_append, List.nil_append, List.replicate, List.getElem?_cons_zero, List.getElem?_cons_succ, List.set_cons_zero, List.set_cons_succ, Option.isSome_some, Option.isNone_some, Option.isNone_none, Nat.add_one_sub_one, Nat.reduceAdd, Nat.reduceSub, Nat.sub_self, Nat.sub_zero, Bool.not_true, Bool.not_false, ↓reduceIte, Bool.false_eq_true, Bool.true_eq_false, okD_int, okD_bl, okD_non, dEq_int, dEq_bl, Bool.true_xor, Bool.false_xor, Bool.not_eq_true', decide_eq_true_eq, decide_eq_false_iff_not, true_and, Bool.and_true, Bool.and_false, Bool.true_and, Bool.false_and, at_0, at_1, at_2, cast0, cast1, cast2, cast3, not_true_eq_false, not_false_eq_true, eL, Option.map_some, Option.map_none, dSlL, slk, doNone, doSome, sortedTD, dLenSet, lsk, g.g, onIns, gf_houses, gf_ties, gf_shy, gf_fond, gf_longings, gfm_see_house, gfm_see_two, gfm_size, gfm_neighbours, gfm_has_way, gfm_lay_way, gfm_lift_way, gfm_like, gfm_liking, gfm_shun, gfm_shunned, gfm_see_road, gfm_wish, gfm_wishes, gfm_rank_of, gp_houses, gp_ties, gp_shy, gp_fond, gp_longings]
    refine ⟨A, s, m, _, l, rfl, g, hr, hl, fun h => wish_of (q1 h), fun h h' => wish_of (q2 h h'), fun h => ?_⟩
    have q := q3 h
    have e : dgetS S (.ref A.l) (.tup (l.map .int)) = some ((kget s.L l).map .int) := by simp only [dgetS, g.l, kI, kInts_map, Option.map_some, dget_kv]
    have h2 := h.2.1
    unfold GS.rank at q
    have i0 : atI (l.map D.int) 0 = some (.int (l.getD 0 0)) := by rw [atI_tab D.int l (by decide) (by omega), List.getD_eq_getElem?_getD, List.getElem?_eq_getElem (by omega)]; rfl
    have i1 : atI (l.map D.int) 1 = some (.int (l.getD 1 0)) := by rw [atI_tab D.int l (by decide) (by omega), List.getD_eq_getElem?_getD, List.getElem?_eq_getElem (by omega)]; rfl
    have o0 : s.ok (l.getD 0 0) := h.1 _ (by rw [List.getD_eq_getElem?_getD, List.getElem?_eq_getElem (by omega)]; exact List.getElem_mem _)
    have o1 : s.ok (l.getD 1 0) := h.1 _ (by rw [List.getD_eq_getElem?_getD, List.getElem?_eq_getElem (by omega)]; exact List.getElem_mem _)
    cases c : kget s.L l with
    | some k =>
      rw [c] at e q
      first | simp only [g.g, g.l, onIns, gf_houses, gf_ties, gf_shy, gf_fond, gf_longings, gfm_see_house, gfm_see_two, gfm_size, gfm_neighbours, gfm_has_way, gfm_lay_way, gfm_lift_way, gfm_like, gfm_liking, gfm_shun, gfm_shunned, gfm_see_road, gfm_wish, gfm_wishes, gfm_rank_of, gp_houses, gp_ties, gp_shy, gp_fond, gp_longings, dSeq, dIfS, dB, dOp, dVar, dCB, dCons, dNil, dRet, dRetN, dNext, dC, dAsg, dgN, dgT, dgSeq, dDrop, dCont, dAndT, dOrT, dNotT, dAndV, dOrV, dNotV, dIf, dIsN, dNotN, dNeg, dLst, dTup, dNewI, dCall, dMeth, dMake, dRaise, dFrz, dIsi, isiK, tyS, inst_NoneType_bool, inst_NoneType_int, inst_NoneType_str, inst_NoneType_list, inst_NoneType_tuple, inst_bool_bool, inst_bool_int, inst_bool_str, inst_bool_list, inst_bool_tuple, inst_int_bool, inst_int_int, inst_int_str, inst_int_list, inst_int_tuple, inst_str_bool, inst_str_int, inst_str_str, inst_str_list, inst_str_tuple, inst_list_bool, inst_list_int, inst_list_str, inst_list_list, inst_list_tuple, inst_tuple_bool, inst_tuple_int, inst_tuple_str, inst_tuple_list, inst_tuple_tuple, iiD, iiD0, subD, mulD, fdivD, modD, shrD, pow_10_6, pow_10_60, ltI, leI, gtI, geI, addI, addD, catD, scatD, lenD, lenS, ixD, ixL, ixLK, ixK, vl, vm, newL, i2D, absD, tupleD, dLM, dLM0, dFld, getF, dGet1, dGet2, getK, dSetIx, rng1, rng2, dFor1, dFor2, dFor, dForK, eqR, rs, dstart, List.map_cons, List.map_nil, List.length_cons, List.length_nil, List.cons_append, List.nil_append, List.replicate, List.getElem?_cons_zero, List.getElem?_cons_succ, List.set_cons_zero, List.set_cons_succ, Option.isSome_some, Option.isNone_some, Option.isNone_none, Nat.add_one_sub_one, Nat.reduceAdd, Nat.reduceSub, Nat.sub_self, Nat.sub_zero, Bool.not_true, Bool.not_false, ↓reduceIte, Bool.false_eq_true, Bool.true_eq_false, okD_int, okD_bl, okD_non, dEq_int, dEq_bl, Bool.true_xor, Bool.false_xor, Bool.not_eq_true', decide_eq_true_eq, decide_eq_false_iff_not, true_and, Bool.and_true, Bool.and_false, Bool.true_and, Bool.false_and, at_0, at_1, at_2, cast0, cast1, cast2, cast3, not_true_eq_false, not_false_eq_true, eL, Option.map_some, Option.map_none, dSlL, slk, doNone, doSome, sortedTD, dLenSet, lsk, inR, inL, inK, e, er, true_and] | simp only [g.g, g.l, onIns, gf_houses, gf_ties, gf_shy, gf_fond, gf_longings, gfm_see_house, gfm_see_two, gfm_size, gfm_neighbours, gfm_has_way, gfm_lay_way, gfm_lift_way, gfm_like, gfm_liking, gfm_shun, gfm_shunned, gfm_see_road, gfm_wish, gfm_wishes, gfm_rank_of, gp_houses, gp_ties, gp_shy, gp_fond, gp_longings, dSeq, dIfS, dB, dOp, dVar, dCB, dCons, dNil, dRet, dRetN, dNext, dC, dAsg, dgN, dgT, dgSeq, dDrop, dCont, dAndT, dOrT, dNotT, dAndV, dOrV, dNotV, dIf, dIsN, dNotN, dNeg, dLst, dTup, dNewI, dCall, dMeth, dMake, dRaise, dFrz, dIsi, isiK, tyS, inst_NoneType_bool, inst_NoneType_int, inst_NoneType_str, inst_NoneType_list, inst_NoneType_tuple, inst_bool_bool, inst_bool_int, inst_bool_str, inst_bool_list, inst_bool_tuple, inst_int_bool, inst_int_int, inst_int_str, inst_int_list, inst_int_tuple, inst_str_bool, inst_str_int, inst_str_str, inst_str_list, inst_str_tuple, inst_list_bool, inst_list_int, inst_list_str, inst_list_list, inst_list_tuple, inst_tuple_bool, inst_tuple_int, inst_tuple_str, inst_tuple_list, inst_tuple_tuple, iiD, iiD0, subD, mulD, fdivD, modD, shrD, pow_10_6, pow_10_60, ltI, leI, gtI, geI, addI, addD, catD, scatD, lenD, lenS, ixD, ixL, ixLK, ixK, vl, vm, newL, i2D, absD, tupleD, dLM, dLM0, dFld, getF, dGet1, dGet2, getK, dSetIx, rng1, rng2, dFor1, dFor2, dFor, dForK, eqR, rs, dstart, List.map_cons, List.map_nil, List.length_cons, List.length_nil, List.cons_append, List.nil_append, List.replicate, List.getElem?_cons_zero, List.getElem?_cons_succ, List.set_cons_zero, List.set_cons_succ, Option.isSome_some, Option.isNone_some, Option.isNone_none, Nat.add_one_sub_one, Nat.reduceAdd, Nat.reduceSub, Nat.sub_self, Nat.sub_zero, Bool.not_true, Bool.not_false, ↓reduceIte, Bool.false_eq_true, Bool.true_eq_false, okD_int, okD_bl, okD_non, dEq_int, dEq_bl, Bool.true_xor, Bool.false_xor, Bool.not_eq_true', decide_eq_true_eq, decide_eq_false_iff_not, true_and, Bool.and_true, Bool.and_false, Bool.true_and, Bool.false_and, at_0, at_1, at_2, cast0, cast1, cast2, cast3, not_true_eq_false, not_false_eq_true, eL, Option.map_some, Option.map_none, dSlL, slk, doNone, doSome, sortedTD, dLenSet, lsk, inR, inL, inK, e, true_and]
      exact rt_of q
    | none =>
      rw [c] at e q
      first | simp only [g.g, g.l, onIns, gf_houses, gf_ties, gf_shy, gf_fond, gf_longings, gfm_see_house, gfm_see_two, gfm_size, gfm_neighbours, gfm_has_way, gfm_lay_way, gfm_lift_way, gfm_like, gfm_liking, gfm_shun, gfm_shunned, gfm_see_road, gfm_wish, gfm_wishes, gfm_rank_of, gp_houses, gp_ties, gp_shy, gp_fond, gp_longings, dSeq, dIfS, dB, dOp, dVar, dCB, dCons, dNil, dRet, dRetN, dNext, dC, dAsg, dgN, dgT, dgSeq, dDrop, dCont, dAndT, dOrT, dNotT, dAndV, dOrV, dNotV, dIf, dIsN, dNotN, dNeg, dLst, dTup, dNewI, dCall, dMeth, dMake, dRaise, dFrz, dIsi, isiK, tyS, inst_NoneType_bool, inst_NoneType_int, inst_NoneType_str, inst_NoneType_list, inst_NoneType_tuple, inst_bool_bool, inst_bool_int, inst_bool_str, inst_bool_list, inst_bool_tuple, inst_int_bool, inst_int_int, inst_int_str, inst_int_list, inst_int_tuple, inst_str_bool, inst_str_int, inst_str_str, inst_str_list, inst_str_tuple, inst_list_bool, inst_list_int, inst_list_str, inst_list_list, inst_list_tuple, inst_tuple_bool, inst_tuple_int, inst_tuple_str, inst_tuple_list, inst_tuple_tuple, iiD, iiD0, subD, mulD, fdivD, modD, shrD, pow_10_6, pow_10_60, ltI, leI, gtI, geI, addI, addD, catD, scatD, lenD, lenS, ixD, ixL, ixLK, ixK, vl, vm, newL, i2D, absD, tupleD, dLM, dLM0, dFld, getF, dGet1, dGet2, getK, dSetIx, rng1, rng2, dFor1, dFor2, dFor, dForK, eqR, rs, dstart, List.map_cons, List.map_nil, List.length_cons, List.length_nil, List.cons_append, List.nil_append, List.replicate, List.getElem?_cons_zero, List.getElem?_cons_succ, List.set_cons_zero, List.set_cons_succ, Option.isSome_some, Option.isNone_some, Option.isNone_none, Nat.add_one_sub_one, Nat.reduceAdd, Nat.reduceSub, Nat.sub_self, Nat.sub_zero, Bool.not_true, Bool.not_false, ↓reduceIte, Bool.false_eq_true, Bool.true_eq_false, okD_int, okD_bl, okD_non, dEq_int, dEq_bl, Bool.true_xor, Bool.false_xor, Bool.not_eq_true', decide_eq_true_eq, decide_eq_false_iff_not, true_and, Bool.and_true, Bool.and_false, Bool.true_and, Bool.false_and, at_0, at_1, at_2, cast0, cast1, cast2, cast3, not_true_eq_false, not_false_eq_true, eL, Option.map_some, Option.map_none, dSlL, slk, doNone, doSome, sortedTD, dLenSet, lsk, inR, inL, inK, e, er, i0, i1, true_and] | simp only [g.g, g.l, onIns, gf_houses, gf_ties, gf_shy, gf_fond, gf_longings, gfm_see_house, gfm_see_two, gfm_size, gfm_neighbours, gfm_has_way, gfm_lay_way, gfm_lift_way, gfm_like, gfm_liking, gfm_shun, gfm_shunned, gfm_see_road, gfm_wish, gfm_wishes, gfm_rank_of, gp_houses, gp_ties, gp_shy, gp_fond, gp_longings, dSeq, dIfS, dB, dOp, dVar, dCB, dCons, dNil, dRet, dRetN, dNext, dC, dAsg, dgN, dgT, dgSeq, dDrop, dCont, dAndT, dOrT, dNotT, dAndV, dOrV, dNotV, dIf, dIsN, dNotN, dNeg, dLst, dTup, dNewI, dCall, dMeth, dMake, dRaise, dFrz, dIsi, isiK, tyS, inst_NoneType_bool, inst_NoneType_int, inst_NoneType_str, inst_NoneType_list, inst_NoneType_tuple, inst_bool_bool, inst_bool_int, inst_bool_str, inst_bool_list, inst_bool_tuple, inst_int_bool, inst_int_int, inst_int_str, inst_int_list, inst_int_tuple, inst_str_bool, inst_str_int, inst_str_str, inst_str_list, inst_str_tuple, inst_list_bool, inst_list_int, inst_list_str, inst_list_list, inst_list_tuple, inst_tuple_bool, inst_tuple_int, inst_tuple_str, inst_tuple_list, inst_tuple_tuple, iiD, iiD0, subD, mulD, fdivD, modD, shrD, pow_10_6, pow_10_60, ltI, leI, gtI, geI, addI, addD, catD, scatD, lenD, lenS, ixD, ixL, ixLK, ixK, vl, vm, newL, i2D, absD, tupleD, dLM, dLM0, dFld, getF, dGet1, dGet2, getK, dSetIx, rng1, rng2, dFor1, dFor2, dFor, dForK, eqR, rs, dstart, List.map_cons, List.map_nil, List.length_cons, List.length_nil, List.cons_append, List.nil_append, List.replicate, List.getElem?_cons_zero, List.getElem?_cons_succ, List.set_cons_zero, List.set_cons_succ, Option.isSome_some, Option.isNone_some, Option.isNone_none, Nat.add_one_sub_one, Nat.reduceAdd, Nat.reduceSub, Nat.sub_self, Nat.sub_zero, Bool.not_true, Bool.not_false, ↓reduceIte, Bool.false_eq_true, Bool.true_eq_false, okD_int, okD_bl, okD_non, dEq_int, dEq_bl, Bool.true_xor, Bool.false_xor, Bool.not_eq_true', decide_eq_true_eq, decide_eq_false_iff_not, true_and, Bool.and_true, Bool.and_false, Bool.true_and, Bool.false_and, at_0, at_1, at_2, cast0, cast1, cast2, cast3, not_true_eq_false, not_false_eq_true, eL, Option.map_some, Option.map_none, dSlL, slk, doNone, doSome, sortedTD, dLenSet, lsk, inR, inL, inK, e, i0, i1, true_and]
      rw [if_neg (by simp)]
      exact x_Guild_liking g o0 o1 (rt_of q)
theorem x_Guild_rank_of {a : CA} {A : GA} {s : GS} {m : Nat} {r : D} {l : List Int} {S : Sto} {P : D → Sto → Prop} {E : Addr → Sto → Prop} (g : GAt a S A s m) (hr : vm S r = some (l.map .int)) (hl : l.length ≤ 4000) (h : s.rok l) (q : P (.int (s.rank l)) S) : sp_Guild_rank_of a [.ref A.g, r] S P E :=
  ⟨A, s, m, r, l, rfl, g, hr, hl, fun z => absurd h.1 z, fun _ z => absurd h.2 z, fun _ => q⟩

end DL
namespace DL
open PySem L2
def GS.better (s : GS) (x y : List Int) : Bool := if s.rank x ≠ s.rank y then decide (s.rank y < s.rank x) else if x.length ≠ y.length then decide (x.length < y.length) else decide (x < y)
theorem toPs_ints (z : List Int) : toPs (z.map D.int) = z.map PyData.int := by rw [toPs_map, List.map_map]; rfl
open PySem.W in
theorem dLt_R (x y : List Int) : dLt (.lst (x.map .int)) (.lst (y.map .int)) = decide (x < y) := by
  unfold dLt
  simp only [toP, toPs_ints, dataLt_list]
  exact dataLt_ints x y
open PySem.W in
theorem alike_R (x y : List Int) : alike (toP (.lst (x.map .int))) (toP (.lst (y.map .int))) = true := by
  simp only [toP, toPs_ints, alike]; exact alike_ints x y
theorem depth_R (x : List Int) : (toP (.lst (x.map .int))).depth ≤ 64 := Nat.le_trans (encR.dp x) (by decide)
theorem ltD_R {x y : D} {k l : List Int} {S : Sto} {P : D → Sto → Prop} (hx : rs S x = .lst (k.map .int)) (hy : rs S y = .lst (l.map .int)) (q : P (.bl (decide (k < l))) S) : ltD x y S P := by
  unfold ltD
  rw [hx, hy, dLt_R]
  exact ⟨encR.pu k, encR.pu l, alike_R k l, fun z => by simp [toP] at z, depth_R k, q⟩
open PySem.W in
theorem dLt_key (r1 r2 : Int) (k l : List Int) : dLt (.tup [.int (0 - r1), .int k.length, .lst (k.map .int)]) (.tup [.int (0 - r2), .int l.length, .lst (l.map .int)]) = if r1 ≠ r2 then decide (r2 < r1) else if k.length ≠ l.length then decide (k.length < l.length) else decide (k < l) := by
  have e1 : ∀ x y : Int, alike (.int x) (.int y) = true := fun _ _ => rfl
  have e2 : alike (.list (k.map PyData.int)) (.list (l.map PyData.int)) = true := by simp only [alike]; exact alike_ints k l
  have e3 : alike (.list []) (.list []) = true := rfl
  unfold dLt
  simp only [toP, toPs, toPs_ints, dataLt_tuple]
  rw [dataLt_cons (e1 _ _), dataLt_cons (e1 _ _), dataLt_cons e2]
  have q1 : ∀ x y : Int, PyData.eqv (.int x) (.int y) = decide (x = y) := fun x y => by simp only [PyData.eqv]; exact Bool.beq_eq_decide_eq x y
  simp only [q1, dataLt_int, decide_eq_true_eq]
  by_cases c : r1 = r2
  · subst c
    rw [if_pos rfl, if_neg (not_not_intro rfl)]
    by_cases c2 : k.length = l.length
    · rw [if_pos (by rw [c2]), if_neg (not_not_intro c2)]
      have q2 : PyData.eqv (.list (k.map PyData.int)) (.list (l.map PyData.int)) = decide (k = l) := by
        have := encR.eq k l
        simpa only [dEq, eL, toP, toPs_ints] using this
      rw [q2]
      by_cases c3 : k = l
      · subst c3
        rw [if_pos (by simp)]
        have : ¬ (k < k) := List.lt_irrefl k
        rw [decide_eq_false this]
        simp only [keyToksAll, PyProof.Rows.lexLt]
        first | rfl | decide | simp [PyProof.Rows.itemLt]
      · rw [if_neg (by simpa using c3), dataLt_list]
        exact dataLt_ints k l
    · rw [if_neg (by omega), if_pos c2]
      exact decide_eq_decide.mpr (by omega)
  · rw [if_neg (by omega), if_pos c]
    exact decide_eq_decide.mpr (by omega)
open PySem.W in
theorem ltD_key {r1 r2 : Int} {k l : List Int} {S : Sto} {P : D → Sto → Prop} (q : P (.bl (if r1 ≠ r2 then decide (r2 < r1) else if k.length ≠ l.length then decide (k.length < l.length) else decide (k < l))) S) : ltD (.tup [.int (0 - r1), .int k.length, .lst (k.map .int)]) (.tup [.int (0 - r2), .int l.length, .lst (l.map .int)]) S P := by
  unfold ltD
  simp only [rs, vm]
  rw [dLt_key]
  have p : ∀ (r : Int) (k : List Int), pureD (.tup [.int (0 - r), .int k.length, .lst (k.map .int)]) = true := fun r k => by
    simp only [pureD, pureDs, Bool.and_true, Bool.true_and]; exact pureDs_map Enc.int k
  refine ⟨p _ _, p _ _, ?_, fun z => by simp [toP] at z, ?_, q⟩
  · simp only [toP, toPs, toPs_ints, alike, alikeAll, alike_ints, Bool.and_self]
  · have := encR.dp k
    simp only [eL, toP, toPs, PyData.depth, PyData.depthAll] at this ⊢
    omega

end DL
namespace DL
open PySem L2
def t_better (K : PySem.W.Frag) (a : CA) (W : WD) : TDS :=
  (dSeq (dAsg (dMeth a.Guild "rank_of" (sp_Guild_rank_of a) W (dVar 0) (dCons (dVar 1) dNil)) (dgN 3))
  (dSeq (dAsg (dMeth a.Guild "rank_of" (sp_Guild_rank_of a) W (dVar 0) (dCons (dVar 2) dNil)) (dgN 4))
  (dSeq (dIfS (dB (dOp (eqR true) (dVar 3) (dVar 4)))
    (dRet (dOp gtI (dVar 3) (dVar 4)))
    dNext)
  (dSeq (dIfS (dB (dOp (eqR true) (dCB lenD (dCons (dVar 1) dNil)) (dCB lenD (dCons (dVar 2) dNil))))
    (dRet (dOp ltI (dCB lenD (dCons (dVar 1) dNil)) (dCB lenD (dCons (dVar 2) dNil))))
    dNext)
  (dRet (dOp ltD (dVar 1) (dVar 2)))))))
abbrev N_better : List Str := ["guild", "one", "other", "left", "right"]
def sp_better (a : CA) : DSp := fun ds S P E => ∃ (A : GA) (s : GS) (m : Nat) (x y : D) (k l : List Int), ds = [.ref A.g, x, y] ∧ GAt a S A s m ∧ vm S x = some (k.map .int) ∧ vm S y = some (l.map .int) ∧ k.length ≤ 4000 ∧ l.length ≤ 4000 ∧ s.rok k ∧ s.rok l ∧ P (.bl (s.better k l)) S
theorem len_better (a : CA) (ds : List D) (S : Sto) (Q : D → Sto → Prop) (E : Addr → Sto → Prop) (h : sp_better a ds S Q E) : ds.length = ["guild", "one", "other"].length := by
  obtain ⟨_, _, _, _, _, _, _, rfl, _⟩ := h; rfl
theorem read_better (K : PySem.W.Frag) (a : CA) (ds : List D) (S : Sto) (Q : D → Sto → Prop) (E : Addr → Sto → Prop) (h : sp_better a ds S Q E) : t_better K a (wishOf E) (endsOf Q) (dstart N_better ds) S := by
  obtain ⟨A, s, m, x, y, k, l, rfl, g, hx, hy, lk, ll, rk, rl, q⟩ := h
  unfold GS.better at q
  have hrx := vm_rs hx
  have hry := vm_rs hy
  rcases vm_cases hx with rfl | ⟨p, rfl, ex⟩ <;> rcases vm_cases hy with rfl | ⟨p', rfl, ey⟩
  all_goals
    simp only [t_better, N_better, dSeq, dIfS, dB, dOp, dVar, dCB, dCons, dNil, dRet, dRetN, dNext, dC, dAsg, dgN, dgT, dgSeq, dDrop, dCont, dAndT, dOrT, dNotT, dAndV, dOrV, dNotV, dIf, dIsN, dNotN, dNeg, dLst, dTup, dNewI, dCall, dMeth, dMake, dRaise, dFrz, dIsi, isiK, tyS, inst_NoneType_bool, inst_NoneType_int, inst_NoneType_str, inst_NoneType_list, inst_NoneType_tuple, inst_bool_bool, inst_bool_int, inst_bool_str, inst_bool_list, inst_bool_tuple, inst_int_bool, inst_int_int, inst_int_str, inst_int_list, inst_int_tuple, inst_str_bool, inst_str_int, inst_str_str, inst_str_list, inst_str_tuple, inst_list_bool, inst_list_int, inst_list_str, inst_list_list, inst_list_tuple, inst_tuple_bool, inst_tuple_int, inst_tuple_str, inst_tuple_list, inst_tuple_tuple, iiD, iiD0, subD, mulD, fdivD, modD, shrD, pow_10_6, pow_10_60, ltI, leI, gtI, geI, addI, addD, catD, scatD, lenD, lenS, ixD, ixL, ixLK, ixK, vl, vm, newL, i2D, absD, tupleD, dLM, dLM0, dFld, getF, dGet1, dGet2, getK, dSetIx, rng1, rng2, dFor1, dFor2, dFor, dForK, eqR, rs, dstart, List.map_cons, List.map_nil, List.length_cons, List.length_nil, List.cons_append, List.nil_append, List.replicate, List.getElem?_cons_zero, List.getElem?_cons_succ, List.set_cons_zero, List.set_cons_succ, Option.isSome_some, Option.isNone_some, Option.isNone_none, Nat.add_one_sub_one, Nat.reduceAdd, Nat.reduceSub, Nat.sub_self, Nat.sub_zero, Bool.not_true, Bool.not_false, ↓reduceIte, Bool.false_eq_true, Bool.true_eq_false, okD_int, okD_bl, okD_non, dEq_int, dEq_bl, Bool.true_xor, Bool.false_xor, Bool.not_eq_true', decide_eq_true_eq, decide_eq_false_iff_not, true_and, Bool.and_true, Bool.and_false, Bool.true_and, Bool.false_and, at_0, at_1, at_2, cast0, cast1, cast2, cast3, not_true_eq_false, not_false_eq_true, eL, Option.map_some, Option.map_none, dSlL, slk, doNone, doSome, sortedTD, dLenSet, lsk, g.g, onIns, gf_houses, gf_ties, gf_shy, gf_fond, gf_longings, gfm_see_house, gfm_see_two, gfm_size, gfm_neighbours, gfm_has_way, gfm_lay_way, gfm_lift_way, gfm_like, gfm_liking, gfm_shun, gfm_shunned, gfm_see_road, gfm_wish, gfm_wishes, gfm_rank_of, gp_houses, gp_ties, gp_shy, gp_fond, gp_longings]
    refine x_Guild_rank_of g hx lk rk ?_
    simp only [g.g, onIns, gf_houses, gf_ties, gf_shy, gf_fond, gf_longings, gfm_see_house, gfm_see_two, gfm_size, gfm_neighbours, gfm_has_way, gfm_lay_way, gfm_lift_way, gfm_like, gfm_liking, gfm_shun, gfm_shunned, gfm_see_road, gfm_wish, gfm_wishes, gfm_rank_of, gp_houses, gp_ties, gp_shy, gp_fond, gp_longings, true_and]
    refine x_Guild_rank_of g hy ll rl ?_
    first | simp only [dSeq, dIfS, dB, dOp, dVar, dCB, dCons, dNil, dRet, dRetN, dNext, dC, dAsg, dgN, dgT, dgSeq, dDrop, dCont, dAndT, dOrT, dNotT, dAndV, dOrV, dNotV, dIf, dIsN, dNotN, dNeg, dLst, dTup, dNewI, dCall, dMeth, dMake, dRaise, dFrz, dIsi, isiK, tyS, inst_NoneType_bool, inst_NoneType_int, inst_NoneType_str, inst_NoneType_list, inst_NoneType_tuple, inst_bool_bool, inst_bool_int, inst_bool_str, inst_bool_list, inst_bool_tuple, inst_int_bool, inst_int_int, inst_int_str, inst_int_list, inst_int_tuple, inst_str_bool, inst_str_int, inst_str_str, inst_str_list, inst_str_tuple, inst_list_bool, inst_list_int, inst_list_str, inst_list_list, inst_list_tuple, inst_tuple_bool, inst_tuple_int, inst_tuple_str, inst_tuple_list, inst_tuple_tuple, iiD, iiD0, subD, mulD, fdivD, modD, shrD, pow_10_6, pow_10_60, ltI, leI, gtI, geI, addI, addD, catD, scatD, lenD, lenS, ixD, ixL, ixLK, ixK, vl, vm, newL, i2D, absD, tupleD, dLM, dLM0, dFld, getF, dGet1, dGet2, getK, dSetIx, rng1, rng2, dFor1, dFor2, dFor, dForK, eqR, rs, dstart, List.map_cons, List.map_nil, List.length_cons, List.length_nil, List.cons_append, List.nil_append, List.replicate, List.getElem?_cons_zero, List.getElem?_cons_succ, List.set_cons_zero, List.set_cons_succ, Option.isSome_some, Option.isNone_some, Option.isNone_none, Nat.add_one_sub_one, Nat.reduceAdd, Nat.reduceSub, Nat.sub_self, Nat.sub_zero, Bool.not_true, Bool.not_false, ↓reduceIte, Bool.false_eq_true, Bool.true_eq_false, okD_int, okD_bl, okD_non, dEq_int, dEq_bl, Bool.true_xor, Bool.false_xor, Bool.not_eq_true', decide_eq_true_eq, decide_eq_false_iff_not, true_and, Bool.and_true, Bool.and_false, Bool.true_and, Bool.false_and, at_0, at_1, at_2, cast0, cast1, cast2, cast3, not_true_eq_false, not_false_eq_true, eL, Option.map_some, Option.map_none, dSlL, slk, doNone, doSome, sortedTD, dLenSet, lsk, ex, ey] | simp only [dSeq, dIfS, dB, dOp, dVar, dCB, dCons, dNil, dRet, dRetN, dNext, dC, dAsg, dgN, dgT, dgSeq, dDrop, dCont, dAndT, dOrT, dNotT, dAndV, dOrV, dNotV, dIf, dIsN, dNotN, dNeg, dLst, dTup, dNewI, dCall, dMeth, dMake, dRaise, dFrz, dIsi, isiK, tyS, inst_NoneType_bool, inst_NoneType_int, inst_NoneType_str, inst_NoneType_list, inst_NoneType_tuple, inst_bool_bool, inst_bool_int, inst_bool_str, inst_bool_list, inst_bool_tuple, inst_int_bool, inst_int_int, inst_int_str, inst_int_list, inst_int_tuple, inst_str_bool, inst_str_int, inst_str_str, inst_str_list, inst_str_tuple, inst_list_bool, inst_list_int, inst_list_str, inst_list_list, inst_list_tuple, inst_tuple_bool, inst_tuple_int, inst_tuple_str, inst_tuple_list, inst_tuple_tuple, iiD, iiD0, subD, mulD, fdivD, modD, shrD, pow_10_6, pow_10_60, ltI, leI, gtI, geI, addI, addD, catD, scatD, lenD, lenS, ixD, ixL, ixLK, ixK, vl, vm, newL, i2D, absD, tupleD, dLM, dLM0, dFld, getF, dGet1, dGet2, getK, dSetIx, rng1, rng2, dFor1, dFor2, dFor, dForK, eqR, rs, dstart, List.map_cons, List.map_nil, List.length_cons, List.length_nil, List.cons_append, List.nil_append, List.replicate, List.getElem?_cons_zero, List.getElem?_cons_succ, List.set_cons_zero, List.set_cons_succ, Option.isSome_some, Option.isNone_some, Option.isNone_none, Nat.add_one_sub_one, Nat.reduceAdd, Nat.reduceSub, Nat.sub_self, Nat.sub_zero, Bool.not_true, Bool.not_false, ↓reduceIte, Bool.false_eq_true, Bool.true_eq_false, okD_int, okD_bl, okD_non, dEq_int, dEq_bl, Bool.true_xor, Bool.false_xor, Bool.not_eq_true', decide_eq_true_eq, decide_eq_false_iff_not, true_and, Bool.and_true, Bool.and_false, Bool.true_and, Bool.false_and, at_0, at_1, at_2, cast0, cast1, cast2, cast3, not_true_eq_false, not_false_eq_true, eL, Option.map_some, Option.map_none, dSlL, slk, doNone, doSome, sortedTD, dLenSet, lsk, ex] | simp only [dSeq, dIfS, dB, dOp, dVar, dCB, dCons, dNil, dRet, dRetN, dNext, dC, dAsg, dgN, dgT, dgSeq, dDrop, dCont, dAndT, dOrT, dNotT, dAndV, dOrV, dNotV, dIf, dIsN, dNotN, dNeg, dLst, dTup, dNewI, dCall, dMeth, dMake, dRaise, dFrz, dIsi, isiK, tyS, inst_NoneType_bool, inst_NoneType_int, inst_NoneType_str, inst_NoneType_list, inst_NoneType_tuple, inst_bool_bool, inst_bool_int, inst_bool_str, inst_bool_list, inst_bool_tuple, inst_int_bool, inst_int_int, inst_int_str, inst_int_list, inst_int_tuple, inst_str_bool, inst_str_int, inst_str_str, inst_str_list, inst_str_tuple, inst_list_bool, inst_list_int, inst_list_str, inst_list_list, inst_list_tuple, inst_tuple_bool, inst_tuple_int, inst_tuple_str, inst_tuple_list, inst_tuple_tuple, iiD, iiD0, subD, mulD, fdivD, modD, shrD, pow_10_6, pow_10_60, ltI, leI, gtI, geI, addI, addD, catD, scatD, lenD, lenS, ixD, ixL, ixLK, ixK, vl, vm, newL, i2D, absD, tupleD, dLM, dLM0, dFld, getF, dGet1, dGet2, getK, dSetIx, rng1, rng2, dFor1, dFor2, dFor, dForK, eqR, rs, dstart, List.map_cons, List.map_nil, List.length_cons, List.length_nil, List.cons_append, List.nil_append, List.replicate, List.getElem?_cons_zero, List.getElem?_cons_succ, List.set_cons_zero, List.set_cons_succ, Option.isSome_some, Option.isNone_some, Option.isNone_none, Nat.add_one_sub_one, Nat.reduceAdd, Nat.reduceSub, Nat.sub_self, Nat.sub_zero, Bool.not_true, Bool.not_false, ↓reduceIte, Bool.false_eq_true, Bool.true_eq_false, okD_int, okD_bl, okD_non, dEq_int, dEq_bl, Bool.true_xor, Bool.false_xor, Bool.not_eq_true', decide_eq_true_eq, decide_eq_false_iff_not, true_and, Bool.and_true, Bool.and_false, Bool.true_and, Bool.false_and, at_0, at_1, at_2, cast0, cast1, cast2, cast3, not_true_eq_false, not_false_eq_true, eL, Option.map_some, Option.map_none, dSlL, slk, doNone, doSome, sortedTD, dLenSet, lsk, ey] | simp only [dSeq, dIfS, dB, dOp, dVar, dCB, dCons, dNil, dRet, dRetN, dNext, dC, dAsg, dgN, dgT, dgSeq, dDrop, dCont, dAndT, dOrT, dNotT, dAndV, dOrV, dNotV, dIf, dIsN, dNotN, dNeg, dLst, dTup, dNewI, dCall, dMeth, dMake, dRaise, dFrz, dIsi, isiK, tyS, inst_NoneType_bool, inst_NoneType_int, inst_NoneType_str, inst_NoneType_list, inst_NoneType_tuple, inst_bool_bool, inst_bool_int, inst_bool_str, inst_bool_list, inst_bool_tuple, inst_int_bool, inst_int_int, inst_int_str, inst_int_list, inst_int_tuple, inst_str_bool, inst_str_int, inst_str_str, inst_str_list, inst_str_tuple, inst_list_bool, inst_list_int, inst_list_str, inst_list_list, inst_list_tuple, inst_tuple_bool, inst_tuple_int, inst_tuple_str, inst_tuple_list, inst_tuple_tuple, iiD, iiD0, subD, mulD, fdivD, modD, shrD, pow_10_6, pow_10_60, ltI, leI, gtI, geI, addI, addD, catD, scatD, lenD, lenS, ixD, ixL, ixLK, ixK, vl, vm, newL, i2D, absD, tupleD, dLM, dLM0, dFld, getF, dGet1, dGet2, getK, dSetIx, rng1, rng2, dFor1, dFor2, dFor, dForK, eqR, rs, dstart, List.map_cons, List.map_nil, List.length_cons, List.length_nil, List.cons_append, List.nil_append, List.replicate, List.getElem?_cons_zero, List.getElem?_cons_succ, List.set_cons_zero, List.set_cons_succ, Option.isSome_some, Option.isNone_some, Option.isNone_none, Nat.add_one_sub_one, Nat.reduceAdd, Nat.reduceSub, Nat.sub_self, Nat.sub_zero, Bool.not_true, Bool.not_false, ↓reduceIte, Bool.false_eq_true, Bool.true_eq_false, okD_int, okD_bl, okD_non, dEq_int, dEq_bl, Bool.true_xor, Bool.false_xor, Bool.not_eq_true', decide_eq_true_eq, decide_eq_false_iff_not, true_and, Bool.and_true, Bool.and_false, Bool.true_and, Bool.false_and, at_0, at_1, at_2, cast0, cast1, cast2, cast3, not_true_eq_false, not_false_eq_true, eL, Option.map_some, Option.map_none, dSlL, slk, doNone, doSome, sortedTD, dLenSet, lsk]
    by_cases c : s.rank k = s.rank l
    · rw [if_neg (not_not_intro c)]; rw [if_neg (not_not_intro c)] at q
      by_cases c2 : k.length = l.length
      · rw [if_neg (by rw [List.length_map, List.length_map, c2]; exact not_not_intro rfl)]; rw [if_neg (not_not_intro c2)] at q
        exact ltD_R hrx hry (rt_of q)
      · rw [if_pos (by rw [List.length_map, List.length_map]; omega)]; rw [if_pos c2] at q
        refine rt_of ?_
        rw [List.length_map, List.length_map, show decide (((k.length : Nat) : Int) < l.length) = decide (k.length < l.length) from decide_eq_decide.mpr (by omega)]
        exact q
    · rw [if_pos c]; rw [if_pos c] at q
      exact rt_of q
theorem x_better {a : CA} {A : GA} {s : GS} {m : Nat} {x y : D} {k l : List Int} {S : Sto} {P : D → Sto → Prop} {E : Addr → Sto → Prop} (g : GAt a S A s m) (hx : vm S x = some (k.map .int)) (hy : vm S y = some (l.map .int)) (lk : k.length ≤ 4000) (ll : l.length ≤ 4000) (rk : s.rok k) (rl : s.rok l) (q : P (.bl (s.better k l)) S) : sp_better a [.ref A.g, x, y] S P E := ⟨A, s, m, x, y, k, l, rfl, g, hx, hy, lk, ll, rk, rl, q⟩

end DL
namespace DL
open PySem L2
def GS.told (s : GS) (r : List Int) : Prop := (∀ x ∈ r, s.ok x) ∧ r.getLast? = some 0 ∧ r.Nodup
def takeQ (shy : List Int) (house : Int) : Option (List Int) → Bool
  | none => false
  | some r => !decide (house ∈ r) && !shy.any fun far => decide (far ∈ r)
def GS.look (s : GS) (house : Int) (best : Option (List Int)) (o : Option (List Int)) : Option (List Int) :=
  if takeQ (nb s.n s.H house) house o then match o with
    | none => best
    | some r => match best with
      | none => some (house :: r)
      | some b => if s.better (house :: r) b then some (house :: r) else some b
  else best
def GS.chosen (s : GS) (house : Int) (tl : List (Option (List Int))) : Option (List Int) := if house = 0 then some [0] else tl.foldl (s.look house) none
theorem GS.told.cons {s : GS} {house : Int} {r : List Int} (h : s.told r) (hh : s.ok house) (hn : house ∉ r) : s.rok (house :: r) := by
  have hr : r ≠ [] := fun z => by have := h.2.1; rw [z] at this; cases this
  refine ⟨fun x hx => ?_, ?_, ?_, List.nodup_cons.mpr ⟨hn, h.2.2⟩⟩
  · rcases List.mem_cons.mp hx with rfl | hx
    · exact hh
    · exact h.1 x hx
  · have := List.length_pos_iff.mpr hr
    rw [List.length_cons]; omega
  · rw [List.getLast?_cons, h.2.1]; rfl
theorem GS.told.len {s : GS} {r : List Int} (h : s.told r) : r.length ≤ s.n := nodup_le _ _ h.2.2 fun g hg => h.1 g hg
theorem takeQ_some {shy : List Int} {house : Int} {o : Option (List Int)} (h : takeQ shy house o = true) : ∃ r, o = some r ∧ house ∉ r ∧ ∀ far ∈ shy, far ∉ r := by
  cases o with
  | none => cases h
  | some r =>
    simp only [takeQ, Bool.and_eq_true, Bool.not_eq_true', decide_eq_false_iff_not, List.any_eq_false, decide_eq_true_eq] at h
    exact ⟨r, rfl, h.1, h.2⟩
def GS.mine (s : GS) (house : Int) : Option (List Int) → Prop
  | none => True
  | some b => s.rok b ∧ b.length ≤ s.n + 1 ∧ b.head? = some house
theorem look_mine {s : GS} {house : Int} {best o : Option (List Int)} (hh : s.ok house) (hb : s.mine house best) (ho : ∀ r, o = some r → s.told r) : s.mine house (s.look house best o) := by
  unfold GS.look
  split
  · rename_i c
    obtain ⟨r, rfl, hn, _⟩ := takeQ_some c
    have h1 : s.mine house (some (house :: r)) := ⟨(ho r rfl).cons hh hn, by have := (ho r rfl).len; rw [List.length_cons]; omega, rfl⟩
    cases best with
    | none => exact h1
    | some b => dsimp only; split <;> assumption
  · exact hb
theorem fold_mine {s : GS} {house : Int} (hh : s.ok house) : ∀ (tl : List (Option (List Int))) (best : Option (List Int)), s.mine house best → (∀ r, some r ∈ tl → s.told r) → s.mine house (tl.foldl (s.look house) best)
  | [], best, h, _ => h
  | o :: tl, best, h, ht => fold_mine hh tl _ (look_mine hh h fun r e => ht r (by rw [e]; exact List.mem_cons_self)) fun r hr => ht r (List.mem_cons_of_mem _ hr)

end DL
namespace DL
open PySem L2
def t_takes (K : PySem.W.Frag) (a : CA) (W : WD) : TDS :=
  (dSeq (dIfS (dOrT (dB (dIsN (dVar 2))) (dB (dOp (inR false) (dVar 1) (dVar 2))))
    (dRet (dC (.bl false)))
    dNext)
  (dSeq (dFor (dVar 0) (dgN 3)
    (dIfS (dB (dOp (inR false) (dVar 3) (dVar 2)))
      (dRet (dC (.bl false)))
      dNext))
  (dRet (dC (.bl true)))))
abbrev N_takes : List Str := ["shunned", "house", "road", "far"]
def sp_takes (a : CA) : DSp := fun ds S P E => ∃ (x : D) (shy : List Int) (house : Int) (o : Option (List Int)), ds = [x, .int house, eO eR o] ∧ vm S x = some (shy.map .int) ∧ P (.bl (takeQ shy house o)) S
theorem len_takes (a : CA) (ds : List D) (S : Sto) (Q : D → Sto → Prop) (E : Addr → Sto → Prop) (h : sp_takes a ds S Q E) : ds.length = ["shunned", "house", "road"].length := by
  obtain ⟨_, _, _, _, rfl, _⟩ := h; rfl
theorem read_takes (K : PySem.W.Frag) (a : CA) (ds : List D) (S : Sto) (Q : D → Sto → Prop) (E : Addr → Sto → Prop) (h : sp_takes a ds S Q E) : t_takes K a (wishOf E) (endsOf Q) (dstart N_takes ds) S := by
  obtain ⟨x, shy, house, o, rfl, hx, q⟩ := h
  cases o with
  | none =>
    simp only [t_takes, N_takes, dSeq, dIfS, dB, dOp, dVar, dCB, dCons, dNil, dRet, dRetN, dNext, dC, dAsg, dgN, dgT, dgSeq, dDrop, dCont, dAndT, dOrT, dNotT, dAndV, dOrV, dNotV, dIf, dIsN, dNotN, dNeg, dLst, dTup, dNewI, dCall, dMeth, dMake, dRaise, dFrz, dIsi, isiK, tyS, inst_NoneType_bool, inst_NoneType_int, inst_NoneType_str, inst_NoneType_list, inst_NoneType_tuple, inst_bool_bool, inst_bool_int, inst_bool_str, inst_bool_list, inst_bool_tuple, inst_int_bool, inst_int_int, inst_int_str, inst_int_list, inst_int_tuple, inst_str_bool, inst_str_int, inst_str_str, inst_str_list, inst_str_tuple, inst_list_bool, inst_list_int, inst_list_str, inst_list_list, inst_list_tuple, inst_tuple_bool, inst_tuple_int, inst_tuple_str, inst_tuple_list, inst_tuple_tuple, iiD, iiD0, subD, mulD, fdivD, modD, shrD, pow_10_6, pow_10_60, ltI, leI, gtI, geI, addI, addD, catD, scatD, lenD, lenS, ixD, ixL, ixLK, ixK, vl, vm, newL, i2D, absD, tupleD, dLM, dLM0, dFld, getF, dGet1, dGet2, getK, dSetIx, rng1, rng2, dFor1, dFor2, dFor, dForK, eqR, rs, dstart, List.map_cons, List.map_nil, List.length_cons, List.length_nil, List.cons_append, List.nil_append, List.replicate, List.getElem?_cons_zero, List.getElem?_cons_succ, List.set_cons_zero, List.set_cons_succ, Option.isSome_some, Option.isNone_some, Option.isNone_none, Nat.add_one_sub_one, Nat.reduceAdd, Nat.reduceSub, Nat.sub_self, Nat.sub_zero, Bool.not_true, Bool.not_false, ↓reduceIte, Bool.false_eq_true, Bool.true_eq_false, okD_int, okD_bl, okD_non, dEq_int, dEq_bl, Bool.true_xor, Bool.false_xor, Bool.not_eq_true', decide_eq_true_eq, decide_eq_false_iff_not, true_and, Bool.and_true, Bool.and_false, Bool.true_and, Bool.false_and, at_0, at_1, at_2, cast0, cast1, cast2, cast3, not_true_eq_false, not_false_eq_true, eL, Option.map_some, Option.map_none, dSlL, slk, doNone, doSome, sortedTD, dLenSet, lsk, eO]
    exact rt_of q
  | some r =>
    have hv := vm_vl hx
    simp only [takeQ] at q
    rcases vm_cases hx with rfl | ⟨p, rfl, ex⟩
    all_goals
      first | simp only [t_takes, N_takes, dSeq, dIfS, dB, dOp, dVar, dCB, dCons, dNil, dRet, dRetN, dNext, dC, dAsg, dgN, dgT, dgSeq, dDrop, dCont, dAndT, dOrT, dNotT, dAndV, dOrV, dNotV, dIf, dIsN, dNotN, dNeg, dLst, dTup, dNewI, dCall, dMeth, dMake, dRaise, dFrz, dIsi, isiK, tyS, inst_NoneType_bool, inst_NoneType_int, inst_NoneType_str, inst_NoneType_list, inst_NoneType_tuple, inst_bool_bool, inst_bool_int, inst_bool_str, inst_bool_list, inst_bool_tuple, inst_int_bool, inst_int_int, inst_int_str, inst_int_list, inst_int_tuple, inst_str_bool, inst_str_int, inst_str_str, inst_str_list, inst_str_tuple, inst_list_bool, inst_list_int, inst_list_str, inst_list_list, inst_list_tuple, inst_tuple_bool, inst_tuple_int, inst_tuple_str, inst_tuple_list, inst_tuple_tuple, iiD, iiD0, subD, mulD, fdivD, modD, shrD, pow_10_6, pow_10_60, ltI, leI, gtI, geI, addI, addD, catD, scatD, lenD, lenS, ixD, ixL, ixLK, ixK, vl, vm, newL, i2D, absD, tupleD, dLM, dLM0, dFld, getF, dGet1, dGet2, getK, dSetIx, rng1, rng2, dFor1, dFor2, dFor, dForK, eqR, rs, dstart, List.map_cons, List.map_nil, List.length_cons, List.length_nil, List.cons_append, List.nil_append, List.replicate, List.getElem?_cons_zero, List.getElem?_cons_succ, List.set_cons_zero, List.set_cons_succ, Option.isSome_some, Option.isNone_some, Option.isNone_none, Nat.add_one_sub_one, Nat.reduceAdd, Nat.reduceSub, Nat.sub_self, Nat.sub_zero, Bool.not_true, Bool.not_false, ↓reduceIte, Bool.false_eq_true, Bool.true_eq_false, okD_int, okD_bl, okD_non, dEq_int, dEq_bl, Bool.true_xor, Bool.false_xor, Bool.not_eq_true', decide_eq_true_eq, decide_eq_false_iff_not, true_and, Bool.and_true, Bool.and_false, Bool.true_and, Bool.false_and, at_0, at_1, at_2, cast0, cast1, cast2, cast3, not_true_eq_false, not_false_eq_true, eL, Option.map_some, Option.map_none, dSlL, slk, doNone, doSome, sortedTD, dLenSet, lsk, eO, inR, inL, any_int, ex] | simp only [t_takes, N_takes, dSeq, dIfS, dB, dOp, dVar, dCB, dCons, dNil, dRet, dRetN, dNext, dC, dAsg, dgN, dgT, dgSeq, dDrop, dCont, dAndT, dOrT, dNotT, dAndV, dOrV, dNotV, dIf, dIsN, dNotN, dNeg, dLst, dTup, dNewI, dCall, dMeth, dMake, dRaise, dFrz, dIsi, isiK, tyS, inst_NoneType_bool, inst_NoneType_int, inst_NoneType_str, inst_NoneType_list, inst_NoneType_tuple, inst_bool_bool, inst_bool_int, inst_bool_str, inst_bool_list, inst_bool_tuple, inst_int_bool, inst_int_int, inst_int_str, inst_int_list, inst_int_tuple, inst_str_bool, inst_str_int, inst_str_str, inst_str_list, inst_str_tuple, inst_list_bool, inst_list_int, inst_list_str, inst_list_list, inst_list_tuple, inst_tuple_bool, inst_tuple_int, inst_tuple_str, inst_tuple_list, inst_tuple_tuple, iiD, iiD0, subD, mulD, fdivD, modD, shrD, pow_10_6, pow_10_60, ltI, leI, gtI, geI, addI, addD, catD, scatD, lenD, lenS, ixD, ixL, ixLK, ixK, vl, vm, newL, i2D, absD, tupleD, dLM, dLM0, dFld, getF, dGet1, dGet2, getK, dSetIx, rng1, rng2, dFor1, dFor2, dFor, dForK, eqR, rs, dstart, List.map_cons, List.map_nil, List.length_cons, List.length_nil, List.cons_append, List.nil_append, List.replicate, List.getElem?_cons_zero, List.getElem?_cons_succ, List.set_cons_zero, List.set_cons_succ, Option.isSome_some, Option.isNone_some, Option.isNone_none, Nat.add_one_sub_one, Nat.reduceAdd, Nat.reduceSub, Nat.sub_self, Nat.sub_zero, Bool.not_true, Bool.not_false, ↓reduceIte, Bool.false_eq_true, Bool.true_eq_false, okD_int, okD_bl, okD_non, dEq_int, dEq_bl, Bool.true_xor, Bool.false_xor, Bool.not_eq_true', decide_eq_true_eq, decide_eq_false_iff_not, true_and, Bool.and_true, Bool.and_false, Bool.true_and, Bool.false_and, at_0, at_1, at_2, cast0, cast1, cast2, cast3, not_true_eq_false, not_false_eq_true, eL, Option.map_some, Option.map_none, dSlL, slk, doNone, doSome, sortedTD, dLenSet, lsk, eO, inR, inL, any_int]
      refine ⟨okD_R r, ?_⟩
      by_cases c : house ∈ r
      · rw [if_pos c]
        rw [decide_eq_true c] at q
        exact rt_of q
      · rw [if_neg c]
        rw [decide_eq_false c] at q
        simp only [Bool.not_false, Bool.true_and] at q
        refine dGo_map (f := D.int) (fun rest ρ S' => S' = S ∧ (∃ o, ρ = [some _, some (.int house), some (.lst (r.map .int)), o]) ∧ (rest.any fun far => decide (far ∈ r)) = shy.any fun far => decide (far ∈ r)) ?_ ?_ _ _ _ ⟨rfl, ⟨_, rfl⟩, rfl⟩
        · rintro ρ S' ⟨rfl, ⟨o, rfl⟩, e⟩
          rw [List.any_nil] at e
          rw [← e] at q
          exact ⟨by first | trivial | exact hv, rt_of q⟩
        · rintro far rest ρ S' N ⟨rfl, ⟨o, rfl⟩, e⟩ hN
          refine ⟨by first | trivial | exact hv, ?_⟩
          simp only [dSeq, dIfS, dB, dOp, dVar, dCB, dCons, dNil, dRet, dRetN, dNext, dC, dAsg, dgN, dgT, dgSeq, dDrop, dCont, dAndT, dOrT, dNotT, dAndV, dOrV, dNotV, dIf, dIsN, dNotN, dNeg, dLst, dTup, dNewI, dCall, dMeth, dMake, dRaise, dFrz, dIsi, isiK, tyS, inst_NoneType_bool, inst_NoneType_int, inst_NoneType_str, inst_NoneType_list, inst_NoneType_tuple, inst_bool_bool, inst_bool_int, inst_bool_str, inst_bool_list, inst_bool_tuple, inst_int_bool, inst_int_int, inst_int_str, inst_int_list, inst_int_tuple, inst_str_bool, inst_str_int, inst_str_str, inst_str_list, inst_str_tuple, inst_list_bool, inst_list_int, inst_list_str, inst_list_list, inst_list_tuple, inst_tuple_bool, inst_tuple_int, inst_tuple_str, inst_tuple_list, inst_tuple_tuple, iiD, iiD0, subD, mulD, fdivD, modD, shrD, pow_10_6, pow_10_60, ltI, leI, gtI, geI, addI, addD, catD, scatD, lenD, lenS, ixD, ixL, ixLK, ixK, vl, vm, newL, i2D, absD, tupleD, dLM, dLM0, dFld, getF, dGet1, dGet2, getK, dSetIx, rng1, rng2, dFor1, dFor2, dFor, dForK, eqR, rs, dstart, List.map_cons, List.map_nil, List.length_cons, List.length_nil, List.cons_append, List.nil_append, List.replicate, List.getElem?_cons_zero, List.getElem?_cons_succ, List.set_cons_zero, List.set_cons_succ, Option.isSome_some, Option.isNone_some, Option.isNone_none, Nat.add_one_sub_one, Nat.reduceAdd, Nat.reduceSub, Nat.sub_self, Nat.sub_zero, Bool.not_true, Bool.not_false, ↓reduceIte, Bool.false_eq_true, Bool.true_eq_false, okD_int, okD_bl, okD_non, dEq_int, dEq_bl, Bool.true_xor, Bool.false_xor, Bool.not_eq_true', decide_eq_true_eq, decide_eq_false_iff_not, true_and, Bool.and_true, Bool.and_false, Bool.true_and, Bool.false_and, at_0, at_1, at_2, cast0, cast1, cast2, cast3, not_true_eq_false, not_false_eq_true, eL, Option.map_some, Option.map_none, dSlL, slk, doNone, doSome, sortedTD, dLenSet, lsk, inR, inL, any_int]
          refine ⟨okD_R r, ?_⟩
          rw [List.any_cons] at e
          by_cases c2 : far ∈ r
          · rw [if_pos c2]
            rw [decide_eq_true c2] at e
            rw [Bool.true_or] at e
            rw [← e] at q
            exact rt_of q
          · rw [if_neg c2]
            rw [decide_eq_false c2] at e
            rw [Bool.false_or] at e
            exact hN _ _ ⟨rfl, ⟨_, rfl⟩, e⟩
theorem x_takes {a : CA} {x : D} {shy : List Int} {house : Int} {o : Option (List Int)} {S : Sto} {P : D → Sto → Prop} {E : Addr → Sto → Prop} (hx : vm S x = some (shy.map .int)) (q : P (.bl (takeQ shy house o)) S) : sp_takes a [x, .int house, eO eR o] S P E := ⟨x, shy, house, o, rfl, hx, q⟩

end DL
namespace DL
open PySem L2
def t_Guild_shunned (K : PySem.W.Frag) (a : CA) (W : WD) : TDS :=
  (dSeq (dDrop (dMeth a.Guild "see_house" (sp_Guild_see_house a) W (dVar 0) (dCons (dVar 1) dNil)))
  (dRet (dCB (listD false) (dCons (dOp ixD (dFld a.Guild "shy" (dVar 0)) (dVar 1)) dNil))))
abbrev N_Guild_shunned : List Str := ["self", "a"]
def sp_Guild_shunned (a : CA) : DSp := fun ds S P E => ∃ (A : GA) (s : GS) (m : Nat) (x : Int), ds = [.ref A.g, .int x] ∧ GAt a S A s m ∧ (s.ok x → P (.lst ((nb s.n s.H x).map .int)) S) ∧ (¬ s.ok x → E a.NoHouse S)
theorem len_Guild_shunned (a : CA) (ds : List D) (S : Sto) (Q : D → Sto → Prop) (E : Addr → Sto → Prop) (h : sp_Guild_shunned a ds S Q E) : ds.length = ["self", "a"].length := by
  obtain ⟨_, _, _, _, rfl, _⟩ := h; rfl
theorem read_Guild_shunned (K : PySem.W.Frag) (a : CA) (ds : List D) (S : Sto) (Q : D → Sto → Prop) (E : Addr → Sto → Prop) (h : sp_Guild_shunned a ds S Q E) : t_Guild_shunned K a (wishOf E) (endsOf Q) (dstart N_Guild_shunned ds) S := by
  obtain ⟨A, s, m, x, rfl, g, q1, q2⟩ := h
  simp only [t_Guild_shunned, N_Guild_shunned, dSeq, dIfS, dB, dOp, dVar, dCB, dCons, dNil, dRet, dRetN, dNext, dC, dAsg, dgN, dgT, dgSeq, dDrop, dCont, dAndT, dOrT, dNotT, dAndV, dOrV, dNotV, dIf, dIsN, dNotN, dNeg, dLst, dTup, dNewI, dCall, dMeth, dMake, dRaise, dFrz, dIsi, isiK, tyS, inst_NoneType_bool, inst_NoneType_int, inst_NoneType_str, inst_NoneType_list, inst_NoneType_tuple, inst_bool_bool, inst_bool_int, inst_bool_str, inst_bool_list, inst_bool_tuple, inst_int_bool, inst_int_int, inst_int_str, inst_int_list, inst_int_tuple, inst_str_bool, inst_str_int, inst_str_str, inst_str_list, inst_str_tuple, inst_list_bool, inst_list_int, inst_list_str, inst_list_list, inst_list_tuple, inst_tuple_bool, inst_tuple_int, inst_tuple_str, inst_tuple_list, inst_tuple_tuple, iiD, iiD0, subD, mulD, fdivD, modD, shrD, pow_10_6, pow_10_60, ltI, leI, gtI, geI, addI, addD, catD, scatD, lenD, lenS, ixD, ixL, ixLK, ixK, vl, vm, newL, i2D, absD, tupleD, dLM, dLM0, dFld, getF, dGet1, dGet2, getK, dSetIx, rng1, rng2, dFor1, dFor2, dFor, dForK, eqR, rs, dstart, List.map_cons, List.map_nil, List.length_cons, List.length_nil, List.cons_append, List.nil_append, List.replicate, List.getElem?_cons_zero, List.getElem?_cons_succ, List.set_cons_zero, List.set_cons_succ, Option.isSome_some, Option.isNone_some, Option.isNone_none, Nat.add_one_sub_one, Nat.reduceAdd, Nat.reduceSub, Nat.sub_self, Nat.sub_zero, Bool.not_true, Bool.not_false, ↓reduceIte, Bool.false_eq_true, Bool.true_eq_false, okD_int, okD_bl, okD_non, dEq_int, dEq_bl, Bool.true_xor, Bool.false_xor, Bool.not_eq_true', decide_eq_true_eq, decide_eq_false_iff_not, true_and, Bool.and_true, Bool.and_false, Bool.true_and, Bool.false_and, at_0, at_1, at_2, cast0, cast1, cast2, cast3, not_true_eq_false, not_false_eq_true, eL, Option.map_some, Option.map_none, dSlL, slk, doNone, doSome, sortedTD, dLenSet, lsk, g.g, onIns, gf_houses, gf_ties, gf_shy, gf_fond, gf_longings, gfm_see_house, gfm_see_two, gfm_size, gfm_neighbours, gfm_has_way, gfm_lay_way, gfm_lift_way, gfm_like, gfm_liking, gfm_shun, gfm_shunned, gfm_see_road, gfm_wish, gfm_wishes, gfm_rank_of, gp_houses, gp_ties, gp_shy, gp_fond, gp_longings]
  refine x_Guild_see_house g (fun h1 => ?_) fun h1 => wish_of (q2 h1)
  simp only [g.g, g.h, onIns, gf_houses, gf_ties, gf_shy, gf_fond, gf_longings, gfm_see_house, gfm_see_two, gfm_size, gfm_neighbours, gfm_has_way, gfm_lay_way, gfm_lift_way, gfm_like, gfm_liking, gfm_shun, gfm_shunned, gfm_see_road, gfm_wish, gfm_wishes, gfm_rank_of, gp_houses, gp_ties, gp_shy, gp_fond, gp_longings, dSeq, dIfS, dB, dOp, dVar, dCB, dCons, dNil, dRet, dRetN, dNext, dC, dAsg, dgN, dgT, dgSeq, dDrop, dCont, dAndT, dOrT, dNotT, dAndV, dOrV, dNotV, dIf, dIsN, dNotN, dNeg, dLst, dTup, dNewI, dCall, dMeth, dMake, dRaise, dFrz, dIsi, isiK, tyS, inst_NoneType_bool, inst_NoneType_int, inst_NoneType_str, inst_NoneType_list, inst_NoneType_tuple, inst_bool_bool, inst_bool_int, inst_bool_str, inst_bool_list, inst_bool_tuple, inst_int_bool, inst_int_int, inst_int_str, inst_int_list, inst_int_tuple, inst_str_bool, inst_str_int, inst_str_str, inst_str_list, inst_str_tuple, inst_list_bool, inst_list_int, inst_list_str, inst_list_list, inst_list_tuple, inst_tuple_bool, inst_tuple_int, inst_tuple_str, inst_tuple_list, inst_tuple_tuple, iiD, iiD0, subD, mulD, fdivD, modD, shrD, pow_10_6, pow_10_60, ltI, leI, gtI, geI, addI, addD, catD, scatD, lenD, lenS, ixD, ixL, ixLK, ixK, vl, vm, newL, i2D, absD, tupleD, dLM, dLM0, dFld, getF, dGet1, dGet2, getK, dSetIx, rng1, rng2, dFor1, dFor2, dFor, dForK, eqR, rs, dstart, List.map_cons, List.map_nil, List.length_cons, List.length_nil, List.cons_append, List.nil_append, List.replicate, List.getElem?_cons_zero, List.getElem?_cons_succ, List.set_cons_zero, List.set_cons_succ, Option.isSome_some, Option.isNone_some, Option.isNone_none, Nat.add_one_sub_one, Nat.reduceAdd, Nat.reduceSub, Nat.sub_self, Nat.sub_zero, Bool.not_true, Bool.not_false, ↓reduceIte, Bool.false_eq_true, Bool.true_eq_false, okD_int, okD_bl, okD_non, dEq_int, dEq_bl, Bool.true_xor, Bool.false_xor, Bool.not_eq_true', decide_eq_true_eq, decide_eq_false_iff_not, true_and, Bool.and_true, Bool.and_false, Bool.true_and, Bool.false_and, at_0, at_1, at_2, cast0, cast1, cast2, cast3, not_true_eq_false, not_false_eq_true, eL, Option.map_some, Option.map_none, dSlL, slk, doNone, doSome, sortedTD, dLenSet, lsk, nbs_at h1.1 h1.2, listD]
  exact rt_of (q1 h1)
theorem x_Guild_shunned {a : CA} {A : GA} {s : GS} {m : Nat} {x : Int} {S : Sto} {P : D → Sto → Prop} {E : Addr → Sto → Prop} (g : GAt a S A s m) (h : s.ok x) (q : P (.lst ((nb s.n s.H x).map .int)) S) : sp_Guild_shunned a [.ref A.g, .int x] S P E := ⟨A, s, m, x, rfl, g, fun _ => q, fun z => absurd h z⟩

end DL
namespace DL
open PySem L2
def t_chosen (K : PySem.W.Frag) (a : CA) (W : WD) : TDS :=
  (dSeq (dAsg (dMeth a.Guild "shunned" (sp_Guild_shunned a) W (dVar 0) (dCons (dVar 1) dNil)) (dgN 3))
  (dSeq (dIfS (dB (dOp (eqR false) (dVar 1) (dC (.int 0))))
    (dRet (dLst false (dCons (dC (.int 0)) dNil)))
    dNext)
  (dSeq (dAsg (dC .non) (dgN 4))
  (dSeq (dFor (dVar 2) (dgN 5)
    (dIfS (dB (dCall (sp_takes a) W (dCons (dVar 3) (dCons (dVar 1) (dCons (dVar 5) dNil)))))
      (dSeq (dAsg (dOp (addD false) (dLst false (dCons (dVar 1) dNil)) (dVar 5)) (dgN 6))
      (dIfS (dOrT (dB (dIsN (dVar 4))) (dB (dCall (sp_better a) W (dCons (dVar 0) (dCons (dVar 6) (dCons (dVar 4) dNil))))))
        (dAsg (dVar 6) (dgN 4))
        dNext))
      dNext))
  (dRet (dVar 4))))))
abbrev N_chosen : List Str := ["guild", "house", "told", "shunned", "best", "road", "mine"]
def sp_chosen (a : CA) : DSp := fun ds S P E => ∃ (A : GA) (s : GS) (m : Nat) (x : D) (house : Int) (tl : List (Option (List Int))), ds = [.ref A.g, .int house, x] ∧ GAt a S A s m ∧ vm S x = some (tl.map (eO eR)) ∧ (∀ r, some r ∈ tl → s.told r) ∧
  (s.ok house → P (eO eR (s.chosen house tl)) S) ∧ (¬ s.ok house → E a.NoHouse S)
theorem len_chosen (a : CA) (ds : List D) (S : Sto) (Q : D → Sto → Prop) (E : Addr → Sto → Prop) (h : sp_chosen a ds S Q E) : ds.length = ["guild", "house", "told"].length := by
  obtain ⟨_, _, _, _, _, _, rfl, _⟩ := h; rfl
theorem read_chosen (K : PySem.W.Frag) (a : CA) (ds : List D) (S : Sto) (Q : D → Sto → Prop) (E : Addr → Sto → Prop) (h : sp_chosen a ds S Q E) : t_chosen K a (wishOf E) (endsOf Q) (dstart N_chosen ds) S := by
  obtain ⟨A, s, m, x, house, tl, rfl, g, hx, ht, q1, q2⟩ := h
  have hv := vm_vl hx
  have n2 := g.n2
  have hs : sizeLine = 2 ^ 24 := rfl
  rcases vm_cases hx with rfl | ⟨p, rfl, ex⟩
  all_goals
    simp only [t_chosen, N_chosen, dSeq, dIfS, dB, dOp, dVar, dCB, dCons, dNil, dRet, dRetN, dNext, dC, dAsg, dgN, dgT, dgSeq, dDrop, dCont, dAndT, dOrT, dNotT, dAndV, dOrV, dNotV, dIf, dIsN, dNotN, dNeg, dLst, dTup, dNewI, dCall, dMeth, dMake, dRaise, dFrz, dIsi, isiK, tyS, inst_NoneType_bool, inst_NoneType_int, inst_NoneType_str, inst_NoneType_list, inst_NoneType_tuple, inst_bool_bool, inst_bool_int, inst_bool_str, inst_bool_list, inst_bool_tuple, inst_int_bool, inst_int_int, inst_int_str, inst_int_list, inst_int_tuple, inst_str_bool, inst_str_int, inst_str_str, inst_str_list, inst_str_tuple, inst_list_bool, inst_list_int, inst_list_str, inst_list_list, inst_list_tuple, inst_tuple_bool, inst_tuple_int, inst_tuple_str, inst_tuple_list, inst_tuple_tuple, iiD, iiD0, subD, mulD, fdivD, modD, shrD, pow_10_6, pow_10_60, ltI, leI, gtI, geI, addI, addD, catD, scatD, lenD, lenS, ixD, ixL, ixLK, ixK, vl, vm, newL, i2D, absD, tupleD, dLM, dLM0, dFld, getF, dGet1, dGet2, getK, dSetIx, rng1, rng2, dFor1, dFor2, dFor, dForK, eqR, rs, dstart, List.map_cons, List.map_nil, List.length_cons, List.length_nil, List.cons_append, List.nil_append, List.replicate, List.getElem?_cons_zero, List.getElem?_cons_succ, List.set_cons_zero, List.set_cons_succ, Option.isSome_some, Option.isNone_some, Option.isNone_none, Nat.add_one_sub_one, Nat.reduceAdd, Nat.reduceSub, Nat.sub_self, Nat.sub_zero, Bool.not_true, Bool.not_false, ↓reduceIte, Bool.false_eq_true, Bool.true_eq_false, okD_int, okD_bl, okD_non, dEq_int, dEq_bl, Bool.true_xor, Bool.false_xor, Bool.not_eq_true', decide_eq_true_eq, decide_eq_false_iff_not, true_and, Bool.and_true, Bool.and_false, Bool.true_and, Bool.false_and, at_0, at_1, at_2, cast0, cast1, cast2, cast3, not_true_eq_false, not_false_eq_true, eL, Option.map_some, Option.map_none, dSlL, slk, doNone, doSome, sortedTD, dLenSet, lsk, g.g, onIns, gf_houses, gf_ties, gf_shy, gf_fond, gf_longings, gfm_see_house, gfm_see_two, gfm_size, gfm_neighbours, gfm_has_way, gfm_lay_way, gfm_lift_way, gfm_like, gfm_liking, gfm_shun, gfm_shunned, gfm_see_road, gfm_wish, gfm_wishes, gfm_rank_of, gp_houses, gp_ties, gp_shy, gp_fond, gp_longings]
    refine ⟨A, s, m, house, rfl, g, fun h1 => ?_, fun h1 => wish_of (q2 h1)⟩
    replace q1 := q1 h1
    unfold GS.chosen at q1
    first | simp only [dSeq, dIfS, dB, dOp, dVar, dCB, dCons, dNil, dRet, dRetN, dNext, dC, dAsg, dgN, dgT, dgSeq, dDrop, dCont, dAndT, dOrT, dNotT, dAndV, dOrV, dNotV, dIf, dIsN, dNotN, dNeg, dLst, dTup, dNewI, dCall, dMeth, dMake, dRaise, dFrz, dIsi, isiK, tyS, inst_NoneType_bool, inst_NoneType_int, inst_NoneType_str, inst_NoneType_list, inst_NoneType_tuple, inst_bool_bool, inst_bool_int, inst_bool_str, inst_bool_list, inst_bool_tuple, inst_int_bool, inst_int_int, inst_int_str, inst_int_list, inst_int_tuple, inst_str_bool, inst_str_int, inst_str_str, inst_str_list, inst_str_tuple, inst_list_bool, inst_list_int, inst_list_str, inst_list_list, inst_list_tuple, inst_tuple_bool, inst_tuple_int, inst_tuple_str, inst_tuple_list, inst_tuple_tuple, iiD, iiD0, subD, mulD, fdivD, modD, shrD, pow_10_6, pow_10_60, ltI, leI, gtI, geI, addI, addD, catD, scatD, lenD, lenS, ixD, ixL, ixLK, ixK, vl, vm, newL, i2D, absD, tupleD, dLM, dLM0, dFld, getF, dGet1, dGet2, getK, dSetIx, rng1, rng2, dFor1, dFor2, dFor, dForK, eqR, rs, dstart, List.map_cons, List.map_nil, List.length_cons, List.length_nil, List.cons_append, List.nil_append, List.replicate, List.getElem?_cons_zero, List.getElem?_cons_succ, List.set_cons_zero, List.set_cons_succ, Option.isSome_some, Option.isNone_some, Option.isNone_none, Nat.add_one_sub_one, Nat.reduceAdd, Nat.reduceSub, Nat.sub_self, Nat.sub_zero, Bool.not_true, Bool.not_false, ↓reduceIte, Bool.false_eq_true, Bool.true_eq_false, okD_int, okD_bl, okD_non, dEq_int, dEq_bl, Bool.true_xor, Bool.false_xor, Bool.not_eq_true', decide_eq_true_eq, decide_eq_false_iff_not, true_and, Bool.and_true, Bool.and_false, Bool.true_and, Bool.false_and, at_0, at_1, at_2, cast0, cast1, cast2, cast3, not_true_eq_false, not_false_eq_true, eL, Option.map_some, Option.map_none, dSlL, slk, doNone, doSome, sortedTD, dLenSet, lsk, ex] | simp only [dSeq, dIfS, dB, dOp, dVar, dCB, dCons, dNil, dRet, dRetN, dNext, dC, dAsg, dgN, dgT, dgSeq, dDrop, dCont, dAndT, dOrT, dNotT, dAndV, dOrV, dNotV, dIf, dIsN, dNotN, dNeg, dLst, dTup, dNewI, dCall, dMeth, dMake, dRaise, dFrz, dIsi, isiK, tyS, inst_NoneType_bool, inst_NoneType_int, inst_NoneType_str, inst_NoneType_list, inst_NoneType_tuple, inst_bool_bool, inst_bool_int, inst_bool_str, inst_bool_list, inst_bool_tuple, inst_int_bool, inst_int_int, inst_int_str, inst_int_list, inst_int_tuple, inst_str_bool, inst_str_int, inst_str_str, inst_str_list, inst_str_tuple, inst_list_bool, inst_list_int, inst_list_str, inst_list_list, inst_list_tuple, inst_tuple_bool, inst_tuple_int, inst_tuple_str, inst_tuple_list, inst_tuple_tuple, iiD, iiD0, subD, mulD, fdivD, modD, shrD, pow_10_6, pow_10_60, ltI, leI, gtI, geI, addI, addD, catD, scatD, lenD, lenS, ixD, ixL, ixLK, ixK, vl, vm, newL, i2D, absD, tupleD, dLM, dLM0, dFld, getF, dGet1, dGet2, getK, dSetIx, rng1, rng2, dFor1, dFor2, dFor, dForK, eqR, rs, dstart, List.map_cons, List.map_nil, List.length_cons, List.length_nil, List.cons_append, List.nil_append, List.replicate, List.getElem?_cons_zero, List.getElem?_cons_succ, List.set_cons_zero, List.set_cons_succ, Option.isSome_some, Option.isNone_some, Option.isNone_none, Nat.add_one_sub_one, Nat.reduceAdd, Nat.reduceSub, Nat.sub_self, Nat.sub_zero, Bool.not_true, Bool.not_false, ↓reduceIte, Bool.false_eq_true, Bool.true_eq_false, okD_int, okD_bl, okD_non, dEq_int, dEq_bl, Bool.true_xor, Bool.false_xor, Bool.not_eq_true', decide_eq_true_eq, decide_eq_false_iff_not, true_and, Bool.and_true, Bool.and_false, Bool.true_and, Bool.false_and, at_0, at_1, at_2, cast0, cast1, cast2, cast3, not_true_eq_false, not_false_eq_true, eL, Option.map_some, Option.map_none, dSlL, slk, doNone, doSome, sortedTD, dLenSet, lsk]
    by_cases c : house = 0
    · rw [if_pos c]; rw [if_pos c] at q1
      exact ⟨by decide, rt_of q1⟩
    rw [if_neg c]; rw [if_neg c] at q1
    refine dGo_map (f := eO eR) (fun rest ρ S' => S' = S ∧ ∃ best o6 o7, ρ = [some (.ref A.g), some (.int house), some _, some (.lst ((nb s.n s.H house).map .int)), some (eO eR best), o6, o7] ∧ s.mine house best ∧ (∀ r, some r ∈ rest → s.told r) ∧ rest.foldl (s.look house) best = tl.foldl (s.look house) none) ?_ ?_ _ _ _ ⟨rfl, none, _, _, rfl, True.intro, ht, rfl⟩
    · rintro ρ S' ⟨rfl, best, o6, o7, rfl, hm, _, e⟩
      refine ⟨by first | trivial | exact hv, ?_⟩
      rw [List.foldl_nil] at e
      rw [← e] at q1
      simp only [dSeq, dIfS, dB, dOp, dVar, dCB, dCons, dNil, dRet, dRetN, dNext, dC, dAsg, dgN, dgT, dgSeq, dDrop, dCont, dAndT, dOrT, dNotT, dAndV, dOrV, dNotV, dIf, dIsN, dNotN, dNeg, dLst, dTup, dNewI, dCall, dMeth, dMake, dRaise, dFrz, dIsi, isiK, tyS, inst_NoneType_bool, inst_NoneType_int, inst_NoneType_str, inst_NoneType_list, inst_NoneType_tuple, inst_bool_bool, inst_bool_int, inst_bool_str, inst_bool_list, inst_bool_tuple, inst_int_bool, inst_int_int, inst_int_str, inst_int_list, inst_int_tuple, inst_str_bool, inst_str_int, inst_str_str, inst_str_list, inst_str_tuple, inst_list_bool, inst_list_int, inst_list_str, inst_list_list, inst_list_tuple, inst_tuple_bool, inst_tuple_int, inst_tuple_str, inst_tuple_list, inst_tuple_tuple, iiD, iiD0, subD, mulD, fdivD, modD, shrD, pow_10_6, pow_10_60, ltI, leI, gtI, geI, addI, addD, catD, scatD, lenD, lenS, ixD, ixL, ixLK, ixK, vl, vm, newL, i2D, absD, tupleD, dLM, dLM0, dFld, getF, dGet1, dGet2, getK, dSetIx, rng1, rng2, dFor1, dFor2, dFor, dForK, eqR, rs, dstart, List.map_cons, List.map_nil, List.length_cons, List.length_nil, List.cons_append, List.nil_append, List.replicate, List.getElem?_cons_zero, List.getElem?_cons_succ, List.set_cons_zero, List.set_cons_succ, Option.isSome_some, Option.isNone_some, Option.isNone_none, Nat.add_one_sub_one, Nat.reduceAdd, Nat.reduceSub, Nat.sub_self, Nat.sub_zero, Bool.not_true, Bool.not_false, ↓reduceIte, Bool.false_eq_true, Bool.true_eq_false, okD_int, okD_bl, okD_non, dEq_int, dEq_bl, Bool.true_xor, Bool.false_xor, Bool.not_eq_true', decide_eq_true_eq, decide_eq_false_iff_not, true_and, Bool.and_true, Bool.and_false, Bool.true_and, Bool.false_and, at_0, at_1, at_2, cast0, cast1, cast2, cast3, not_true_eq_false, not_false_eq_true, eL, Option.map_some, Option.map_none, dSlL, slk, doNone, doSome, sortedTD, dLenSet, lsk]
      exact rt_of q1
    · rintro o rest ρ S' N ⟨rfl, best, o6, o7, rfl, hm, hr, e⟩ hN
      refine ⟨by first | trivial | exact hv, ?_⟩
      rw [List.foldl_cons] at e
      have hm' := look_mine h1 hm fun r (er : o = some r) => hr r (by rw [← er]; exact List.mem_cons_self)
      have hr' : ∀ r, some r ∈ rest → s.told r := fun r h => hr r (List.mem_cons_of_mem _ h)
      have hN' := fun o6 o7 => hN _ _ ⟨rfl, s.look house best o, o6, o7, rfl, hm', hr', e⟩
      simp only [dgN, List.set_cons_zero, List.set_cons_succ]
      simp only [dIfS, dB, dCall, dCons, dNil, dVar, List.getElem?_cons_zero, List.getElem?_cons_succ]
      refine x_takes (S := S') (shy := nb s.n s.H house) rfl ?_
      (try dsimp only)
      unfold GS.look at hN'
      cases c2 : takeQ (nb s.n s.H house) house o with
      | false =>
        try rw [if_neg (by decide)]
        rw [if_neg (by rw [c2]; decide)] at hN'
        exact hN' _ _
      | true =>
        try rw [if_pos rfl]
        rw [if_pos c2] at hN'
        obtain ⟨r, rfl, hn, _⟩ := takeQ_some c2
        have htr := hr r List.mem_cons_self
        have hrl := htr.len
        have hc : s.rok (house :: r) := htr.cons h1 hn
        have hlen : (r.map D.int).length = r.length := List.length_map ..
        simp only [dSeq, dIfS, dB, dOp, dVar, dCB, dCons, dNil, dRet, dRetN, dNext, dC, dAsg, dgN, dgT, dgSeq, dDrop, dCont, dAndT, dOrT, dNotT, dAndV, dOrV, dNotV, dIf, dIsN, dNotN, dNeg, dLst, dTup, dNewI, dCall, dMeth, dMake, dRaise, dFrz, dIsi, isiK, tyS, inst_NoneType_bool, inst_NoneType_int, inst_NoneType_str, inst_NoneType_list, inst_NoneType_tuple, inst_bool_bool, inst_bool_int, inst_bool_str, inst_bool_list, inst_bool_tuple, inst_int_bool, inst_int_int, inst_int_str, inst_int_list, inst_int_tuple, inst_str_bool, inst_str_int, inst_str_str, inst_str_list, inst_str_tuple, inst_list_bool, inst_list_int, inst_list_str, inst_list_list, inst_list_tuple, inst_tuple_bool, inst_tuple_int, inst_tuple_str, inst_tuple_list, inst_tuple_tuple, iiD, iiD0, subD, mulD, fdivD, modD, shrD, pow_10_6, pow_10_60, ltI, leI, gtI, geI, addI, addD, catD, scatD, lenD, lenS, ixD, ixL, ixLK, ixK, vl, vm, newL, i2D, absD, tupleD, dLM, dLM0, dFld, getF, dGet1, dGet2, getK, dSetIx, rng1, rng2, dFor1, dFor2, dFor, dForK, eqR, rs, dstart, List.map_cons, List.map_nil, List.length_cons, List.length_nil, List.cons_append, List.nil_append, List.replicate, List.getElem?_cons_zero, List.getElem?_cons_succ, List.set_cons_zero, List.set_cons_succ, Option.isSome_some, Option.isNone_some, Option.isNone_none, Nat.add_one_sub_one, Nat.reduceAdd, Nat.reduceSub, Nat.sub_self, Nat.sub_zero, Bool.not_true, Bool.not_false, ↓reduceIte, Bool.false_eq_true, Bool.true_eq_false, okD_int, okD_bl, okD_non, dEq_int, dEq_bl, Bool.true_xor, Bool.false_xor, Bool.not_eq_true', decide_eq_true_eq, decide_eq_false_iff_not, true_and, Bool.and_true, Bool.and_false, Bool.true_and, Bool.false_and, at_0, at_1, at_2, cast0, cast1, cast2, cast3, not_true_eq_false, not_false_eq_true, eL, Option.map_some, Option.map_none, dSlL, slk, doNone, doSome, sortedTD, dLenSet, lsk, eO, hlen]
        refine ⟨by omega, by omega, ?_⟩
        cases best with
        | none => exact hN' _ _
        | some b =>
          simp only [dSeq, dIfS, dB, dOp, dVar, dCB, dCons, dNil, dRet, dRetN, dNext, dC, dAsg, dgN, dgT, dgSeq, dDrop, dCont, dAndT, dOrT, dNotT, dAndV, dOrV, dNotV, dIf, dIsN, dNotN, dNeg, dLst, dTup, dNewI, dCall, dMeth, dMake, dRaise, dFrz, dIsi, isiK, tyS, inst_NoneType_bool, inst_NoneType_int, inst_NoneType_str, inst_NoneType_list, inst_NoneType_tuple, inst_bool_bool, inst_bool_int, inst_bool_str, inst_bool_list, inst_bool_tuple, inst_int_bool, inst_int_int, inst_int_str, inst_int_list, inst_int_tuple, inst_str_bool, inst_str_int, inst_str_str, inst_str_list, inst_str_tuple, inst_list_bool, inst_list_int, inst_list_str, inst_list_list, inst_list_tuple, inst_tuple_bool, inst_tuple_int, inst_tuple_str, inst_tuple_list, inst_tuple_tuple, iiD, iiD0, subD, mulD, fdivD, modD, shrD, pow_10_6, pow_10_60, ltI, leI, gtI, geI, addI, addD, catD, scatD, lenD, lenS, ixD, ixL, ixLK, ixK, vl, vm, newL, i2D, absD, tupleD, dLM, dLM0, dFld, getF, dGet1, dGet2, getK, dSetIx, rng1, rng2, dFor1, dFor2, dFor, dForK, eqR, rs, dstart, List.map_cons, List.map_nil, List.length_cons, List.length_nil, List.cons_append, List.nil_append, List.replicate, List.getElem?_cons_zero, List.getElem?_cons_succ, List.set_cons_zero, List.set_cons_succ, Option.isSome_some, Option.isNone_some, Option.isNone_none, Nat.add_one_sub_one, Nat.reduceAdd, Nat.reduceSub, Nat.sub_self, Nat.sub_zero, Bool.not_true, Bool.not_false, ↓reduceIte, Bool.false_eq_true, Bool.true_eq_false, okD_int, okD_bl, okD_non, dEq_int, dEq_bl, Bool.true_xor, Bool.false_xor, Bool.not_eq_true', decide_eq_true_eq, decide_eq_false_iff_not, true_and, Bool.and_true, Bool.and_false, Bool.true_and, Bool.false_and, at_0, at_1, at_2, cast0, cast1, cast2, cast3, not_true_eq_false, not_false_eq_true, eL, Option.map_some, Option.map_none, dSlL, slk, doNone, doSome, sortedTD, dLenSet, lsk, eO]
          refine x_better (k := house :: r) (l := b) g rfl rfl (by rw [List.length_cons]; omega) (by have := hm.2.1; omega) hc hm.1 ?_
          (try dsimp only)
          dsimp only at hN'
          cases c3 : s.better (house :: r) b with
          | true => rw [c3] at hN'; exact hN' _ _
          | false => rw [c3] at hN'; exact hN' _ _
theorem x_chosen {a : CA} {A : GA} {s : GS} {m : Nat} {x : D} {house : Int} {tl : List (Option (List Int))} {S : Sto} {P : D → Sto → Prop} {E : Addr → Sto → Prop} (g : GAt a S A s m) (hx : vm S x = some (tl.map (eO eR))) (ht : ∀ r, some r ∈ tl → s.told r) (h : s.ok house) (q : P (eO eR (s.chosen house tl)) S) : sp_chosen a [.ref A.g, .int house, x] S P E := ⟨A, s, m, x, house, tl, rfl, g, hx, ht, fun _ => q, fun z => absurd h z⟩

end DL
namespace DL
open PySem L2
def t_Guild_neighbours (K : PySem.W.Frag) (a : CA) (W : WD) : TDS :=
  (dSeq (dDrop (dMeth a.Guild "see_house" (sp_Guild_see_house a) W (dVar 0) (dCons (dVar 1) dNil)))
  (dRet (dCB (listD false) (dCons (dOp ixD (dFld a.Guild "ties" (dVar 0)) (dVar 1)) dNil))))
abbrev N_Guild_neighbours : List Str := ["self", "a"]
def sp_Guild_neighbours (a : CA) : DSp := fun ds S P E => ∃ (A : GA) (s : GS) (m : Nat) (x : Int), ds = [.ref A.g, .int x] ∧ GAt a S A s m ∧ (s.ok x → P (.lst ((nb s.n s.T x).map .int)) S) ∧ (¬ s.ok x → E a.NoHouse S)
theorem len_Guild_neighbours (a : CA) (ds : List D) (S : Sto) (Q : D → Sto → Prop) (E : Addr → Sto → Prop) (h : sp_Guild_neighbours a ds S Q E) : ds.length = ["self", "a"].length := by
  obtain ⟨_, _, _, _, rfl, _⟩ := h; rfl
theorem read_Guild_neighbours (K : PySem.W.Frag) (a : CA) (ds : List D) (S : Sto) (Q : D → Sto → Prop) (E : Addr → Sto → Prop) (h : sp_Guild_neighbours a ds S Q E) : t_Guild_neighbours K a (wishOf E) (endsOf Q) (dstart N_Guild_neighbours ds) S := by
  obtain ⟨A, s, m, x, rfl, g, q1, q2⟩ := h
  simp only [t_Guild_neighbours, N_Guild_neighbours, dSeq, dIfS, dB, dOp, dVar, dCB, dCons, dNil, dRet, dRetN, dNext, dC, dAsg, dgN, dgT, dgSeq, dDrop, dCont, dAndT, dOrT, dNotT, dAndV, dOrV, dNotV, dIf, dIsN, dNotN, dNeg, dLst, dTup, dNewI, dCall, dMeth, dMake, dRaise, dFrz, dIsi, isiK, tyS, inst_NoneType_bool, inst_NoneType_int, inst_NoneType_str, inst_NoneType_list, inst_NoneType_tuple, inst_bool_bool, inst_bool_int, inst_bool_str, inst_bool_list, inst_bool_tuple, inst_int_bool, inst_int_int, inst_int_str, inst_int_list, inst_int_tuple, inst_str_bool, inst_str_int, inst_str_str, inst_str_list, inst_str_tuple, inst_list_bool, inst_list_int, inst_list_str, inst_list_list, inst_list_tuple, inst_tuple_bool, inst_tuple_int, inst_tuple_str, inst_tuple_list, inst_tuple_tuple, iiD, iiD0, subD, mulD, fdivD, modD, shrD, pow_10_6, pow_10_60, ltI, leI, gtI, geI, addI, addD, catD, scatD, lenD, lenS, ixD, ixL, ixLK, ixK, vl, vm, newL, i2D, absD, tupleD, dLM, dLM0, dFld, getF, dGet1, dGet2, getK, dSetIx, rng1, rng2, dFor1, dFor2, dFor, dForK, eqR, rs, dstart, List.map_cons, List.map_nil, List.length_cons, List.length_nil, List.cons_append, List.nil_append, List.replicate, List.getElem?_cons_zero, List.getElem?_cons_succ, List.set_cons_zero, List.set_cons_succ, Option.isSome_some, Option.isNone_some, Option.isNone_none, Nat.add_one_sub_one, Nat.reduceAdd, Nat.reduceSub, Nat.sub_self, Nat.sub_zero, Bool.not_true, Bool.not_false, ↓reduceIte, Bool.false_eq_true, Bool.true_eq_false, okD_int, okD_bl, okD_non, dEq_int, dEq_bl, Bool.true_xor, Bool.false_xor, Bool.not_eq_true', decide_eq_true_eq, decide_eq_false_iff_not, true_and, Bool.and_true, Bool.and_false, Bool.true_and, Bool.false_and, at_0, at_1, at_2, cast0, cast1, cast2, cast3, not_true_eq_false, not_false_eq_true, eL, Option.map_some, Option.map_none, dSlL, slk, doNone, doSome, sortedTD, dLenSet, lsk, g.g, onIns, gf_houses, gf_ties, gf_shy, gf_fond, gf_longings, gfm_see_house, gfm_see_two, gfm_size, gfm_neighbours, gfm_has_way, gfm_lay_way, gfm_lift_way, gfm_like, gfm_liking, gfm_shun, gfm_shunned, gfm_see_road, gfm_wish, gfm_wishes, gfm_rank_of, gp_houses, gp_ties, gp_shy, gp_fond, gp_longings]
  refine x_Guild_see_house g (fun h1 => ?_) fun h1 => wish_of (q2 h1)
  simp only [g.g, g.t, onIns, gf_houses, gf_ties, gf_shy, gf_fond, gf_longings, gfm_see_house, gfm_see_two, gfm_size, gfm_neighbours, gfm_has_way, gfm_lay_way, gfm_lift_way, gfm_like, gfm_liking, gfm_shun, gfm_shunned, gfm_see_road, gfm_wish, gfm_wishes, gfm_rank_of, gp_houses, gp_ties, gp_shy, gp_fond, gp_longings, dSeq, dIfS, dB, dOp, dVar, dCB, dCons, dNil, dRet, dRetN, dNext, dC, dAsg, dgN, dgT, dgSeq, dDrop, dCont, dAndT, dOrT, dNotT, dAndV, dOrV, dNotV, dIf, dIsN, dNotN, dNeg, dLst, dTup, dNewI, dCall, dMeth, dMake, dRaise, dFrz, dIsi, isiK, tyS, inst_NoneType_bool, inst_NoneType_int, inst_NoneType_str, inst_NoneType_list, inst_NoneType_tuple, inst_bool_bool, inst_bool_int, inst_bool_str, inst_bool_list, inst_bool_tuple, inst_int_bool, inst_int_int, inst_int_str, inst_int_list, inst_int_tuple, inst_str_bool, inst_str_int, inst_str_str, inst_str_list, inst_str_tuple, inst_list_bool, inst_list_int, inst_list_str, inst_list_list, inst_list_tuple, inst_tuple_bool, inst_tuple_int, inst_tuple_str, inst_tuple_list, inst_tuple_tuple, iiD, iiD0, subD, mulD, fdivD, modD, shrD, pow_10_6, pow_10_60, ltI, leI, gtI, geI, addI, addD, catD, scatD, lenD, lenS, ixD, ixL, ixLK, ixK, vl, vm, newL, i2D, absD, tupleD, dLM, dLM0, dFld, getF, dGet1, dGet2, getK, dSetIx, rng1, rng2, dFor1, dFor2, dFor, dForK, eqR, rs, dstart, List.map_cons, List.map_nil, List.length_cons, List.length_nil, List.cons_append, List.nil_append, List.replicate, List.getElem?_cons_zero, List.getElem?_cons_succ, List.set_cons_zero, List.set_cons_succ, Option.isSome_some, Option.isNone_some, Option.isNone_none, Nat.add_one_sub_one, Nat.reduceAdd, Nat.reduceSub, Nat.sub_self, Nat.sub_zero, Bool.not_true, Bool.not_false, ↓reduceIte, Bool.false_eq_true, Bool.true_eq_false, okD_int, okD_bl, okD_non, dEq_int, dEq_bl, Bool.true_xor, Bool.false_xor, Bool.not_eq_true', decide_eq_true_eq, decide_eq_false_iff_not, true_and, Bool.and_true, Bool.and_false, Bool.true_and, Bool.false_and, at_0, at_1, at_2, cast0, cast1, cast2, cast3, not_true_eq_false, not_false_eq_true, eL, Option.map_some, Option.map_none, dSlL, slk, doNone, doSome, sortedTD, dLenSet, lsk, nbs_at h1.1 h1.2, listD]
  exact rt_of (q1 h1)
theorem x_Guild_neighbours {a : CA} {A : GA} {s : GS} {m : Nat} {x : Int} {S : Sto} {P : D → Sto → Prop} {E : Addr → Sto → Prop} (g : GAt a S A s m) (h : s.ok x) (q : P (.lst ((nb s.n s.T x).map .int)) S) : sp_Guild_neighbours a [.ref A.g, .int x] S P E := ⟨A, s, m, x, rfl, g, fun _ => q, fun z => absurd h z⟩

end DL
namespace DL
open PySem L2
def t_Guild_size (K : PySem.W.Frag) (a : CA) (W : WD) : TDS :=
  (dRet (dFld a.Guild "houses" (dVar 0)))
abbrev N_Guild_size : List Str := ["self"]
def sp_Guild_size (a : CA) : DSp := fun ds S P E => ∃ (A : GA) (s : GS) (m : Nat), ds = [.ref A.g] ∧ GAt a S A s m ∧ P (.int s.n) S
theorem len_Guild_size (a : CA) (ds : List D) (S : Sto) (Q : D → Sto → Prop) (E : Addr → Sto → Prop) (h : sp_Guild_size a ds S Q E) : ds.length = ["self"].length := by
  obtain ⟨_, _, _, rfl, _⟩ := h; rfl
theorem read_Guild_size (K : PySem.W.Frag) (a : CA) (ds : List D) (S : Sto) (Q : D → Sto → Prop) (E : Addr → Sto → Prop) (h : sp_Guild_size a ds S Q E) : t_Guild_size K a (wishOf E) (endsOf Q) (dstart N_Guild_size ds) S := by
  obtain ⟨A, s, m, rfl, g, q⟩ := h
  simp only [t_Guild_size, N_Guild_size, dSeq, dIfS, dB, dOp, dVar, dCB, dCons, dNil, dRet, dRetN, dNext, dC, dAsg, dgN, dgT, dgSeq, dDrop, dCont, dAndT, dOrT, dNotT, dAndV, dOrV, dNotV, dIf, dIsN, dNotN, dNeg, dLst, dTup, dNewI, dCall, dMeth, dMake, dRaise, dFrz, dIsi, isiK, tyS, inst_NoneType_bool, inst_NoneType_int, inst_NoneType_str, inst_NoneType_list, inst_NoneType_tuple, inst_bool_bool, inst_bool_int, inst_bool_str, inst_bool_list, inst_bool_tuple, inst_int_bool, inst_int_int, inst_int_str, inst_int_list, inst_int_tuple, inst_str_bool, inst_str_int, inst_str_str, inst_str_list, inst_str_tuple, inst_list_bool, inst_list_int, inst_list_str, inst_list_list, inst_list_tuple, inst_tuple_bool, inst_tuple_int, inst_tuple_str, inst_tuple_list, inst_tuple_tuple, iiD, iiD0, subD, mulD, fdivD, modD, shrD, pow_10_6, pow_10_60, ltI, leI, gtI, geI, addI, addD, catD, scatD, lenD, lenS, ixD, ixL, ixLK, ixK, vl, vm, newL, i2D, absD, tupleD, dLM, dLM0, dFld, getF, dGet1, dGet2, getK, dSetIx, rng1, rng2, dFor1, dFor2, dFor, dForK, eqR, rs, dstart, List.map_cons, List.map_nil, List.length_cons, List.length_nil, List.cons_append, List.nil_append, List.replicate, List.getElem?_cons_zero, List.getElem?_cons_succ, List.set_cons_zero, List.set_cons_succ, Option.isSome_some, Option.isNone_some, Option.isNone_none, Nat.add_one_sub_one, Nat.reduceAdd, Nat.reduceSub, Nat.sub_self, Nat.sub_zero, Bool.not_true, Bool.not_false, ↓reduceIte, Bool.false_eq_true, Bool.true_eq_false, okD_int, okD_bl, okD_non, dEq_int, dEq_bl, Bool.true_xor, Bool.false_xor, Bool.not_eq_true', decide_eq_true_eq, decide_eq_false_iff_not, true_and, Bool.and_true, Bool.and_false, Bool.true_and, Bool.false_and, at_0, at_1, at_2, cast0, cast1, cast2, cast3, not_true_eq_false, not_false_eq_true, eL, Option.map_some, Option.map_none, dSlL, slk, doNone, doSome, sortedTD, dLenSet, lsk, g.g, onIns, gf_houses, gf_ties, gf_shy, gf_fond, gf_longings, gfm_see_house, gfm_see_two, gfm_size, gfm_neighbours, gfm_has_way, gfm_lay_way, gfm_lift_way, gfm_like, gfm_liking, gfm_shun, gfm_shunned, gfm_see_road, gfm_wish, gfm_wishes, gfm_rank_of, gp_houses, gp_ties, gp_shy, gp_fond, gp_longings]
  exact rt_of q

end DL
namespace DL
open PySem L2
abbrev Tab := List (Option (List Int))
def GS.row (s : GS) (tab : Tab) (house : Int) : Tab := (nb s.n s.T house).map fun b => tab.getD b.toNat none
def GS.unsetFrom (s : GS) (tab : Tab) (k : Nat) : Option Int := ((List.range' k (s.n - k)).find? fun i => !decide (tab.getD i none = s.chosen (i : Nat) (s.row tab (i : Nat)))).map fun i => (i : Int)
def GS.unsettled (s : GS) (tab : Tab) : Option Int := s.unsetFrom tab 0
theorem unsetFrom_end {s : GS} {tab : Tab} : s.unsetFrom tab s.n = none := by unfold GS.unsetFrom; rw [Nat.sub_self]; rfl
theorem unsetFrom_step {s : GS} {tab : Tab} {k : Nat} (h : k < s.n) : s.unsetFrom tab k = if tab.getD k none = s.chosen (k : Nat) (s.row tab (k : Nat)) then s.unsetFrom tab (k + 1) else some (k : Nat) := by
  unfold GS.unsetFrom
  rw [show s.n - k = (s.n - (k + 1)) + 1 by omega, List.range'_succ, List.find?_cons]
  by_cases c : tab.getD k none = s.chosen (k : Nat) (s.row tab (k : Nat))
  · rw [if_pos c, decide_eq_true c]; rfl
  · rw [if_neg c, decide_eq_false c]; rfl
theorem tab_at {tab : Tab} {b : Int} (h0 : 0 ≤ b) (h1 : b < tab.length) : atI (tab.map (eO eR)) b = some (eO eR (tab.getD b.toNat none)) := by
  rw [atI_tab (eO eR) tab h0 h1, List.getD_eq_getElem?_getD, List.getElem?_eq_getElem (by omega)]; rfl
theorem told_row {s : GS} {tab : Tab} (ht : ∀ r, some r ∈ tab → s.told r) {l : List Int} : ∀ r, some r ∈ l.map (fun b => tab.getD b.toNat none) → s.told r := fun r h => by
  obtain ⟨b, _, e⟩ := List.mem_map.mp h
  rw [List.getD_eq_getElem?_getD] at e
  cases c : tab[b.toNat]? with
  | none => rw [c] at e; cases e
  | some o =>
    rw [c] at e
    obtain ⟨hb, e2⟩ := List.getElem?_eq_some_iff.mp c
    exact ht r (by rw [← show o = some r from e, ← e2]; exact List.getElem_mem _)
theorem rs_eO {S : Sto} (x : Option (List Int)) : rs S (eO eR x) = eO eR x := by cases x <;> rfl
def GS.stepT (s : GS) (tab : Tab) : Tab := (intsN s.n).map fun house => s.chosen house (s.row tab house)
theorem stepT_len (s : GS) (tab : Tab) : (s.stepT tab).length = s.n := by unfold GS.stepT; rw [List.length_map, intsN_len]
def dUns (o : Option Int) : D := match o with
  | some i => .int i
  | none => .non

end DL
namespace DL
open PySem L2
def t_first_unsettled (K : PySem.W.Frag) (a : CA) (W : WD) : TDS :=
  (dSeq (dFor1 (dCons (dMeth a.Guild "size" (sp_Guild_size a) W (dVar 0) dNil) dNil) (dgN 2)
    (dSeq (dAsg (dLc false (diL (dMeth a.Guild "neighbours" (sp_Guild_neighbours a) W (dVar 0) (dCons (dVar 2) dNil))) (dgN 4) dYes (dOp ixD (dVar 1) (dVar 4)) [4]) (dgN 3))
    (dIfS (dB (dOp (eqR true) (dOp ixD (dVar 1) (dVar 2)) (dCall (sp_chosen a) W (dCons (dVar 0) (dCons (dVar 2) (dCons (dVar 3) dNil))))))
      (dRet (dVar 2))
      dNext)))
  (dRet (dC .non)))
abbrev N_first_unsettled : List Str := ["guild", "table", "house", "told", "b"]
def sp_first_unsettled (a : CA) : DSp := fun ds S P E => ∃ (A : GA) (s : GS) (m : Nat) (x : D) (tab : List (Option (List Int))), ds = [.ref A.g, x] ∧ GAt a S A s m ∧ vm S x = some (tab.map (eO eR)) ∧ tab.length = s.n ∧ (∀ r, some r ∈ tab → s.told r) ∧ P (match s.unsettled tab with | some i => .int i | none => .non) S
theorem len_first_unsettled (a : CA) (ds : List D) (S : Sto) (Q : D → Sto → Prop) (E : Addr → Sto → Prop) (h : sp_first_unsettled a ds S Q E) : ds.length = ["guild", "table"].length := by
  obtain ⟨_, _, _, _, _, rfl, _⟩ := h; rfl
theorem read_first_unsettled (K : PySem.W.Frag) (a : CA) (ds : List D) (S : Sto) (Q : D → Sto → Prop) (E : Addr → Sto → Prop) (h : sp_first_unsettled a ds S Q E) : t_first_unsettled K a (wishOf E) (endsOf Q) (dstart N_first_unsettled ds) S := by
  obtain ⟨A, s, m, x, tab, rfl, g, hx, hl, ht, q⟩ := h
  have hs : sizeLine = 2 ^ 24 := rfl
  have n1 := g.n1
  have n2 := g.n2
  simp only [t_first_unsettled, N_first_unsettled, dstart, List.map_cons, List.map_nil, List.length_cons, List.length_nil, List.cons_append, List.nil_append, List.replicate, Nat.add_one_sub_one, Nat.reduceAdd, Nat.reduceSub, Nat.sub_self, Nat.sub_zero]
  rw [dSeq_ap]
  simp only [dIfS, dB, dOp, dVar, dCB, dCons, dNil, dRet, dRetN, dNext, dC, dAsg, dgN, dgT, dgSeq, dDrop, dCont, dAndT, dOrT, dNotT, dAndV, dOrV, dNotV, dIf, dIsN, dNotN, dNeg, dLst, dTup, dNewI, dCall, dMeth, dMake, dRaise, dFrz, dIsi, isiK, tyS, inst_NoneType_bool, inst_NoneType_int, inst_NoneType_str, inst_NoneType_list, inst_NoneType_tuple, inst_bool_bool, inst_bool_int, inst_bool_str, inst_bool_list, inst_bool_tuple, inst_int_bool, inst_int_int, inst_int_str, inst_int_list, inst_int_tuple, inst_str_bool, inst_str_int, inst_str_str, inst_str_list, inst_str_tuple, inst_list_bool, inst_list_int, inst_list_str, inst_list_list, inst_list_tuple, inst_tuple_bool, inst_tuple_int, inst_tuple_str, inst_tuple_list, inst_tuple_tuple, iiD, iiD0, subD, mulD, fdivD, modD, shrD, pow_10_6, pow_10_60, ltI, leI, gtI, geI, addI, addD, catD, scatD, lenD, lenS, ixD, ixL, ixLK, ixK, vl, vm, newL, i2D, absD, tupleD, dLM, dLM0, dFld, getF, dGet1, dGet2, getK, dSetIx, rng1, rng2, dFor1, dFor2, dFor, dForK, eqR, rs, dstart, List.map_cons, List.map_nil, List.length_cons, List.length_nil, List.cons_append, List.nil_append, List.replicate, List.getElem?_cons_zero, List.getElem?_cons_succ, List.set_cons_zero, List.set_cons_succ, Option.isSome_some, Option.isNone_some, Option.isNone_none, Nat.add_one_sub_one, Nat.reduceAdd, Nat.reduceSub, Nat.sub_self, Nat.sub_zero, Bool.not_true, Bool.not_false, ↓reduceIte, Bool.false_eq_true, Bool.true_eq_false, okD_int, okD_bl, okD_non, dEq_int, dEq_bl, Bool.true_xor, Bool.false_xor, Bool.not_eq_true', decide_eq_true_eq, decide_eq_false_iff_not, true_and, Bool.and_true, Bool.and_false, Bool.true_and, Bool.false_and, at_0, at_1, at_2, cast0, cast1, cast2, cast3, not_true_eq_false, not_false_eq_true, eL, Option.map_some, Option.map_none, dSlL, slk, doNone, doSome, sortedTD, dLenSet, lsk, g.g, onIns, gf_houses, gf_ties, gf_shy, gf_fond, gf_longings, gfm_see_house, gfm_see_two, gfm_size, gfm_neighbours, gfm_has_way, gfm_lay_way, gfm_lift_way, gfm_like, gfm_liking, gfm_shun, gfm_shunned, gfm_see_road, gfm_wish, gfm_wishes, gfm_rank_of, gp_houses, gp_ties, gp_shy, gp_fond, gp_longings]
  refine ⟨A, s, m, rfl, g, ?_⟩
  simp only [dIfS, dB, dOp, dVar, dCB, dCons, dNil, dRet, dRetN, dNext, dC, dAsg, dgN, dgT, dgSeq, dDrop, dCont, dAndT, dOrT, dNotT, dAndV, dOrV, dNotV, dIf, dIsN, dNotN, dNeg, dLst, dTup, dNewI, dCall, dMeth, dMake, dRaise, dFrz, dIsi, isiK, tyS, inst_NoneType_bool, inst_NoneType_int, inst_NoneType_str, inst_NoneType_list, inst_NoneType_tuple, inst_bool_bool, inst_bool_int, inst_bool_str, inst_bool_list, inst_bool_tuple, inst_int_bool, inst_int_int, inst_int_str, inst_int_list, inst_int_tuple, inst_str_bool, inst_str_int, inst_str_str, inst_str_list, inst_str_tuple, inst_list_bool, inst_list_int, inst_list_str, inst_list_list, inst_list_tuple, inst_tuple_bool, inst_tuple_int, inst_tuple_str, inst_tuple_list, inst_tuple_tuple, iiD, iiD0, subD, mulD, fdivD, modD, shrD, pow_10_6, pow_10_60, ltI, leI, gtI, geI, addI, addD, catD, scatD, lenD, lenS, ixD, ixL, ixLK, ixK, vl, vm, newL, i2D, absD, tupleD, dLM, dLM0, dFld, getF, dGet1, dGet2, getK, dSetIx, rng1, rng2, dFor1, dFor2, dFor, dForK, eqR, rs, dstart, List.map_cons, List.map_nil, List.length_cons, List.length_nil, List.cons_append, List.nil_append, List.replicate, List.getElem?_cons_zero, List.getElem?_cons_succ, List.set_cons_zero, List.set_cons_succ, Option.isSome_some, Option.isNone_some, Option.isNone_none, Nat.add_one_sub_one, Nat.reduceAdd, Nat.reduceSub, Nat.sub_self, Nat.sub_zero, Bool.not_true, Bool.not_false, ↓reduceIte, Bool.false_eq_true, Bool.true_eq_false, okD_int, okD_bl, okD_non, dEq_int, dEq_bl, Bool.true_xor, Bool.false_xor, Bool.not_eq_true', decide_eq_true_eq, decide_eq_false_iff_not, true_and, Bool.and_true, Bool.and_false, Bool.true_and, Bool.false_and, at_0, at_1, at_2, cast0, cast1, cast2, cast3, not_true_eq_false, not_false_eq_true, eL, Option.map_some, Option.map_none, dSlL, slk, doNone, doSome, sortedTD, dLenSet, lsk]
  refine ⟨by omega, ?_⟩
  have hnn : ((s.n : Nat) : Int).toNat = s.n := by omega
  rw [hnn]
  refine dGo_rng (fun k ρ S' => S' = S ∧ (∃ o2 o3 o4, ρ = [some (.ref A.g), some x, o2, o3, o4]) ∧ s.unsettled tab = s.unsetFrom tab k) ?_ ?_ _ _ ⟨rfl, ⟨_, _, _, rfl⟩, rfl⟩
  · rintro ρ S' ⟨rfl, ⟨o2, o3, o4, rfl⟩, e⟩
    rw [e, unsetFrom_end] at q
    simp only [dSeq, dIfS, dB, dOp, dVar, dCB, dCons, dNil, dRet, dRetN, dNext, dC, dAsg, dgN, dgT, dgSeq, dDrop, dCont, dAndT, dOrT, dNotT, dAndV, dOrV, dNotV, dIf, dIsN, dNotN, dNeg, dLst, dTup, dNewI, dCall, dMeth, dMake, dRaise, dFrz, dIsi, isiK, tyS, inst_NoneType_bool, inst_NoneType_int, inst_NoneType_str, inst_NoneType_list, inst_NoneType_tuple, inst_bool_bool, inst_bool_int, inst_bool_str, inst_bool_list, inst_bool_tuple, inst_int_bool, inst_int_int, inst_int_str, inst_int_list, inst_int_tuple, inst_str_bool, inst_str_int, inst_str_str, inst_str_list, inst_str_tuple, inst_list_bool, inst_list_int, inst_list_str, inst_list_list, inst_list_tuple, inst_tuple_bool, inst_tuple_int, inst_tuple_str, inst_tuple_list, inst_tuple_tuple, iiD, iiD0, subD, mulD, fdivD, modD, shrD, pow_10_6, pow_10_60, ltI, leI, gtI, geI, addI, addD, catD, scatD, lenD, lenS, ixD, ixL, ixLK, ixK, vl, vm, newL, i2D, absD, tupleD, dLM, dLM0, dFld, getF, dGet1, dGet2, getK, dSetIx, rng1, rng2, dFor1, dFor2, dFor, dForK, eqR, rs, dstart, List.map_cons, List.map_nil, List.length_cons, List.length_nil, List.cons_append, List.nil_append, List.replicate, List.getElem?_cons_zero, List.getElem?_cons_succ, List.set_cons_zero, List.set_cons_succ, Option.isSome_some, Option.isNone_some, Option.isNone_none, Nat.add_one_sub_one, Nat.reduceAdd, Nat.reduceSub, Nat.sub_self, Nat.sub_zero, Bool.not_true, Bool.not_false, ↓reduceIte, Bool.false_eq_true, Bool.true_eq_false, okD_int, okD_bl, okD_non, dEq_int, dEq_bl, Bool.true_xor, Bool.false_xor, Bool.not_eq_true', decide_eq_true_eq, decide_eq_false_iff_not, true_and, Bool.and_true, Bool.and_false, Bool.true_and, Bool.false_and, at_0, at_1, at_2, cast0, cast1, cast2, cast3, not_true_eq_false, not_false_eq_true, eL, Option.map_some, Option.map_none, dSlL, slk, doNone, doSome, sortedTD, dLenSet, lsk]
    exact rt_of q
  · rintro k ρ S' N hk ⟨rfl, ⟨o2, o3, o4, rfl⟩, e⟩ hN
    have hok : s.ok (0 + (k : Nat)) := ⟨by omega, by omega⟩
    simp only [dgN, List.set_cons_zero, List.set_cons_succ]
    rw [dSeq_ap]
    simp only [dAsg, dLc, diL, dMeth, dCons, dNil, dVar, List.getElem?_cons_zero, List.getElem?_cons_succ, g.g, onIns, gf_houses, gf_ties, gf_shy, gf_fond, gf_longings, gfm_see_house, gfm_see_two, gfm_size, gfm_neighbours, gfm_has_way, gfm_lay_way, gfm_lift_way, gfm_like, gfm_liking, gfm_shun, gfm_shunned, gfm_see_road, gfm_wish, gfm_wishes, gfm_rank_of, gp_houses, gp_ties, gp_shy, gp_fond, gp_longings, true_and]
    refine x_Guild_neighbours g hok ?_
    simp only [vl, vm, diLk]
    have hnb := nb_len s.n s.T (0 + (k : Nat))
    refine lc_all (m := false) (P := _) D.int (fun b => eO eR (tab.getD b.toNat none)) (by omega) (fun _ _ => by first | trivial | rfl) (fun b hb S2 Y hS2 y => ?_) ?_
    · have hb2 := (nb_mem.mp hb).1
      simp only [wipeD, dgN, List.set_cons_zero, List.set_cons_succ, dOp, dVar, List.getElem?_cons_zero, List.getElem?_cons_succ]
      rw [ixD_vm (vm_le hx hS2)]
      simp only [ixL]
      rw [tab_at hb2.1 (by omega)]
      exact y
    · rw [show (nb s.n s.T (0 + (k : Nat))).map (fun b => eO eR (tab.getD b.toNat none)) = ((nb s.n s.T (0 + (k : Nat))).map fun b => tab.getD b.toNat none).map (eO eR) by rw [List.map_map]; rfl]
      simp only [newL, dgN, List.set_cons_zero, List.set_cons_succ, dIfS, dB, dOp, dVar, List.getElem?_cons_zero, List.getElem?_cons_succ, dCall, dCons, dNil]
      rw [ixD_vm hx]
      simp only [ixL]
      rw [tab_at (by omega) (by omega)]
      refine x_chosen g rfl (told_row ht) hok ?_
      simp only [eqR, rs_eO, okD_eO, dEq_eO, true_and, Bool.true_xor]
      rw [unsetFrom_step hk] at e
      have hk0 : (0 + (k : Nat) : Int) = (k : Nat) := by omega
      rw [hk0]
      have hk1 : ((k : Nat) : Int).toNat = k := by omega
      rw [hk1]
      by_cases c : tab.getD k none = s.chosen (k : Nat) (s.row tab k)
      · rw [if_pos c] at e
        rw [show ((nb s.n s.T (k : Nat)).map fun b => tab.getD b.toNat none) = s.row tab k from rfl, decide_eq_true c]
        simp only [Bool.not_true, Bool.false_eq_true, ↓reduceIte, dNext]
        exact hN _ _ ⟨rfl, ⟨_, _, _, rfl⟩, e⟩
      · rw [if_neg c] at e
        rw [e] at q
        rw [show ((nb s.n s.T (k : Nat)).map fun b => tab.getD b.toNat none) = s.row tab k from rfl, decide_eq_false c]
        simp only [Bool.not_false, ↓reduceIte, dRet, dVar, List.getElem?_cons_zero, List.getElem?_cons_succ]
        exact rt_of q
theorem x_first_unsettled {a : CA} {A : GA} {s : GS} {m : Nat} {x : D} {tab : List (Option (List Int))} {S : Sto} {P : D → Sto → Prop} {E : Addr → Sto → Prop} (g : GAt a S A s m) (hx : vm S x = some (tab.map (eO eR))) (hl : tab.length = s.n) (ht : ∀ r, some r ∈ tab → s.told r) (q : P (match s.unsettled tab with | some i => .int i | none => .non) S) : sp_first_unsettled a [.ref A.g, x] S P E := ⟨A, s, m, x, tab, rfl, g, hx, hl, ht, q⟩

end DL
namespace DL
open PySem L2
def roadGo : Nat → Int → Int → List Int → List Int
  | 0, _, _, _ => []
  | n + 1, cell, many, rest => if 0 < many ∧ 0 < rest.length then rest.getD (cell % rest.length).toNat 0 :: roadGo n (cell / 5) (many - 1) (rest.eraseIdx (cell % rest.length).toNat) else []
theorem roadGo_step {cell many : Int} {rest : List Int} (h1 : 0 < many) (h2 : 0 < rest.length) (hi : (cell % (rest.length : Int)).toNat < rest.length) :
    roadGo rest.length cell many rest = rest[(cell % (rest.length : Int)).toNat] :: roadGo (rest.eraseIdx (cell % (rest.length : Int)).toNat).length (cell / 5) (many - 1) (rest.eraseIdx (cell % (rest.length : Int)).toNat) := by
  have e : ∀ n, rest.length = n + 1 → roadGo (n + 1) cell many rest = rest[(cell % (rest.length : Int)).toNat] :: roadGo n (cell / 5) (many - 1) (rest.eraseIdx (cell % (rest.length : Int)).toNat) := fun n _ => by
    rw [roadGo, if_pos ⟨h1, h2⟩, List.getD_eq_getElem?_getD, List.getElem?_eq_getElem hi]; rfl
  rw [List.length_eraseIdx_of_lt hi]
  have h3 := e (rest.length - 1) (by omega)
  rwa [show rest.length - 1 + 1 = rest.length by omega] at h3
def restOf (house : Int) (size : Nat) : List Int := ((List.range (size - 1)).filter fun i => decide (¬ (1 + (i : Nat) : Int) = house)).map fun i => 1 + (i : Nat)
def roadMany (cell : Int) (size : Nat) : Int := if cell / 4 % 8 = 3 then size else cell % 4
def roadBy (cell house : Int) (size : Nat) : List Int := house :: roadGo (restOf house size).length (cell / 4) (roadMany cell size) (restOf house size) ++ [0]
theorem restOf_mem {house x : Int} {size : Nat} (h : x ∈ restOf house size) : x ≠ house ∧ 1 ≤ x ∧ x < size := by
  unfold restOf at h
  obtain ⟨i, hi, rfl⟩ := List.mem_map.mp h
  have h1 := List.mem_filter.mp hi
  have h2 := List.mem_range.mp h1.1
  have h3 := of_decide_eq_true h1.2
  exact ⟨h3, by omega, by omega⟩
theorem restOf_nodup (house : Int) (size : Nat) : (restOf house size).Nodup := by
  unfold restOf
  unfold List.Nodup
  rw [List.pairwise_map]
  refine ((List.nodup_range (n := size - 1)).filter _).imp fun {x y} h z => h (by omega)
theorem roadGo_mem : ∀ (n : Nat) (cell many : Int) (rest : List Int) (x : Int), x ∈ roadGo n cell many rest → x ∈ rest
  | 0, _, _, _, x, h => by cases h
  | n + 1, cell, many, rest, x, h => by
    rw [roadGo] at h
    split at h
    · rename_i hc
      have b0 : 0 ≤ cell % (rest.length : Int) := Int.emod_nonneg _ (by omega)
      have b1 : cell % (rest.length : Int) < rest.length := Int.emod_lt_of_pos _ (by omega)
      rcases List.mem_cons.mp h with h | h
      · rw [h, List.getD_eq_getElem?_getD, List.getElem?_eq_getElem (by omega)]
        exact List.getElem_mem _
      · exact List.mem_of_mem_eraseIdx (roadGo_mem n _ _ _ x h)
    · cases h
theorem roadGo_nodup : ∀ (n : Nat) (cell many : Int) (rest : List Int), rest.Nodup → (roadGo n cell many rest).Nodup
  | 0, _, _, _, _ => List.nodup_nil
  | n + 1, cell, many, rest, hd => by
    rw [roadGo]
    split
    · rename_i hc
      have b0 : 0 ≤ cell % (rest.length : Int) := Int.emod_nonneg _ (by omega)
      have b1 : cell % (rest.length : Int) < rest.length := Int.emod_lt_of_pos _ (by omega)
      refine List.nodup_cons.mpr ⟨fun hx => ?_, roadGo_nodup n _ _ _ (hd.sublist (List.eraseIdx_sublist ..))⟩
      have h1 := roadGo_mem _ _ _ _ _ hx
      rw [List.getD_eq_getElem?_getD, List.getElem?_eq_getElem (by omega)] at h1
      have h2 : (cell % (rest.length : Int)).toNat < rest.length := by omega
      have h4 := List.mem_eraseIdx_iff_getElem.mp h1
      obtain ⟨j, hj, hne, he⟩ := h4
      exact hne (nodup_inj hd _ _ he)
    · exact List.nodup_nil
theorem roadBy_next {cell house : Int} {size : Nat} (h : 1 ≤ size) : 2 ≤ (roadBy cell house size).length ∧ 0 ≤ (roadBy cell house size).getD 1 0 ∧ (roadBy cell house size).getD 1 0 < size := by
  unfold roadBy
  refine ⟨by simp, ?_⟩
  cases e : roadGo (restOf house size).length (cell / 4) (roadMany cell size) (restOf house size) with
  | nil => simp; omega
  | cons x xs =>
    have h1 := restOf_mem (roadGo_mem _ _ _ _ x (by rw [e]; exact List.mem_cons_self))
    simp; omega

end DL
namespace DL
open PySem L2
def keyRank (fl dl : List (List Int × Int)) (r : List Int) : Int := match kget dl r with
  | some k => k
  | none => (kget fl [r.getD 0 0, r.getD 1 0]).getD 0
theorem keyRank_eq {s : GS} {fl dl : List (List Int × Int)} (hF : ∀ x y, s.F x y = (kget fl [x, y]).getD 0) (hL : ∀ r, kget s.L r = kget dl r) (r : List Int) : keyRank fl dl r = s.rank r := by
  unfold keyRank GS.rank
  rw [hL, hF] <;> rfl

end DL
namespace DL
open PySem L2
abbrev KL := List (List Int × Int)
structure FondOk (n : Nat) (L : KL) : Prop where
  k : ∀ q ∈ L, ∃ x y : Int, q.1 = [x, y] ∧ (0 ≤ x ∧ x < n) ∧ (0 ≤ y ∧ y < n)
  l : L.length ≤ 100
structure DearOk (n : Nat) (L : KL) : Prop where
  k : ∀ q ∈ L, (GS.new n).rok q.1
  l : L.length ≤ 100
  d : (L.map (·.1)).Nodup
theorem rok_n {s s' : GS} (h : s.n = s'.n) {l : List Int} : s.rok l ↔ s'.rok l := by unfold GS.rok GS.rd GS.ok; rw [h]
theorem told_n {s s' : GS} (h : s.n = s'.n) {l : List Int} : s.told l ↔ s'.told l := by unfold GS.told GS.ok; rw [h]
theorem ok_n {s s' : GS} (h : s.n = s'.n) {x : Int} : s.ok x ↔ s'.ok x := by unfold GS.ok; rw [h]
theorem kput_keys {κ β : Type} [DecidableEq κ] (l : List (κ × β)) (k : κ) (v : β) : (kput l k v).map (·.1) = if k ∈ l.map (·.1) then l.map (·.1) else l.map (·.1) ++ [k] := by
  unfold kput
  have e : l.any (fun p => decide (p.1 = k)) = decide (k ∈ l.map (·.1)) := by
    rw [Bool.eq_iff_iff, List.any_eq_true, decide_eq_true_eq, List.mem_map]
    constructor
    · rintro ⟨p, hp, h⟩; exact ⟨p, hp, of_decide_eq_true h⟩
    · rintro ⟨p, hp, h⟩; exact ⟨p, hp, decide_eq_true h⟩
  rw [e]
  by_cases c : k ∈ l.map (·.1)
  · rw [if_pos (decide_eq_true c), if_pos c, List.map_map]
    refine List.map_congr_left fun p _ => ?_
    simp only [Function.comp]
    split <;> rfl
  · rw [if_neg (by simpa using c), if_neg c, List.map_append]; rfl
theorem kput_nodup {κ β : Type} [DecidableEq κ] {l : List (κ × β)} (k : κ) (v : β) (h : (l.map (·.1)).Nodup) : ((kput l k v).map (·.1)).Nodup := by
  rw [kput_keys]
  split
  · exact h
  · rename_i c
    rw [List.nodup_append]
    exact ⟨h, nodup_one k, fun x hx y hy z => c (by rw [List.mem_singleton.mp hy] at z; rw [← z]; exact hx)⟩
theorem kput_mem {κ β : Type} [DecidableEq κ] {l : List (κ × β)} {k : κ} {v : β} {q : κ × β} (h : q ∈ kput l k v) : q.1 = k ∨ ∃ u, (q.1, u) ∈ l := by
  have h2 : q.1 ∈ (kput l k v).map (·.1) := List.mem_map.mpr ⟨q, h, rfl⟩
  rw [kput_keys] at h2
  split at h2
  · obtain ⟨p, hp, e⟩ := List.mem_map.mp h2
    exact .inr ⟨p.2, by rw [← e]; exact hp⟩
  · rcases List.mem_append.mp h2 with h2 | h2
    · obtain ⟨p, hp, e⟩ := List.mem_map.mp h2
      exact .inr ⟨p.2, by rw [← e]; exact hp⟩
    · exact .inl (List.mem_singleton.mp h2)
theorem kput_new {κ β : Type} [DecidableEq κ] {l : List (κ × β)} {k : κ} {v : β} (h : k ∉ l.map (·.1)) : kput l k v = l ++ [(k, v)] := by
  unfold kput
  rw [if_neg]
  intro z
  obtain ⟨p, hp, e⟩ := List.any_eq_true.mp z
  exact h (List.mem_map.mpr ⟨p, hp, of_decide_eq_true e⟩)
theorem DearOk.put {n : Nat} {L : KL} {r : List Int} {k : Int} (h : DearOk n L) (hr : (GS.new n).rok r) (hl : L.length < 100) : DearOk n (kput L r k) :=
  ⟨fun q hq => by
    rcases kput_mem hq with e | ⟨u, e⟩
    · rw [e]; exact hr
    · exact h.k (q.1, u) e, Nat.le_trans (kput_len _ _ _) hl, kput_nodup _ _ h.d⟩
theorem FondOk.put {n : Nat} {L : KL} {x y k : Int} (h : FondOk n L) (hx : 0 ≤ x ∧ x < n) (hy : 0 ≤ y ∧ y < n) (hl : L.length < 100) : FondOk n (kput L [x, y] k) :=
  ⟨fun q hq => by
    rcases kput_mem hq with e | ⟨u, e⟩
    · exact ⟨x, y, e, hx, hy⟩
    · exact h.k (q.1, u) e, Nat.le_trans (kput_len _ _ _) hl⟩
theorem FondOk.nil (n : Nat) : FondOk n [] := ⟨fun q h => (by cases h), Nat.zero_le _⟩
theorem DearOk.nil (n : Nat) : DearOk n [] := ⟨fun q h => (by cases h), Nat.zero_le _, List.nodup_nil⟩
structure WayOk (n : Nat) (w : WL) : Prop where
  k : ∀ p ∈ w, (0 ≤ p.1 ∧ p.1 < p.2 ∧ p.2 < n)
  d : w.Nodup
  l : w.length ≤ 100000
structure ShyOk (n : Nat) (w : WL) : Prop where
  k : ∀ p ∈ w, (0 ≤ p.1 ∧ p.1 < n) ∧ (0 ≤ p.2 ∧ p.2 < n) ∧ p.1 ≠ p.2
  l : w.length ≤ 1000
def gOf (n : Nat) (wl : WL) (fl dl : KL) (sl : WL) : GS := ⟨n, relW wl, fun x y => decide ((x, y) ∈ sl), fun x y => (kget fl [x, y]).getD 0, dl⟩
theorem roadBy_ok {cell house : Int} {n : Nat} (h : 1 ≤ house ∧ house < n) : (GS.new n).rok (roadBy cell house n) := by
  have hn : 1 ≤ n := by omega
  have hm := fun x (hx : x ∈ roadGo (restOf house n).length (cell / 4) (roadMany cell n) (restOf house n)) => restOf_mem (roadGo_mem _ _ _ _ x hx)
  have hd := roadGo_nodup (restOf house n).length (cell / 4) (roadMany cell n) (restOf house n) (restOf_nodup house n)
  unfold roadBy
  refine ⟨fun x hx => ?_, by simp, by rw [List.cons_append, List.getLast?_cons, List.getLast?_append]; simp, ?_⟩
  · show 0 ≤ x ∧ x < (n : Int)
    simp only [List.cons_append, List.mem_cons, List.mem_append, List.not_mem_nil, or_false] at hx
    rcases hx with rfl | hx | rfl
    · omega
    · have := hm x hx; omega
    · omega
  · rw [List.cons_append, List.nodup_cons, List.nodup_append]
    refine ⟨fun z => ?_, hd, nodup_one 0, fun x hx y hy z => ?_⟩
    · rcases List.mem_append.mp z with z | z
      · exact (hm _ z).1 rfl
      · rw [List.mem_singleton.mp z] at h; omega
    · rw [List.mem_singleton.mp hy] at z
      have := hm x hx; omega
theorem roadBy_told {cell house : Int} {n : Nat} (h : 1 ≤ house ∧ house < n) : (GS.new n).told (roadBy cell house n) := let ⟨a, _, b, c⟩ := roadBy_ok (cell := cell) h; ⟨a, b, c⟩
theorem rok_len {s : GS} {l : List Int} (h : s.rok l) : l.length ≤ s.n := nodup_le _ _ h.2.2.2 fun g hg => h.1 g hg
theorem SLe.put {S0 S : Sto} {p : Addr} {c : Cl} (h : SLe S0 S) (hp : S0 p = none) : SLe S0 (DL.su S p c) := fun b v hb => by
  rw [su_ne fun z => by rw [z, hp] at hb; cases hb]; exact h b v hb
theorem SLe.stepG {S0 S S' : Sto} {A : GA} (h : SLe S0 S) (hA : ∀ b ∈ A.all, S0 b = none) (f : ∀ b, b ∉ A.all → S' b = S b) : SLe S0 S' := fun b v hb => by
  rw [f b fun z => by rw [hA b z] at hb; cases hb]; exact h b v hb
theorem SLe.none {S0 S : Sto} {p : Addr} (h : SLe S0 S) (hp : S p = none) : S0 p = none := by
  cases c : S0 p with
  | none => rfl
  | some v => rw [h p v c] at hp; cases hp
theorem lex_total {k l : List Int} (h : k ≠ l) : decide (l < k) = !decide (k < l) := by
  by_cases c : k < l
  · rw [decide_eq_true c, decide_eq_false (List.lt_asymm c)]; rfl
  · rw [decide_eq_false c]
    by_cases c2 : l < k
    · rw [decide_eq_true c2]; rfl
    · exact absurd (List.le_antisymm (List.not_lt.mp c2) (List.not_lt.mp c)) h
theorem better_not {s : GS} {k l : List Int} (h : k ≠ l) : s.better l k = !s.better k l := by
  unfold GS.better
  by_cases c : s.rank k = s.rank l
  · rw [if_neg (not_not_intro c.symm), if_neg (not_not_intro c)]
    by_cases c2 : k.length = l.length
    · rw [if_neg (not_not_intro c2.symm), if_neg (not_not_intro c2)]; exact lex_total h
    · rw [if_pos (Ne.symm c2), if_pos c2, ← decide_not, decide_eq_decide]; omega
  · rw [if_pos (Ne.symm c), if_pos c, ← decide_not, decide_eq_decide]; omega
theorem better_key {s : GS} {fl dl : KL} {k l : List Int} (hk : keyRank fl dl k = s.rank k) (hl : keyRank fl dl l = s.rank l) : (if keyRank fl dl k ≠ keyRank fl dl l then decide (keyRank fl dl l < keyRank fl dl k) else if k.length ≠ l.length then decide (k.length < l.length) else decide (k < l)) = s.better k l := by
  rw [hk, hl]; rfl
structure Same' (s : GS) (fl dl : KL) (sl : WL) : Prop where
  F : ∀ x y, s.F x y = (kget fl [x, y]).getD 0
  L : ∀ r, kget s.L r = kget dl r
  H : ∀ x y : Int, 0 ≤ x → x < s.n → 0 ≤ y → y < s.n → s.H x y = decide ((x, y) ∈ sl)
theorem takeQ_same {s : GS} {fl dl : KL} {sl : WL} (e : Same' s fl dl sl) {house : Int} (hh : s.ok house) {r : List Int} (hr : s.told r) : takeQ (nb s.n s.H house) house (some r) = (!decide (house ∈ r) && !r.any fun far => decide ((house, far) ∈ sl)) := by
  simp only [takeQ]
  congr 2
  rw [Bool.eq_iff_iff, List.any_eq_true, List.any_eq_true]
  constructor
  · rintro ⟨x, hx, h⟩
    have h1 := nb_mem.mp hx
    exact ⟨x, of_decide_eq_true h, by rw [← e.H house x hh.1 hh.2 h1.1.1 h1.1.2]; exact h1.2⟩
  · rintro ⟨x, hx, h⟩
    have h1 := hr.1 x hx
    exact ⟨x, nb_mem.mpr ⟨h1, by rw [e.H house x hh.1 hh.2 h1.1 h1.2]; exact h⟩, decide_eq_true hx⟩
theorem app_nodup {w : WL} {q : Int × Int} (h : w.Nodup) (hq : q ∉ w) : (w ++ [q]).Nodup := by
  rw [List.nodup_append]
  exact ⟨h, nodup_one q, fun x hx y hy z => hq (by rw [List.mem_singleton.mp hy] at z; rw [← z]; exact hx)⟩
structure FreshG (S S' : Sto) (A : GA) : Prop where
  o : ∀ b, b ∉ A.all → S' b = S b
  n : ∀ b ∈ A.all, S b = none
theorem FreshG.le {S S' : Sto} {A : GA} (f : FreshG S S' A) : SLe S S' := fun b v hb => by
  rw [f.o b fun z => by rw [f.n b z] at hb; cases hb]; exact hb
theorem FreshG.step {S S' S'' : Sto} {A : GA} (f : FreshG S S' A) (h : ∀ b, b ∉ A.all → S'' b = S' b) : FreshG S S'' A := ⟨fun b hb => by rw [h b hb]; exact f.o b hb, f.n⟩
theorem FreshG.vm {S S' : Sto} {A : GA} (f : FreshG S S' A) {x : D} {xs : List D} (h : DL.vm S x = some xs) : DL.vm S' x = some xs := vm_le h f.le
theorem FreshG.at {S S' : Sto} {A : GA} (f : FreshG S S' A) {p : Addr} {c : Cl} (h : S p = some c) : S' p = some c := f.le p c h

end DL
namespace DL
open PySem L2
open PySem.W in
theorem le_tup (x y : List Int) : dataLe false toP (D.tup (x.map .int)) (D.tup (y.map .int)) = decide (x ≤ y) := by
  have h := congrFun (congrFun (dataLe_rows (β := List Int) fun b => b) x) y
  rw [← h, dataLe_eq, dataLe_eq]
  have e : ∀ z : List Int, toPs (z.map D.int) = z.map PyData.int := fun z => by rw [toPs_map, List.map_map]; rfl
  simp only [cond_false, dataLt, toP, keyToks, e]
def sortK (ks : List (List Int)) : List (List Int) := ks.mergeSort fun x y => decide (x ≤ y)
def eTup (k : List Int) : D := .tup (k.map .int)
theorem srt_tups (ks : List (List Int)) : srtD (ks.map eTup) = (sortK ks).map eTup := by
  unfold srtD sortK
  exact (List.map_mergeSort fun x _ y _ => (le_tup x y).symm).symm
theorem sortK_perm (ks : List (List Int)) : (sortK ks).Perm ks := List.mergeSort_perm ks _
theorem sortK_len (ks : List (List Int)) : (sortK ks).length = ks.length := (sortK_perm ks).length_eq
open PySem.W in
theorem alike_tups (ks : List (List Int)) : AllAlike ((ks.map eTup).map toP) := by
  intro d hd d' hd'
  rw [List.map_map] at hd hd'
  obtain ⟨x, _, rfl⟩ := List.mem_map.mp hd
  obtain ⟨y, _, rfl⟩ := List.mem_map.mp hd'
  have e : ∀ z : List Int, toPs (z.map D.int) = z.map PyData.int := fun z => by rw [toPs_map, List.map_map]; rfl
  simp only [Function.comp, eTup, toP, alike, e]
  exact alike_ints x y
open PySem.W in
theorem sortable_tups (ks : List (List Int)) (h : ∀ k ∈ ks, k ≠ []) : Sortable ((ks.map eTup).map toP) := by
  left
  intro d hd
  rw [List.map_map] at hd
  obtain ⟨x, hx, rfl⟩ := List.mem_map.mp hd
  cases x with
  | nil => exact absurd rfl (h [] hx)
  | cons i r => exact ⟨.int i, toPs (r.map .int), rfl⟩
theorem pures_tups (ks : List (List Int)) : pureDs (ks.map eTup) = true := Enc.int.tup.lst.pu ks
theorem depth_tups (ks : List (List Int)) : ∀ d ∈ ks.map eTup, (toP d).depth ≤ 60 := fun d hd => by
  obtain ⟨x, _, rfl⟩ := List.mem_map.mp hd
  exact Nat.le_trans (Enc.int.tup.dp x) (by decide)
theorem sortedT_tups {m : Bool} {ks : List (List Int)} {S : Sto} {P : D → Sto → Prop} (h : ∀ k ∈ ks, k ≠ []) (q : newL m ((sortK ks).map eTup) S P) : sortedTD m [.lst (ks.map eTup)] S P := by
  simp only [sortedTD, vm]
  refine ⟨pures_tups ks, alike_tups ks, sortable_tups ks h, fun d hd => ?_, by rw [srt_tups]; exact q⟩
  obtain ⟨x, _, rfl⟩ := List.mem_map.mp hd
  exact Nat.le_trans (Enc.int.tup.dp x) (by decide)
def wishesOf (L : List (List Int × Int)) : List (List Int × Int) := (sortK (L.map (·.1))).map fun k => (k, (kget L k).getD 0)
def eW (p : List Int × Int) : D := .tup [.lst (p.1.map .int), .int p.2]
theorem kget_some {β : Type} {L : List (List Int × β)} {k : List Int} (h : k ∈ L.map (·.1)) : ∃ v, kget L k = some v := by
  obtain ⟨p, hp, rfl⟩ := List.mem_map.mp h
  unfold kget
  cases e : L.find? fun q => decide (q.1 = p.1) with
  | some q => exact ⟨_, rfl⟩
  | none => exact absurd (List.find?_eq_none.mp e p hp) (by simp)
theorem wishes_len (L : List (List Int × Int)) : (wishesOf L).length = L.length := by unfold wishesOf; rw [List.length_map, sortK_len, List.length_map]

end DL
namespace DL
open PySem L2
structure GWf (s : GS) : Prop where
  sym : ∀ x y : Int, 0 ≤ x → x < s.n → 0 ≤ y → y < s.n → s.T x y = s.T y x
  irr : ∀ x : Int, 0 ≤ x → x < s.n → s.T x x = false
  hir : ∀ x : Int, 0 ≤ x → x < s.n → s.H x x = false
  lok : ∀ p ∈ s.L, s.rok p.1
  lnd : (s.L.map (·.1)).Nodup
def GS.copy (s : GS) : GS := ⟨s.n, s.T, s.H, fun x y => if (0 ≤ x ∧ x < s.n) ∧ (0 ≤ y ∧ y < s.n) then s.F x y else 0, wishesOf s.L⟩
theorem wishes_keys (L : KL) : (wishesOf L).map (·.1) = sortK (L.map (·.1)) := by
  unfold wishesOf
  rw [List.map_map]
  exact List.map_id'' (fun _ => rfl) _
theorem kget_mem {β : Type} {L : List (List Int × β)} (hd : (L.map (·.1)).Nodup) {k : List Int} {v : β} (h : (k, v) ∈ L) : kget L k = some v := by
  induction L with
  | nil => cases h
  | cons p L ih =>
    rw [List.map_cons, List.nodup_cons] at hd
    unfold kget
    rw [List.find?_cons]
    rcases List.mem_cons.mp h with e | h
    · rw [← e]; simp
    · have : ¬ p.1 = k := fun z => hd.1 (List.mem_map.mpr ⟨_, h, z.symm⟩)
      rw [decide_eq_false this]
      exact ih hd.2 h
theorem kget_none {β : Type} {L : List (List Int × β)} {k : List Int} (h : k ∉ L.map (·.1)) : kget L k = none := by
  unfold kget
  rw [List.find?_eq_none.mpr fun p hp => by simpa using fun z => h (List.mem_map.mpr ⟨p, hp, z⟩)]; rfl
theorem wishes_get {L : KL} (hd : (L.map (·.1)).Nodup) (k : List Int) : kget (wishesOf L) k = kget L k := by
  by_cases c : k ∈ L.map (·.1)
  · obtain ⟨v, e⟩ := kget_some c
    rw [e]
    refine kget_mem ?_ ?_
    · rw [wishes_keys]; exact (sortK_perm _).nodup_iff.mpr hd
    · unfold wishesOf
      exact List.mem_map.mpr ⟨k, (sortK_perm _).mem_iff.mpr c, by rw [e]; rfl⟩
  · rw [kget_none c, kget_none]
    rw [wishes_keys, (sortK_perm _).mem_iff]; exact c
theorem copy_wf {s : GS} (h : GWf s) : GWf s.copy := ⟨h.sym, h.irr, h.hir, fun p hp => by
  have : p.1 ∈ (wishesOf s.L).map (·.1) := List.mem_map.mpr ⟨p, hp, rfl⟩
  rw [wishes_keys, (sortK_perm _).mem_iff] at this
  obtain ⟨q, hq, e⟩ := List.mem_map.mp this
  rw [← e]; exact (rok_n rfl).mpr (h.lok q hq), by show ((wishesOf s.L).map (·.1)).Nodup; rw [wishes_keys]; exact (sortK_perm _).nodup_iff.mpr h.lnd⟩
theorem FreshG.other {a : CA} {S S' : Sto} {A B : GA} {s : GS} {m : Nat} (f : FreshG S S' A) (g : GAt a S B s m) : GAt a S' B s m := g.frame fun b hb => f.o b fun z => guild_gone g (f.n b z) hb
theorem gOf_wf {n : Nat} {wl : WL} {fl dl : KL} {sl : WL} (ow : WayOk n wl) (fd : DearOk n dl) (os : ShyOk n sl) : GWf (gOf n wl fl dl sl) :=
  ⟨fun x y _ _ _ _ => relW_sym wl x y, fun x _ _ => by
    show relW wl x x = false
    unfold relW
    refine decide_eq_false fun z => ?_
    have := ow.k _ z
    dsimp only at this
    omega, fun x _ _ => decide_eq_false fun z => (os.k _ z).2.2 rfl, fun p hp => (rok_n rfl).mpr (fd.k p hp), fd.d⟩

end DL
namespace DL
open PySem L2
structure PS where
  g : GS
  own : Tab
  heard : Int → Int → Option (List Int)
  written : Int → Int → Option (List Int)
  line : WL
structure PA where
  p : Addr
  A : GA
  (o h w l : Addr)
def PA.five (X : PA) : List Addr := [X.p, X.o, X.h, X.w, X.l]
def PA.all (X : PA) : List Addr := X.five ++ X.A.all
def pf (X : PA) : List (Str × D) := [("ground", .ref X.A.g), ("own", .ref X.o), ("heard", .ref X.h), ("written", .ref X.w), ("line", .ref X.l)]
structure DictAt (n : Nat) (kv : List (List Int × D)) (f : Int → Int → Option (List Int)) : Prop where
  k : ∀ q ∈ kv, ∃ x y : Int, q.1 = [x, y] ∧ (0 ≤ x ∧ x < n) ∧ (0 ≤ y ∧ y < n)
  d : (kv.map (·.1)).Nodup
  g : ∀ x y, (dget kv [x, y]).getD .non = eO eR (f x y)
structure LineOk (n : Nat) (w : WL) : Prop where
  k : ∀ p ∈ w, (0 ≤ p.1 ∧ p.1 < n) ∧ (0 ≤ p.2 ∧ p.2 < n)
  d : w.Nodup
structure POk (s : PS) : Prop where
  ow : ∀ r, some r ∈ s.own → s.g.told r
  hd : ∀ x y r, s.heard x y = some r → s.g.told r
  wr : ∀ x y r, s.written x y = some r → s.g.told r
structure PAt (a : CA) (S : Sto) (X : PA) (s : PS) (m : Nat) : Prop where
  p : S X.p = some (.ins a.Post (pf X))
  G : GAt a S X.A s.g m
  o : S X.o = some (.ml (s.own.map (eO eR)))
  h : ∃ kv, S X.h = some (.dI kv) ∧ DictAt s.g.n kv s.heard
  w : ∃ kv, S X.w = some (.dI kv) ∧ DictAt s.g.n kv s.written ∧ ∀ q ∈ s.line, [q.1, q.2] ∈ kv.map (·.1)
  l : S X.l = some (.ml (s.line.map eII))
  L : LineOk s.g.n s.line
  ol : s.own.length = s.g.n
  ne : X.five.Nodup
  nA : ∀ b ∈ X.five, b ∉ X.A.all
  ok : POk s
theorem five_p {X : PA} : X.p ∈ X.five := by simp [PA.five]
theorem five_o {X : PA} : X.o ∈ X.five := by simp [PA.five]
theorem five_h {X : PA} : X.h ∈ X.five := by simp [PA.five]
theorem five_w {X : PA} : X.w ∈ X.five := by simp [PA.five]
theorem five_l {X : PA} : X.l ∈ X.five := by simp [PA.five]
theorem all_five {X : PA} {b : Addr} (h : b ∈ X.five) : b ∈ X.all := List.mem_append_left _ h
theorem all_A {X : PA} {b : Addr} (h : b ∈ X.A.all) : b ∈ X.all := List.mem_append_right _ h
theorem PAt.dis {a : CA} {S : Sto} {X : PA} {s : PS} {m : Nat} (x : PAt a S X s m) : X.p ≠ X.o ∧ X.p ≠ X.h ∧ X.p ≠ X.w ∧ X.p ≠ X.l ∧ X.o ≠ X.h ∧ X.o ≠ X.w ∧ X.o ≠ X.l ∧ X.h ≠ X.w ∧ X.h ≠ X.l ∧ X.w ≠ X.l := by
  have := x.ne
  simp only [PA.five, List.nodup_cons, List.mem_cons, List.not_mem_nil, or_false, not_or] at this
  exact ⟨this.1.1, this.1.2.1, this.1.2.2.1, this.1.2.2.2, this.2.1.1, this.2.1.2.1, this.2.1.2.2, this.2.2.1.1, this.2.2.1.2, this.2.2.2.1⟩
theorem PAt.frame {a : CA} {S S' : Sto} {X : PA} {s : PS} {m : Nat} (x : PAt a S X s m) (e : ∀ b ∈ X.all, S' b = S b) : PAt a S' X s m := by
  obtain ⟨hl, h1, h2⟩ := x.h
  obtain ⟨wl, w1, w2⟩ := x.w
  exact ⟨by rw [e _ (all_five five_p)]; exact x.p, x.G.frame fun b hb => e b (all_A hb), by rw [e _ (all_five five_o)]; exact x.o, ⟨hl, by rw [e _ (all_five five_h)]; exact h1, h2⟩, ⟨wl, by rw [e _ (all_five five_w)]; exact w1, w2⟩, by rw [e _ (all_five five_l)]; exact x.l, x.L, x.ol, x.ne, x.nA, x.ok⟩
theorem PAt.gone {a : CA} {S : Sto} {X : PA} {s : PS} {m : Nat} {b : Addr} (x : PAt a S X s m) (h : S b = none) : b ∉ X.all := fun z => by
  rcases List.mem_append.mp z with z | z
  · obtain ⟨hl, h1, h2⟩ := x.h
    obtain ⟨wl, w1, w2⟩ := x.w
    have no : ∀ {c : Cl}, S b = some c → False := fun e => by rw [h] at e; cases e
    simp only [PA.five, List.mem_cons, List.not_mem_nil, or_false] at z
    rcases z with rfl | rfl | rfl | rfl | rfl
    · exact no x.p
    · exact no x.o
    · exact no h1
    · exact no w1
    · exact no x.l
  · exact guild_gone x.G h z
theorem PAt.su {a : CA} {S : Sto} {X : PA} {s : PS} {m : Nat} {b : Addr} {c : Cl} (x : PAt a S X s m) (h : S b = none) : PAt a (DL.su S b c) X s m := x.frame fun d hd => su_ne fun z => x.gone h (by rw [← z]; exact hd)
theorem PAt.le {a : CA} {S S' : Sto} {X : PA} {s : PS} {m : Nat} (x : PAt a S X s m) (h : SLe S S') : PAt a S' X s m := x.frame fun b hb => by
  cases c : S b with
  | none => exact absurd hb (x.gone c)
  | some v => exact h b v c
theorem PAt.setG {a : CA} {S S' : Sto} {X : PA} {s : PS} {m m' : Nat} {g' : GS} (x : PAt a S X s m) (h : GAt a S' X.A g' m') (f : ∀ b, b ∉ X.A.all → S' b = S b) (hn : g'.n = s.g.n) : PAt a S' X { s with g := g' } m' := by
  obtain ⟨hl, h1, h2⟩ := x.h
  obtain ⟨wl, w1, w2, w3⟩ := x.w
  have e : ∀ b ∈ X.five, S' b = S b := fun b hb => f b (x.nA b hb)
  have hol := x.ol
  have hL := x.L
  have hk := x.ok
  refine ⟨by rw [e _ five_p]; exact x.p, h, by rw [e _ five_o]; exact x.o, ⟨hl, by rw [e _ five_h]; exact h1, by show DictAt g'.n _ _; rw [hn]; exact h2⟩, ⟨wl, by rw [e _ five_w]; exact w1, by show DictAt g'.n _ _; rw [hn]; exact w2, w3⟩, by rw [e _ five_l]; exact x.l, by show LineOk g'.n _; rw [hn]; exact hL, by show s.own.length = g'.n; rw [hn]; exact hol, x.ne, x.nA, ?_⟩
  exact ⟨fun r hr => (told_n hn).mpr (hk.ow r hr), fun u v r hr => (told_n hn).mpr (hk.hd u v r hr), fun u v r hr => (told_n hn).mpr (hk.wr u v r hr)⟩
theorem pairs_few {n : Nat} (ks : List (List Int)) (hk : ∀ k ∈ ks, ∃ x y : Int, k = [x, y] ∧ (0 ≤ x ∧ x < n) ∧ (0 ≤ y ∧ y < n)) (hd : ks.Nodup) : ks.length ≤ n * n := by
  have h1 : (ks.map fun k : List Int => k.getD 0 0 * (n : Int) + k.getD 1 0).Nodup := by
    unfold List.Nodup
    rw [List.pairwise_map]
    refine hd.imp_of_mem fun {u v} hu hv hne z => hne ?_
    obtain ⟨x, y, rfl, hx, hy⟩ := hk u hu
    obtain ⟨x', y', rfl, hx', hy'⟩ := hk v hv
    simp only [List.getD_cons_zero, List.getD_cons_succ] at z
    have ex : x = x' := by
      have a1 : (x * (n : Int) + y) / (n : Int) = x := by rw [Int.add_comm, Int.add_mul_ediv_right _ _ (by omega), Int.ediv_eq_zero_of_lt hy.1 hy.2]; omega
      have a2 : (x' * (n : Int) + y') / (n : Int) = x' := by rw [Int.add_comm, Int.add_mul_ediv_right _ _ (by omega), Int.ediv_eq_zero_of_lt hy'.1 hy'.2]; omega
      rw [← a1, ← a2, z]
    subst ex
    have : y = y' := by omega
    rw [this]
  have h2 := nodup_le (n * n) _ h1 fun g hg => by
    obtain ⟨k, hk', rfl⟩ := List.mem_map.mp hg
    obtain ⟨x, y, rfl, hx, hy⟩ := hk k hk'
    simp only [List.getD_cons_zero, List.getD_cons_succ]
    have b1 : 0 ≤ x * (n : Int) := Int.mul_nonneg hx.1 (by omega)
    have b2 : (x + 1) * (n : Int) ≤ (n : Int) * n := Int.mul_le_mul_of_nonneg_right (by omega) (by omega)
    have b3 : ((n * n : Nat) : Int) = (n : Int) * n := by simp
    rw [b3]
    rw [Int.add_mul, Int.one_mul] at b2
    omega
  rwa [List.length_map] at h2
theorem DictAt.few {n : Nat} {kv : List (List Int × D)} {f : Int → Int → Option (List Int)} (h : DictAt n kv f) : kv.length ≤ n * n := by
  have := pairs_few (kv.map (·.1)) (fun k hk => by obtain ⟨q, hq, rfl⟩ := List.mem_map.mp hk; exact h.k q hq) h.d
  rwa [List.length_map] at this
theorem LineOk.few {n : Nat} {w : WL} (h : LineOk n w) : w.length ≤ n * n := by
  have := pairs_few (w.map fun p => [p.1, p.2]) (fun k hk => by obtain ⟨q, hq, rfl⟩ := List.mem_map.mp hk; exact ⟨q.1, q.2, rfl, (h.k q hq).1, (h.k q hq).2⟩) (by
    unfold List.Nodup
    rw [List.pairwise_map]
    exact h.d.imp fun {u v} hne z => hne (by injection z with z1 z2; injection z2 with z2; exact Prod.ext z1 z2))
  rwa [List.length_map] at this
def upd2 (f : Int → Int → Option (List Int)) (a b : Int) (r : Option (List Int)) : Int → Int → Option (List Int) := fun x y => if x = a ∧ y = b then r else f x y
theorem DictAt.put {n : Nat} {kv : List (List Int × D)} {f : Int → Int → Option (List Int)} {x y : Int} {r : Option (List Int)} (h : DictAt n kv f) (hx : 0 ≤ x ∧ x < n) (hy : 0 ≤ y ∧ y < n) : DictAt n (dput kv [x, y] (eO eR r)) (upd2 f x y r) := by
  refine ⟨fun q hq => ?_, ?_, fun u v => ?_⟩
  · rw [dput_k] at hq
    rcases kput_mem hq with e | ⟨w, e⟩
    · exact ⟨x, y, e, hx, hy⟩
    · exact h.k (q.1, w) e
  · rw [dput_k]; exact kput_nodup _ _ h.d
  · rw [dput_k, dget_k, kget_put]
    unfold upd2
    by_cases c : u = x ∧ v = y
    · rw [if_pos c, if_pos (by rw [c.1, c.2])]; rfl
    · rw [if_neg c, if_neg fun z => c (by injection z with z1 z2; injection z2 with z2; exact ⟨z1, z2⟩), ← dget_k]
      exact h.g u v
theorem dictKeys {kv : List (List Int × D)} {k j : List Int} {v : D} (h : j ∈ kv.map (·.1) ∨ j = k) : j ∈ (dput kv k v).map (·.1) := by
  rw [dput_k, kput_keys]
  split
  · rename_i c
    rcases h with h | rfl
    · exact h
    · exact c
  · rcases h with h | rfl
    · exact List.mem_append_left _ h
    · exact List.mem_append_right _ (by simp)
theorem pf_ground {X : PA} : (pf X).lookup ("ground" : Str) = some (.ref X.A.g) := by with_unfolding_all rfl
theorem pf_own {X : PA} : (pf X).lookup ("own" : Str) = some (.ref X.o) := by with_unfolding_all rfl
theorem pf_heard {X : PA} : (pf X).lookup ("heard" : Str) = some (.ref X.h) := by with_unfolding_all rfl
theorem pf_written {X : PA} : (pf X).lookup ("written" : Str) = some (.ref X.w) := by with_unfolding_all rfl
theorem pf_line {X : PA} : (pf X).lookup ("line" : Str) = some (.ref X.l) := by with_unfolding_all rfl
theorem pfm_road {X : PA} : ((pf X).lookup ("road" : Str)).isNone = true := by with_unfolding_all rfl
theorem pfm_table {X : PA} : ((pf X).lookup ("table" : Str)).isNone = true := by with_unfolding_all rfl
theorem pfm_told {X : PA} : ((pf X).lookup ("told" : Str)).isNone = true := by with_unfolding_all rfl
theorem pfm_waiting {X : PA} : ((pf X).lookup ("waiting" : Str)).isNone = true := by with_unfolding_all rfl
theorem pfm_neighbours_now {X : PA} : ((pf X).lookup ("neighbours_now" : Str)).isNone = true := by with_unfolding_all rfl
theorem pfm_carry {X : PA} : ((pf X).lookup ("carry" : Str)).isNone = true := by with_unfolding_all rfl
theorem pfm_carry_next {X : PA} : ((pf X).lookup ("carry_next" : Str)).isNone = true := by with_unfolding_all rfl
theorem pfm_settle {X : PA} : ((pf X).lookup ("settle" : Str)).isNone = true := by with_unfolding_all rfl
theorem pfm_fall {X : PA} : ((pf X).lookup ("fall" : Str)).isNone = true := by with_unfolding_all rfl
theorem pfm_rise {X : PA} : ((pf X).lookup ("rise" : Str)).isNone = true := by with_unfolding_all rfl
theorem pfm_forget {X : PA} : ((pf X).lookup ("forget" : Str)).isNone = true := by with_unfolding_all rfl
theorem pfm_choose {X : PA} : ((pf X).lookup ("choose" : Str)).isNone = true := by with_unfolding_all rfl
theorem pfm_write_to {X : PA} : ((pf X).lookup ("write_to" : Str)).isNone = true := by with_unfolding_all rfl
theorem pfm_write_all {X : PA} : ((pf X).lookup ("write_all" : Str)).isNone = true := by with_unfolding_all rfl
theorem pp_ground {v : D} : putFD "ground" v [] = [(("ground" : Str), v)] := by with_unfolding_all rfl
theorem pp_own {x0 v : D} : putFD "own" v [(("ground" : Str), x0)] = [(("ground" : Str), x0), (("own" : Str), v)] := by with_unfolding_all rfl
theorem pp_heard {x0 x1 v : D} : putFD "heard" v [(("ground" : Str), x0), (("own" : Str), x1)] = [(("ground" : Str), x0), (("own" : Str), x1), (("heard" : Str), v)] := by with_unfolding_all rfl
theorem pp_written {x0 x1 x2 v : D} : putFD "written" v [(("ground" : Str), x0), (("own" : Str), x1), (("heard" : Str), x2)] = [(("ground" : Str), x0), (("own" : Str), x1), (("heard" : Str), x2), (("written" : Str), v)] := by with_unfolding_all rfl
theorem pp_line {x0 x1 x2 x3 v : D} : putFD "line" v [(("ground" : Str), x0), (("own" : Str), x1), (("heard" : Str), x2), (("written" : Str), x3)] = [(("ground" : Str), x0), (("own" : Str), x1), (("heard" : Str), x2), (("written" : Str), x3), (("line" : Str), v)] := by with_unfolding_all rfl
theorem p0m_road {d0 d1 d2 d3 d4 : D} : ([(("ground" : Str), d0), (("own" : Str), d1), (("heard" : Str), d2), (("written" : Str), d3), (("line" : Str), d4)].lookup ("road" : Str)).isNone = true := by with_unfolding_all rfl
theorem p0m_table {d0 d1 d2 d3 d4 : D} : ([(("ground" : Str), d0), (("own" : Str), d1), (("heard" : Str), d2), (("written" : Str), d3), (("line" : Str), d4)].lookup ("table" : Str)).isNone = true := by with_unfolding_all rfl
theorem p0m_told {d0 d1 d2 d3 d4 : D} : ([(("ground" : Str), d0), (("own" : Str), d1), (("heard" : Str), d2), (("written" : Str), d3), (("line" : Str), d4)].lookup ("told" : Str)).isNone = true := by with_unfolding_all rfl
theorem p0m_waiting {d0 d1 d2 d3 d4 : D} : ([(("ground" : Str), d0), (("own" : Str), d1), (("heard" : Str), d2), (("written" : Str), d3), (("line" : Str), d4)].lookup ("waiting" : Str)).isNone = true := by with_unfolding_all rfl
theorem p0m_neighbours_now {d0 d1 d2 d3 d4 : D} : ([(("ground" : Str), d0), (("own" : Str), d1), (("heard" : Str), d2), (("written" : Str), d3), (("line" : Str), d4)].lookup ("neighbours_now" : Str)).isNone = true := by with_unfolding_all rfl
theorem p0m_carry {d0 d1 d2 d3 d4 : D} : ([(("ground" : Str), d0), (("own" : Str), d1), (("heard" : Str), d2), (("written" : Str), d3), (("line" : Str), d4)].lookup ("carry" : Str)).isNone = true := by with_unfolding_all rfl
theorem p0m_carry_next {d0 d1 d2 d3 d4 : D} : ([(("ground" : Str), d0), (("own" : Str), d1), (("heard" : Str), d2), (("written" : Str), d3), (("line" : Str), d4)].lookup ("carry_next" : Str)).isNone = true := by with_unfolding_all rfl
theorem p0m_settle {d0 d1 d2 d3 d4 : D} : ([(("ground" : Str), d0), (("own" : Str), d1), (("heard" : Str), d2), (("written" : Str), d3), (("line" : Str), d4)].lookup ("settle" : Str)).isNone = true := by with_unfolding_all rfl
theorem p0m_fall {d0 d1 d2 d3 d4 : D} : ([(("ground" : Str), d0), (("own" : Str), d1), (("heard" : Str), d2), (("written" : Str), d3), (("line" : Str), d4)].lookup ("fall" : Str)).isNone = true := by with_unfolding_all rfl
theorem p0m_rise {d0 d1 d2 d3 d4 : D} : ([(("ground" : Str), d0), (("own" : Str), d1), (("heard" : Str), d2), (("written" : Str), d3), (("line" : Str), d4)].lookup ("rise" : Str)).isNone = true := by with_unfolding_all rfl
theorem p0m_forget {d0 d1 d2 d3 d4 : D} : ([(("ground" : Str), d0), (("own" : Str), d1), (("heard" : Str), d2), (("written" : Str), d3), (("line" : Str), d4)].lookup ("forget" : Str)).isNone = true := by with_unfolding_all rfl
theorem p0m_choose {d0 d1 d2 d3 d4 : D} : ([(("ground" : Str), d0), (("own" : Str), d1), (("heard" : Str), d2), (("written" : Str), d3), (("line" : Str), d4)].lookup ("choose" : Str)).isNone = true := by with_unfolding_all rfl
theorem p0m_write_to {d0 d1 d2 d3 d4 : D} : ([(("ground" : Str), d0), (("own" : Str), d1), (("heard" : Str), d2), (("written" : Str), d3), (("line" : Str), d4)].lookup ("write_to" : Str)).isNone = true := by with_unfolding_all rfl
theorem p0m_write_all {d0 d1 d2 d3 d4 : D} : ([(("ground" : Str), d0), (("own" : Str), d1), (("heard" : Str), d2), (("written" : Str), d3), (("line" : Str), d4)].lookup ("write_all" : Str)).isNone = true := by with_unfolding_all rfl
def PS.rd (s : PS) (x : Int) : Option (List Int) := s.own.getD x.toNat none
def PS.writeTo (s : PS) (x y : Int) : PS := if s.rd x = s.written x y then s else { s with written := upd2 s.written x y (s.rd x), line := if (x, y) ∈ s.line then s.line else s.line ++ [(x, y)] }
def PS.writeAll (s : PS) (x : Int) : PS := (nb s.g.n s.g.T x).foldl (fun s y => s.writeTo x y) s
def PS.tells (s : PS) (x : Int) : Tab := (nb s.g.n s.g.T x).map fun y => s.heard y x
def PS.road (s : PS) (x : Int) : Option (List Int) := s.g.chosen x (s.tells x)
def PS.choose (s : PS) (x : Int) : PS := if s.road x = s.rd x then s else { s with own := s.own.set x.toNat (s.road x) }.writeAll x
def PS.heardOf (s : PS) (x y : Int) : PS := { s with line := s.line.erase (x, y), heard := upd2 s.heard x y (s.written x y) }
def PS.carry (s : PS) (x y : Int) : PS := (s.heardOf x y).choose y
def PS.forget (s : PS) (x y : Int) : PS := { s with heard := upd2 s.heard x y none, written := upd2 s.written x y none, line := s.line.erase (x, y) }
theorem writeTo_g (s : PS) (x y : Int) : (s.writeTo x y).g = s.g := by unfold PS.writeTo; split <;> rfl
theorem writeTo_own (s : PS) (x y : Int) : (s.writeTo x y).own = s.own := by unfold PS.writeTo; split <;> rfl
theorem writeTo_heard (s : PS) (x y : Int) : (s.writeTo x y).heard = s.heard := by unfold PS.writeTo; split <;> rfl
theorem PAt.build {a : CA} {S S' : Sto} {X : PA} {s : PS} {m : Nat} (x : PAt a S X s m) (f : ∀ b, b ∉ [X.o, X.h, X.w, X.l] → S' b = S b) {own : Tab} {heard written : Int → Int → Option (List Int)} {line : WL} (o : S' X.o = some (.ml (own.map (eO eR)))) (h : ∃ kv, S' X.h = some (.dI kv) ∧ DictAt s.g.n kv heard)
    (w : ∃ kv, S' X.w = some (.dI kv) ∧ DictAt s.g.n kv written ∧ ∀ q ∈ line, [q.1, q.2] ∈ kv.map (·.1)) (l : S' X.l = some (.ml (line.map eII))) (L : LineOk s.g.n line) (ol : own.length = s.g.n) (ok : POk ⟨s.g, own, heard, written, line⟩) : PAt a S' X ⟨s.g, own, heard, written, line⟩ m := by
  obtain ⟨d1, d2, d3, d4, _⟩ := x.dis
  refine ⟨by rw [f _ (by simp; exact ⟨d1, d2, d3, d4⟩)]; exact x.p, x.G.frame fun b hb => f b fun z => x.nA b (by simp [PA.five] at z ⊢; rcases z with z | z | z | z <;> simp [z]) hb, o, h, w, l, L, ol, x.ne, x.nA, ok⟩
theorem PS.rd_told {s : PS} (h : POk s) {x : Int} {r : List Int} (e : s.rd x = some r) : s.g.told r := by
  unfold PS.rd at e
  rw [List.getD_eq_getElem?_getD] at e
  cases c : s.own[x.toNat]? with
  | none => rw [c] at e; cases e
  | some o =>
    rw [c] at e
    obtain ⟨hb, e2⟩ := List.getElem?_eq_some_iff.mp c
    exact h.ow r (by rw [← show o = some r from e, ← e2]; exact List.getElem_mem _)
theorem four_five {X : PA} {b : Addr} (h : b ∉ X.five) : b ∉ [X.o, X.h, X.w, X.l] := fun z => h (by simp [PA.five] at z ⊢; rcases z with z | z | z | z <;> simp [z])
theorem eqR_eO {neg : Bool} {x y : Option (List Int)} {S : Sto} {P : D → Sto → Prop} : eqR neg (eO eR x) (eO eR y) S P = P (.bl (neg ^^ decide (x = y))) S := by
  unfold eqR
  rw [rs_eO, rs_eO, dEq_eO]
  simp only [okD_eO, true_and]
theorem dget_key {κ : Type} [DecidableEq κ] {kv : List (κ × D)} {k : κ} (h : k ∈ kv.map (·.1)) : ∃ v, dget kv k = some v := by
  obtain ⟨p, hp, rfl⟩ := List.mem_map.mp h
  unfold dget
  cases e : kv.find? fun q => decide (q.1 = p.1) with
  | some q => exact ⟨_, rfl⟩
  | none => exact absurd (List.find?_eq_none.mp e p hp) (by simp)
def eN (t : Int × Int × Option (List Int)) : D := .tup [.int t.1, .int t.2.1, eO eR t.2.2]
def PS.waits (s : PS) : List (Int × Int × Option (List Int)) := s.line.map fun p => (p.1, p.2, s.written p.1 p.2)
def PS.toldOf (s : PS) (x y : Int) : Option (List Int) := if s.g.T x y then s.heard x y else none
def PS.start (s : GS) : PS := ⟨s.copy, some [0] :: List.replicate (s.n - 1) none, fun _ _ => none, fun _ _ => none, []⟩
def PS.begin (s : GS) : PS := (PS.start s).writeAll 0
def PS.begun (s : GS) (done : List Int) : PS := ⟨s.copy, some [0] :: List.replicate (s.n - 1) none, fun _ _ => none, fun x y => if x = 0 ∧ y ∈ done then some [0] else none, done.map fun y => (0, y)⟩
theorem begun_step (s : GS) {done : List Int} {y : Int} (hy : y ∉ done) : (PS.begun s done).writeTo 0 y = PS.begun s (done ++ [y]) := by
  unfold PS.writeTo PS.rd PS.begun
  dsimp only
  rw [show (some [0] :: List.replicate (s.n - 1) none : Tab).getD (0 : Int).toNat none = some [0] from rfl, if_neg (by rw [if_neg (by simp [hy])]; simp), if_neg (by simp [hy])]
  congr 1
  · funext x z
    unfold upd2
    by_cases c : x = 0 ∧ z = y
    · rw [if_pos c, if_pos (by simp [c.1, c.2])]
    · rw [if_neg c]
      have : (x = 0 ∧ z ∈ done ++ [y]) ↔ (x = 0 ∧ z ∈ done) := by
        simp only [List.mem_append, List.mem_singleton]
        constructor
        · rintro ⟨h1, h2 | h2⟩
          · exact ⟨h1, h2⟩
          · exact absurd ⟨h1, h2⟩ c
        · rintro ⟨h1, h2⟩; exact ⟨h1, .inl h2⟩
      simp only [this]
  · rw [List.map_append]; rfl
theorem begin_fold (s : GS) : ∀ (rest done : List Int), (done ++ rest).Nodup → rest.foldl (fun (t : PS) y => t.writeTo 0 y) (PS.begun s done) = PS.begun s (done ++ rest) := by
  intro rest
  induction rest with
  | nil => intro done _; rw [List.append_nil]; rfl
  | cons y rest ih =>
    intro done hd
    rw [List.foldl_cons, begun_step s fun z => by
      rw [List.nodup_append] at hd
      exact hd.2.2 _ z y List.mem_cons_self rfl]
    rw [ih (done ++ [y]) (by rw [List.append_assoc]; exact hd), List.append_assoc]; rfl
theorem begin_eq (s : GS) : PS.begin s = PS.begun s (nb s.n s.T 0) := by
  have h := begin_fold s (nb s.n s.T 0) [] (nb_nodup _ _ _)
  unfold PS.begin PS.writeAll
  have e : PS.start s = PS.begun s [] := by
    unfold PS.start PS.begun
    congr 1
    funext x y
    simp
  rw [e]
  exact h

end DL
namespace DL
open PySem L2
theorem ShyOk.nil (n : Nat) : ShyOk n [] := ⟨fun q h => (by cases h), Nat.zero_le _⟩
theorem ShyOk.put {n : Nat} {w : WL} {x y : Int} (h : ShyOk n w) (hx : 0 ≤ x ∧ x < n) (hy : 0 ≤ y ∧ y < n) (hn : x ≠ y) (hl : w.length < 1000) : ShyOk n (w ++ [(x, y)]) :=
  ⟨fun p hp => by
    rcases List.mem_append.mp hp with hp | hp
    · exact h.k p hp
    · rw [List.mem_singleton.mp hp]; exact ⟨hx, hy, hn⟩, by rw [List.length_append, List.length_singleton]; omega⟩
theorem app_II (w : WL) (x y : Int) : w.map eII ++ [D.tup [D.int x, D.int y]] = (w ++ [(x, y)]).map eII := by rw [List.map_append]; rfl

end DL
namespace DL
open PySem L2
theorem SLe.stepX {S0 S S' : Sto} {l : List Addr} (h : SLe S0 S) (hA : ∀ b ∈ l, S0 b = Option.none) (f : ∀ b, b ∉ l → S' b = S b) : SLe S0 S' := fun b v hb => by rw [f b fun z => by rw [hA b z] at hb; cases hb]; exact h b v hb
theorem begin_g (s : GS) : (PS.begin s).g = s.copy := by rw [begin_eq]; rfl
theorem fresh_post {S S' : Sto} {X : PA} {c : Cl} (hx : S X.p = none) (f : ∀ b, b ∉ X.all → S' b = su S X.p c b) (n : ∀ b ∈ X.all, b ≠ X.p → su S X.p c b = none) : SLe S S' ∧ ∀ b ∈ X.all, S b = none := by
  have h2 : ∀ b ∈ X.all, S b = none := fun b hb => by
    by_cases e : b = X.p
    · rw [e]; exact hx
    · have := n b hb e; rw [su_ne e] at this; exact this
  refine ⟨fun b v hb => ?_, h2⟩
  have h3 : b ∉ X.all := fun z => by rw [h2 b z] at hb; cases hb
  rw [f b h3, su_ne fun z => by rw [z, hx] at hb; cases hb]
  exact hb

end DL
namespace DL
open PySem L2
structure Book (s : GS) (wl : WL) (fl dl : KL) (sl : WL) : Prop extends Same' s fl dl sl where
  T : ∀ x y : Int, 0 ≤ x → x < s.n → 0 ≤ y → y < s.n → s.T x y = relW wl x y
theorem Book.nb {s : GS} {wl : WL} {fl dl : KL} {sl : WL} (e : Book s wl fl dl sl) {x : Int} (h : s.ok x) : DL.nb s.n (relW wl) x = DL.nb s.n s.T x := nb_congr fun y h0 h1 => (e.T x y h.1 h.2 h0 h1).symm
theorem book_of {n : Nat} {wl : WL} {fl dl : KL} {sl : WL} : Book (gOf n wl fl dl sl) wl fl dl sl := ⟨⟨fun _ _ => rfl, fun _ => rfl, fun _ _ _ _ _ _ => rfl⟩, fun _ _ _ _ _ _ => rfl⟩
theorem mine_told {s : GS} {house : Int} {b : List Int} (h : s.mine house (some b)) : s.told b := ⟨h.1.1, h.1.2.2.1, h.1.2.2.2⟩
theorem chosen_mine {s : GS} {house : Int} {tl : Tab} (hh : s.ok house) (ht : ∀ r, some r ∈ tl → s.told r) : ∀ r, s.chosen house tl = some r → s.told r ∧ r.head? = some house := fun r e => by
  unfold GS.chosen at e
  split at e
  · rename_i c
    cases e
    exact ⟨⟨fun x hx => by rw [List.mem_singleton.mp hx]; rw [c] at hh; exact hh, rfl, nodup_one 0⟩, by rw [c]; rfl⟩
  · have h := fold_mine (s := s) hh tl none True.intro ht
    rw [e] at h
    exact ⟨mine_told h, h.2.2⟩
theorem stepT_told {s : GS} {tab : Tab} (ht : ∀ r, some r ∈ tab → s.told r) : ∀ r, some r ∈ s.stepT tab → s.told r := fun r h => by
  unfold GS.stepT at h
  obtain ⟨x, hx, e⟩ := List.mem_map.mp h
  exact (chosen_mine (intsN_mem.mp hx) (told_row ht) r e).1

end DL
namespace DL
open PySem L2
theorem writeAll_fold {s : PS} {x : Int} : ∀ (l : List Int), (l.foldl (fun s y => s.writeTo x y) s).g = s.g := fun l => by
  induction l generalizing s with
  | nil => rfl
  | cons y l ih => rw [List.foldl_cons, ih, writeTo_g]

end DL
namespace DL
open PySem L2
def PS.fall (s : PS) (x y : Int) : PS := ((((({ s with g := s.g.lift x y } : PS).forget x y).forget y x).choose (min x y)).choose (max x y))
theorem choose_g (s : PS) (x : Int) : (s.choose x).g = s.g := by
  unfold PS.choose
  split
  · rfl
  · exact writeAll_fold (s := { s with own := s.own.set x.toNat (s.road x) }) _

end DL
namespace DL
open PySem L2
def PS.rise (s : PS) (x y : Int) : PS := ((({ s with g := s.g.lay x y } : PS).writeTo (min x y) (max x y)).writeTo (max x y) (min x y))

end DL
namespace DL
open PySem L2
theorem rd_set {s : PS} {x y : Int} {r : Option (List Int)} (hl : s.own.length = s.g.n) (hx : s.g.ok x) (hy : s.g.ok y) : PS.rd { s with own := s.own.set x.toNat r } y = if y = x then r else s.rd y := by
  unfold GS.ok at hx hy
  unfold PS.rd
  simp only [List.getD_eq_getElem?_getD, List.getElem?_set]
  by_cases c : y = x
  · subst c
    rw [if_pos rfl, if_pos rfl, if_pos (by omega)]; rfl
  · rw [if_neg c, if_neg (by omega)]
theorem writeTo_written (s : PS) (x y u v : Int) : (s.writeTo x y).written u v = if u = x ∧ v = y then s.rd x else s.written u v := by
  unfold PS.writeTo
  split
  · rename_i c
    split
    · rename_i h; rw [h.1, h.2, c]
    · rfl
  · rfl
theorem writeTo_line (s : PS) (x y u v : Int) : (u, v) ∈ (s.writeTo x y).line ↔ (u, v) ∈ s.line ∨ (u = x ∧ v = y ∧ s.rd x ≠ s.written x y) := by
  unfold PS.writeTo
  split
  · rename_i c
    exact ⟨.inl, fun h => h.elim id fun h => absurd c h.2.2⟩
  · rename_i c
    dsimp only
    split
    · rename_i h
      exact ⟨.inl, fun h' => h'.elim id fun h' => by rw [h'.1, h'.2.1]; exact h⟩
    · rw [List.mem_append, List.mem_singleton, Prod.mk.injEq]
      exact ⟨fun h' => h'.elim .inl fun h' => .inr ⟨h'.1, h'.2, c⟩, fun h' => h'.elim .inl fun h' => .inr ⟨h'.1, h'.2.1⟩⟩
theorem writeTo_rd (s : PS) (x y z : Int) : (s.writeTo x y).rd z = s.rd z := by unfold PS.rd; rw [writeTo_own]
def PS.writes (s : PS) (x : Int) (l : List Int) : PS := l.foldl (fun s y => s.writeTo x y) s
theorem writes_own (x : Int) : ∀ (l : List Int) (s : PS), (s.writes x l).own = s.own
  | [], _ => rfl
  | y :: l, s => by unfold PS.writes; rw [List.foldl_cons]; exact (writes_own x l _).trans (writeTo_own s x y)
theorem writes_heard (x : Int) : ∀ (l : List Int) (s : PS), (s.writes x l).heard = s.heard
  | [], _ => rfl
  | y :: l, s => by unfold PS.writes; rw [List.foldl_cons]; exact (writes_heard x l _).trans (writeTo_heard s x y)
theorem writes_g (x : Int) : ∀ (l : List Int) (s : PS), (s.writes x l).g = s.g
  | [], _ => rfl
  | y :: l, s => by unfold PS.writes; rw [List.foldl_cons]; exact (writes_g x l _).trans (writeTo_g s x y)
theorem writes_written (x : Int) : ∀ (l : List Int) (s : PS) (u v : Int), (s.writes x l).written u v = if u = x ∧ v ∈ l then s.rd x else s.written u v
  | [], s, u, v => by simp [PS.writes]
  | y :: l, s, u, v => by
    have h : s.writes x (y :: l) = (s.writeTo x y).writes x l := rfl
    rw [h, writes_written x l, writeTo_rd, writeTo_written]
    by_cases c : u = x
    · subst c
      by_cases c1 : v ∈ l
      · rw [if_pos ⟨rfl, c1⟩, if_pos ⟨rfl, List.mem_cons_of_mem _ c1⟩]
      · rw [if_neg fun z => c1 z.2]
        by_cases c2 : v = y
        · rw [if_pos ⟨rfl, c2⟩, if_pos ⟨rfl, by rw [c2]; exact List.mem_cons_self⟩]
        · rw [if_neg fun z => c2 z.2, if_neg fun z => (List.mem_cons.mp z.2).elim c2 c1]
    · rw [if_neg fun z => c z.1, if_neg fun z => c z.1, if_neg fun z => c z.1]
theorem writes_line (x : Int) : ∀ (l : List Int) (s : PS) (u v : Int), (u, v) ∈ (s.writes x l).line ↔ (u, v) ∈ s.line ∨ (u = x ∧ v ∈ l ∧ s.rd x ≠ s.written x v)
  | [], s, u, v => by simp [PS.writes]
  | y :: l, s, u, v => by
    have h : s.writes x (y :: l) = (s.writeTo x y).writes x l := rfl
    rw [h, writes_line x l, writeTo_rd, writeTo_line, writeTo_written]
    constructor
    · rintro ((h | ⟨rfl, rfl, h⟩) | ⟨rfl, h1, h2⟩)
      · exact .inl h
      · exact .inr ⟨rfl, List.mem_cons_self, h⟩
      · refine .inr ⟨rfl, List.mem_cons_of_mem _ h1, fun z => h2 ?_⟩
        split
        · rfl
        · exact z
    · rintro (h | ⟨rfl, h1, h2⟩)
      · exact .inl (.inl h)
      · by_cases c : v = y
        · subst c; exact .inl (.inr ⟨rfl, rfl, h2⟩)
        · refine .inr ⟨rfl, (List.mem_cons.mp h1).resolve_left c, ?_⟩
          rw [if_neg fun z => c z.2]; exact h2
theorem writeAll_writes (s : PS) (x : Int) : s.writeAll x = s.writes x (nb s.g.n s.g.T x) := rfl
structure Chose (s s' : PS) (x : Int) : Prop where
  g : s'.g = s.g
  heard : s'.heard = s.heard
  len : s'.own.length = s.own.length
  rd : ∀ y, s.g.ok y → s'.rd y = if y = x then s.road x else s.rd y
  wr : (s' = s ∧ s.road x = s.rd x) ∨ (s.road x ≠ s.rd x ∧ (∀ u v, s'.written u v = if u = x ∧ v ∈ nb s.g.n s.g.T x then s.road x else s.written u v) ∧ ∀ u v, (u, v) ∈ s'.line ↔ (u, v) ∈ s.line ∨ (u = x ∧ v ∈ nb s.g.n s.g.T x ∧ s.road x ≠ s.written x v))
theorem choose_chose {s : PS} {x : Int} (hl : s.own.length = s.g.n) (hx : s.g.ok x) : Chose s (s.choose x) x := by
  by_cases c : s.road x = s.rd x
  · have e : s.choose x = s := by unfold PS.choose; rw [if_pos c]
    rw [e]
    exact ⟨rfl, rfl, rfl, fun y _ => by split <;> rename_i h <;> first | rw [h, c] | rfl, .inl ⟨rfl, c⟩⟩
  · have e : s.choose x = PS.writes { s with own := s.own.set x.toNat (s.road x) } x (nb s.g.n s.g.T x) := by unfold PS.choose; rw [if_neg c]; rfl
    have r0 : PS.rd { s with own := s.own.set x.toNat (s.road x) } x = s.road x := by rw [rd_set hl hx hx, if_pos rfl]
    rw [e]
    refine ⟨writes_g _ _ _, writes_heard _ _ _, by rw [writes_own]; exact List.length_set, fun y hy => ?_, .inr ⟨c, fun u v => ?_, fun u v => ?_⟩⟩
    · have : PS.rd (PS.writes { s with own := s.own.set x.toNat (s.road x) } x (nb s.g.n s.g.T x)) y = PS.rd { s with own := s.own.set x.toNat (s.road x) } y := by unfold PS.rd; rw [writes_own]
      rw [this, rd_set hl hx hy]
    · rw [writes_written, r0]
    · rw [writes_line, r0]
structure InvE (s : PS) (E : Int → Int → Prop) : Prop where
  len : s.own.length = s.g.n
  a1 : ∀ x y, s.g.ok x → s.g.ok y → s.g.T x y = true → ¬ E x y → s.written x y = s.rd x
  a2 : ∀ x y, s.g.ok x → s.g.ok y → s.g.T x y = true → (x, y) ∉ s.line → s.heard x y = s.written x y
  b : ∀ x y, s.g.ok x → s.g.ok y → s.g.T x y = false → (x, y) ∉ s.line ∧ s.heard x y = none ∧ s.written x y = none
abbrev Inv14 (s : PS) : Prop := InvE s fun _ _ => False
theorem choose_inv {s : PS} {x : Int} (h : Inv14 s) (hx : s.g.ok x) : Inv14 (s.choose x) := by
  have c := choose_chose h.len hx
  generalize s.choose x = s' at c
  rcases c.wr with ⟨e, _⟩ | ⟨ne, hw, hl⟩
  · rw [e]; exact h
  refine ⟨by rw [c.len, c.g]; exact h.len, fun u v hu hv t _ => ?_, fun u v hu hv t hn => ?_, fun u v hu hv t => ?_⟩
  · rw [c.g] at hu hv t
    rw [c.rd u hu, hw]
    by_cases e : u = x
    · subst e
      rw [if_pos ⟨rfl, nb_mem.mpr ⟨hv, t⟩⟩, if_pos rfl]
    · rw [if_neg fun z => e z.1, if_neg e]; exact h.a1 u v hu hv t (fun z => z)
  · rw [c.g] at hu hv t
    rw [hl] at hn
    rw [c.heard, h.a2 u v hu hv t fun z => hn (.inl z), hw]
    split
    · rename_i e
      refine Classical.byContradiction fun z => hn (.inr ⟨e.1, e.2, fun z2 => z ?_⟩)
      rw [e.1, z2]
    · rfl
  · rw [c.g] at hu hv t
    obtain ⟨b1, b2, b3⟩ := h.b u v hu hv t
    refine ⟨fun z => ?_, by rw [c.heard]; exact b2, ?_⟩
    · rcases (hl u v).mp z with z | ⟨rfl, z, _⟩
      · exact b1 z
      · rw [(nb_mem.mp z).2] at t; cases t
    · rw [hw, if_neg fun z => ?_]
      · exact b3
      · have := (nb_mem.mp z.2).2
        rw [← z.1, t] at this; cases this
theorem writeTo_inv {s : PS} {E : Int → Int → Prop} {x y : Int} (h : InvE s E) (hx : s.g.ok x) (hy : s.g.ok y) (t : s.g.T x y = true) : InvE (s.writeTo x y) fun u v => E u v ∧ ¬ (u = x ∧ v = y) := by
  have hg := writeTo_g s x y
  refine ⟨by rw [writeTo_own, hg]; exact h.len, fun u v hu hv t' he => ?_, fun u v hu hv t' hn => ?_, fun u v hu hv t' => ?_⟩
  · rw [hg] at hu hv t'
    rw [writeTo_rd, writeTo_written]
    split
    · rename_i c; rw [c.1]
    · rename_i c; exact h.a1 u v hu hv t' fun z => he ⟨z, c⟩
  · rw [hg] at hu hv t'
    rw [writeTo_line] at hn
    rw [writeTo_heard, h.a2 u v hu hv t' fun z => hn (.inl z), writeTo_written]
    split
    · rename_i c
      refine Classical.byContradiction fun z => hn (.inr ⟨c.1, c.2, fun z2 => z ?_⟩)
      rw [c.1, c.2, z2]
    · rfl
  · rw [hg] at hu hv t'
    obtain ⟨b1, b2, b3⟩ := h.b u v hu hv t'
    have hne : ¬ (u = x ∧ v = y) := fun z => by rw [z.1, z.2, t] at t'; cases t'
    refine ⟨fun z => ?_, by rw [writeTo_heard]; exact b2, by rw [writeTo_written, if_neg hne]; exact b3⟩
    rcases (writeTo_line s x y u v).mp z with z | z
    · exact b1 z
    · exact hne ⟨z.1, z.2.1⟩
theorem InvE.weak {s : PS} {E E' : Int → Int → Prop} (h : InvE s E) (e : ∀ u v, s.g.ok u → s.g.ok v → E u v → E' u v) : InvE s E' := ⟨h.len, fun x y hx hy t n => h.a1 x y hx hy t fun z => n (e x y hx hy z), h.a2, h.b⟩
theorem pair_ne {u v x y : Int} (h : ¬ (u = x ∧ v = y)) : ((u, v) : Int × Int) ≠ (x, y) := fun z => h (by injection z with a b; exact ⟨a, b⟩)
theorem heardOf_inv {s : PS} {x y : Int} (h : Inv14 s) (hd : s.line.Nodup) (hm : (x, y) ∈ s.line) (hx : s.g.ok x) (hy : s.g.ok y) : Inv14 (s.heardOf x y) := by
  have txy : s.g.T x y = true := by
    cases c : s.g.T x y with
    | true => rfl
    | false => exact absurd hm (h.b x y hx hy c).1
  refine ⟨h.len, fun u v hu hv t _ => h.a1 u v hu hv t fun z => z, fun u v hu hv t hn => ?_, fun u v hu hv t => ?_⟩
  · show upd2 s.heard x y (s.written x y) u v = s.written u v
    unfold upd2
    split
    · rename_i c; rw [c.1, c.2]
    · rename_i c
      refine h.a2 u v hu hv t fun z => hn ?_
      show (u, v) ∈ s.line.erase (x, y)
      exact (List.mem_erase_of_ne (pair_ne c)).mpr z
  · have hne : ¬ (u = x ∧ v = y) := fun z => by rw [z.1, z.2] at t; rw [show s.g.T x y = false from t] at txy; cases txy
    obtain ⟨b1, b2, b3⟩ := h.b u v hu hv t
    refine ⟨fun z => b1 (List.mem_of_mem_erase z), ?_, b3⟩
    show upd2 s.heard x y (s.written x y) u v = none
    unfold upd2
    rw [if_neg hne]; exact b2
theorem lay_T (s : GS) (x y u v : Int) : (s.lay x y).T u v = true ↔ s.T u v = true ∨ (u = x ∧ v = y) ∨ (u = y ∧ v = x) := by
  show (s.T u v || (decide (u = x) && decide (v = y)) || (decide (u = y) && decide (v = x))) = true ↔ _
  simp [or_assoc]
theorem lift_T (s : GS) (x y u v : Int) : (s.lift x y).T u v = true ↔ s.T u v = true ∧ ¬ (u = x ∧ v = y) ∧ ¬ (u = y ∧ v = x) := by
  show (s.T u v && !(decide (u = x) && decide (v = y)) && !(decide (u = y) && decide (v = x))) = true ↔ _
  cases s.T u v <;> by_cases a : u = x <;> by_cases b : v = y <;> by_cases c : u = y <;> by_cases d : v = x <;> simp [a, b, c, d]
def PS.fell (s : PS) (x y : Int) : PS := (({ s with g := s.g.lift x y } : PS).forget x y).forget y x
theorem fell_heard (s : PS) (x y u v : Int) : (s.fell x y).heard u v = if (u = x ∧ v = y) ∨ (u = y ∧ v = x) then none else s.heard u v := by
  show upd2 (upd2 s.heard x y none) y x none u v = _
  unfold upd2
  by_cases c1 : u = x ∧ v = y <;> by_cases c2 : u = y ∧ v = x <;> simp [c1, c2]
theorem fell_written (s : PS) (x y u v : Int) : (s.fell x y).written u v = if (u = x ∧ v = y) ∨ (u = y ∧ v = x) then none else s.written u v := by
  show upd2 (upd2 s.written x y none) y x none u v = _
  unfold upd2
  by_cases c1 : u = x ∧ v = y <;> by_cases c2 : u = y ∧ v = x <;> simp [c1, c2]
theorem fell_line {s : PS} (hd : s.line.Nodup) (x y u v : Int) : (u, v) ∈ (s.fell x y).line ↔ (u, v) ∈ s.line ∧ ¬ (u = x ∧ v = y) ∧ ¬ (u = y ∧ v = x) := by
  show (u, v) ∈ (s.line.erase (x, y)).erase (y, x) ↔ _
  rw [(hd.erase _).mem_erase_iff, hd.mem_erase_iff]
  simp only [ne_eq, Prod.mk.injEq]
  constructor
  · rintro ⟨a, b, c⟩; exact ⟨c, b, a⟩
  · rintro ⟨a, b, c⟩; exact ⟨c, b, a⟩
theorem fell_inv {s : PS} {x y : Int} (h : Inv14 s) (hd : s.line.Nodup) : Inv14 (s.fell x y) := by
  have tt : ∀ {u v}, (s.fell x y).g.T u v = true → s.g.T u v = true ∧ ¬ ((u = x ∧ v = y) ∨ (u = y ∧ v = x)) := fun {u v} t => by
    have := (lift_T s.g x y u v).mp t
    exact ⟨this.1, fun z => z.elim this.2.1 this.2.2⟩
  refine ⟨h.len, fun u v hu hv t _ => ?_, fun u v hu hv t hn => ?_, fun u v hu hv t => ?_⟩
  · rw [fell_written, if_neg (tt t).2]; exact h.a1 u v hu hv (tt t).1 fun z => z
  · rw [fell_written, fell_heard, if_neg (tt t).2, if_neg (tt t).2]
    refine h.a2 u v hu hv (tt t).1 fun z => hn ((fell_line hd x y u v).mpr ⟨z, fun w => (tt t).2 (.inl w), fun w => (tt t).2 (.inr w)⟩)
  · rw [fell_written, fell_heard, fell_line hd]
    by_cases c : (u = x ∧ v = y) ∨ (u = y ∧ v = x)
    · rw [if_pos c, if_pos c]
      exact ⟨fun z => c.elim z.2.1 z.2.2, rfl, rfl⟩
    · rw [if_neg c, if_neg c]
      have t2 : s.g.T u v = false := by
        cases k : s.g.T u v with
        | false => rfl
        | true =>
          have : (s.fell x y).g.T u v = true := (lift_T s.g x y u v).mpr ⟨k, fun z => c (.inl z), fun z => c (.inr z)⟩
          rw [t] at this; cases this
      obtain ⟨b1, b2, b3⟩ := h.b u v hu hv t2
      exact ⟨fun z => b1 z.1, b2, b3⟩
theorem laid_inv {s : PS} {x y : Int} (h : Inv14 s) (t1 : s.g.T x y = false) (t2 : s.g.T y x = false) (hx : s.g.ok x) (hy : s.g.ok y) : InvE { s with g := s.g.lay x y } fun u v => (u = x ∧ v = y) ∨ (u = y ∧ v = x) := by
  refine ⟨h.len, fun u v hu hv t he => ?_, fun u v hu hv t hn => ?_, fun u v hu hv t => ?_⟩
  · rcases (lay_T s.g x y u v).mp t with t | t
    · exact h.a1 u v hu hv t fun z => z
    · exact absurd t he
  · have b1 := h.b x y hx hy t1
    have b2 := h.b y x hy hx t2
    rcases (lay_T s.g x y u v).mp t with t | ⟨rfl, rfl⟩ | ⟨rfl, rfl⟩
    · exact h.a2 u v hu hv t hn
    · show s.heard u v = s.written u v; rw [b1.2.1, b1.2.2]
    · show s.heard u v = s.written u v; rw [b2.2.1, b2.2.2]
  · refine h.b u v hu hv ?_
    cases k : s.g.T u v with
    | false => rfl
    | true =>
      have : (s.g.lay x y).T u v = true := (lay_T s.g x y u v).mpr (.inl k)
      rw [show (s.g.lay x y).T u v = false from t] at this; cases this
def Inv15 (s : PS) : Prop := ∀ x, s.g.ok x → s.rd x = s.road x
theorem road_congr {s s' : PS} {x : Int} (hn : s'.g.n = s.g.n) (hc : ∀ tl, s'.g.chosen x tl = s.g.chosen x tl) (ht : nb s.g.n s'.g.T x = nb s.g.n s.g.T x) (hh : ∀ y, s'.heard y x = s.heard y x) : s'.road x = s.road x := by
  unfold PS.road PS.tells
  rw [hc, hn, ht]
  congr 1
  exact List.map_congr_left fun y _ => hh y
theorem choose_15 {s : PS} {x : Int} (hl : s.own.length = s.g.n) (hx : s.g.ok x) {z : Int} (hz : s.g.ok z) (h : z ≠ x → s.rd z = s.road z) : (s.choose x).rd z = (s.choose x).road z := by
  have c := choose_chose hl hx
  generalize s.choose x = s' at c
  have e : s'.road z = s.road z := by unfold PS.road PS.tells; rw [c.g, c.heard]
  rw [c.rd z hz, e]
  split
  · rename_i k; rw [k]
  · rename_i k; exact h k
theorem carry_15 {s : PS} {x y : Int} (hl : s.own.length = s.g.n) (h : Inv15 s) (hy : s.g.ok y) : Inv15 (s.carry x y) := fun z hz => by
  unfold PS.carry at hz ⊢
  rw [choose_g] at hz
  refine choose_15 (s := s.heardOf x y) hl hy hz fun ne => ?_
  have e : (s.heardOf x y).road z = s.road z := road_congr rfl (fun _ => rfl) rfl fun u => by
    show upd2 s.heard x y (s.written x y) u z = s.heard u z
    unfold upd2
    rw [if_neg fun k => ne k.2]
  rw [e]
  exact h z hz
theorem chosen_T (s : GS) (T : Int → Int → Bool) (x : Int) (tl : Tab) : GS.chosen { s with T := T } x tl = s.chosen x tl := rfl
theorem fall_15 {s : PS} {x y : Int} (hl : s.own.length = s.g.n) (h : Inv15 s) (hx : s.g.ok x) (hy : s.g.ok y) : Inv15 (s.fall x y) := fun z hz => by
  have ef : s.fall x y = ((s.fell x y).choose (min x y)).choose (max x y) := rfl
  have hg : (s.fall x y).g.n = s.g.n := by rw [ef, choose_g, choose_g]; rfl
  have hz0 : s.g.ok z := (ok_n (by rw [hg])).mp hz
  have hmin : s.g.ok (min x y) := by unfold GS.ok at *; omega
  have hmax : s.g.ok (max x y) := by unfold GS.ok at *; omega
  have l1 : (s.fell x y).own.length = (s.fell x y).g.n := hl
  have c1 := choose_chose (x := min x y) l1 ((ok_n (s' := s.g) rfl).mpr hmin)
  rw [ef]
  refine choose_15 (by rw [c1.len, c1.g]; exact l1) (by rw [choose_g]; exact (ok_n (s' := s.g) rfl).mpr hmax) (by rw [choose_g]; exact (ok_n (s' := s.g) rfl).mpr hz0) fun n1 => ?_
  refine choose_15 l1 ((ok_n (s' := s.g) rfl).mpr hmin) ((ok_n (s' := s.g) rfl).mpr hz0) fun n2 => ?_
  have ne : z ≠ x ∧ z ≠ y := by omega
  have e : (s.fell x y).road z = s.road z := road_congr rfl (fun _ => rfl) (nb_congr fun u _ _ => by
      rw [Bool.eq_iff_iff]
      show (s.g.lift x y).T z u = true ↔ _
      rw [lift_T]
      exact ⟨fun k => k.1, fun k => ⟨k, fun w => ne.1 w.1, fun w => ne.2 w.1⟩⟩) fun u => by
    rw [fell_heard, if_neg fun k => k.elim (fun k => ne.2 k.2) fun k => ne.1 k.2]
  rw [e]
  exact h z hz0
theorem look_none (s : GS) (x : Int) (b : Option (List Int)) : s.look x b none = b := rfl
theorem fold_some (s : GS) (x : Int) : ∀ (tl : Tab) (b : Option (List Int)), tl.foldl (s.look x) b = (tl.filter Option.isSome).foldl (s.look x) b
  | [], _ => rfl
  | none :: tl, b => by rw [List.foldl_cons, look_none, fold_some s x tl]; rfl
  | some r :: tl, b => by rw [List.foldl_cons, fold_some s x tl]; rfl
theorem tells_filter (n : Nat) (T : Int → Int → Bool) (x : Int) (f : Int → Option (List Int)) : ((nb n T x).map f).filter Option.isSome = ((intsN n).filter fun y => T x y && (f y).isSome).map f := by
  unfold nb
  rw [List.filter_map, List.filter_filter]
  congr 1
  refine List.filter_congr fun y _ => ?_
  rw [Bool.and_comm]; rfl
theorem rise_road {s : PS} {x y : Int} (h : Inv14 s) (t1 : s.g.T x y = false) (t2 : s.g.T y x = false) (hx : s.g.ok x) (hy : s.g.ok y) (z : Int) : PS.road { s with g := s.g.lay x y } z = s.road z := by
  unfold PS.road PS.tells
  show GS.chosen (s.g.lay x y) z ((nb s.g.n (s.g.lay x y).T z).map fun u => s.heard u z) = _
  rw [show GS.chosen (s.g.lay x y) z = s.g.chosen z from rfl]
  unfold GS.chosen
  split
  · rfl
  · rw [fold_some, fold_some s.g z ((nb s.g.n s.g.T z).map fun u => s.heard u z), tells_filter, tells_filter]
    congr 2
    refine List.filter_congr fun u _ => ?_
    rw [Bool.eq_iff_iff, Bool.and_eq_true, Bool.and_eq_true, lay_T]
    constructor
    · rintro ⟨k | ⟨rfl, rfl⟩ | ⟨rfl, rfl⟩, k2⟩
      · exact ⟨k, k2⟩
      · rw [(h.b u z hy hx t2).2.1] at k2; cases k2
      · rw [(h.b u z hx hy t1).2.1] at k2; cases k2
    · rintro ⟨k, k2⟩; exact ⟨.inl k, k2⟩
theorem rise_15 {s : PS} {x y : Int} (h : Inv14 s) (h5 : Inv15 s) (t1 : s.g.T x y = false) (t2 : s.g.T y x = false) (hx : s.g.ok x) (hy : s.g.ok y) : Inv15 (s.rise x y) := fun z hz => by
  unfold PS.rise at hz ⊢
  rw [writeTo_g, writeTo_g] at hz
  rw [writeTo_rd, writeTo_rd]
  have e : ∀ (t : PS) (u v : Int), (t.writeTo u v).road z = t.road z := fun t u v => by unfold PS.road PS.tells; rw [writeTo_g, writeTo_heard]
  rw [e, e, rise_road h t1 t2 hx hy]
  exact h5 z hz
inductive Deed : PS → PS → Prop where
  | carry (s : PS) (x y : Int) (h : (x, y) ∈ s.line) : Deed s (s.carry x y)
  | fall (s : PS) (x y : Int) (h : s.g.ok2 x y) (t : s.g.T x y = true) : Deed s (s.fall x y)
  | rise (s : PS) (x y : Int) (h : s.g.ok2 x y) (t : s.g.T x y = false) : Deed s (s.rise x y)
  | stay (s : PS) : Deed s s
theorem deed_14 {s s' : PS} (d : Deed s s') (L : LineOk s.g.n s.line) (sy : ∀ x y, s.g.T x y = s.g.T y x) (h : Inv14 s) : Inv14 s' := by
  cases d with
  | carry x y hm =>
    have k := L.k _ hm
    exact choose_inv (heardOf_inv h L.d hm k.1 k.2) ((ok_n (s' := s.g) rfl).mpr k.2)
  | fall x y hk t =>
    have ef : s.fall x y = ((s.fell x y).choose (min x y)).choose (max x y) := rfl
    obtain ⟨hx, hy, _⟩ := hk
    have hmin : s.g.ok (min x y) := by unfold GS.ok at *; omega
    have hmax : s.g.ok (max x y) := by unfold GS.ok at *; omega
    rw [ef]
    exact choose_inv (choose_inv (fell_inv h L.d) ((ok_n (s' := s.g) rfl).mpr hmin)) (by rw [choose_g]; exact (ok_n (s' := s.g) rfl).mpr hmax)
  | rise x y hk t =>
    obtain ⟨hx, hy, _⟩ := hk
    have hmin : s.g.ok (min x y) := by unfold GS.ok at *; omega
    have hmax : s.g.ok (max x y) := by unfold GS.ok at *; omega
    have t2 : s.g.T y x = false := by rw [← sy]; exact t
    have h1 := laid_inv h t t2 hx hy
    have e1 : (s.g.lay x y).T (min x y) (max x y) = true := (lay_T _ _ _ _ _).mpr (.inr (by omega))
    have e2 : (s.g.lay x y).T (max x y) (min x y) = true := (lay_T _ _ _ _ _).mpr (.inr (by omega))
    have h2 := writeTo_inv h1 ((ok_n (s' := s.g) rfl).mpr hmin) ((ok_n (s' := s.g) rfl).mpr hmax) e1
    have h3 := writeTo_inv h2 (by rw [writeTo_g]; exact (ok_n (s' := s.g) rfl).mpr hmax) (by rw [writeTo_g]; exact (ok_n (s' := s.g) rfl).mpr hmin) (by rw [writeTo_g]; exact e2)
    exact h3.weak fun u v _ _ z => by omega
  | stay => exact h
theorem deed_15 {s s' : PS} (d : Deed s s') (L : LineOk s.g.n s.line) (sy : ∀ x y, s.g.T x y = s.g.T y x) (h : Inv14 s) (h5 : Inv15 s) : Inv15 s' := by
  cases d with
  | carry x y hm => exact carry_15 h.len h5 (L.k _ hm).2
  | fall x y hk t => exact fall_15 h.len h5 hk.1 hk.2.1
  | rise x y hk t => exact rise_15 h h5 t (by rw [← sy]; exact t) hk.1 hk.2.1
  | stay => exact h5

end DL
namespace DL
open PySem L2
def PS.deedOf (s : PS) (wl : WL) (cell : Int) : PS × WL :=
  if 2 < cell % 5 ∧ cell / 5 % s.g.n ≠ cell / 5 / s.g.n % s.g.n then
    if (min (cell / 5 % s.g.n) (cell / 5 / s.g.n % s.g.n), max (cell / 5 % s.g.n) (cell / 5 / s.g.n % s.g.n)) ∈ wl then (s.fall (cell / 5 % s.g.n) (cell / 5 / s.g.n % s.g.n), wl.erase (min (cell / 5 % s.g.n) (cell / 5 / s.g.n % s.g.n), max (cell / 5 % s.g.n) (cell / 5 / s.g.n % s.g.n)))
    else (s.rise (cell / 5 % s.g.n) (cell / 5 / s.g.n % s.g.n), wl ++ [(min (cell / 5 % s.g.n) (cell / 5 / s.g.n % s.g.n), max (cell / 5 % s.g.n) (cell / 5 / s.g.n % s.g.n))])
  else match s.line[(cell / 5 % (s.line.length : Int)).toNat]? with
    | some q => (s.carry q.1 q.2, wl)
    | none => (s, wl)
structure DeedOk (s s' : PS) (wl wl' : WL) : Prop where
  d : Deed s s'
  g : s'.g = { s.g with T := relW wl' }
  w : WayOk s.g.n wl'
  l : wl'.length ≤ wl.length + 1
theorem fall_g (s : PS) (x y : Int) : (s.fall x y).g = s.g.lift x y := by unfold PS.fall; rw [choose_g, choose_g]; rfl
theorem rise_g (s : PS) (x y : Int) : (s.rise x y).g = s.g.lay x y := by unfold PS.rise; rw [writeTo_g, writeTo_g]
theorem carry_g (s : PS) (x y : Int) : (s.carry x y).g = s.g := by unfold PS.carry; rw [choose_g]; rfl
theorem g_self {s : GS} {wl : WL} (h : s.T = relW wl) : s = { s with T := relW wl } := by rw [← h]
theorem deedOf_ok {s : PS} {wl : WL} (cell : Int) (n1 : 1 ≤ s.g.n) (eT : s.g.T = relW wl) (ow : WayOk s.g.n wl) (hl : wl.length < 100000) : DeedOk s (s.deedOf wl cell).1 wl (s.deedOf wl cell).2 := by
  have x0 : 0 ≤ cell / 5 % (s.g.n : Int) ∧ cell / 5 % (s.g.n : Int) < s.g.n := ⟨Int.emod_nonneg _ (by omega), Int.emod_lt_of_pos _ (by omega)⟩
  have y0 : 0 ≤ cell / 5 / s.g.n % (s.g.n : Int) ∧ cell / 5 / s.g.n % (s.g.n : Int) < s.g.n := ⟨Int.emod_nonneg _ (by omega), Int.emod_lt_of_pos _ (by omega)⟩
  unfold PS.deedOf
  generalize cell / 5 % (s.g.n : Int) = x at *
  generalize cell / 5 / (s.g.n : Int) % (s.g.n : Int) = y at *
  by_cases c : 2 < cell % 5 ∧ x ≠ y
  · rw [if_pos c]
    have ok : s.g.ok2 x y := ⟨x0, y0, c.2⟩
    by_cases m : (min x y, max x y) ∈ wl
    · rw [if_pos m]
      have t : s.g.T x y = true := by rw [eT]; exact decide_eq_true m
      refine ⟨.fall s x y ok t, ?_, ⟨fun p hp => ow.k p (List.mem_of_mem_erase hp), ow.d.erase _, by have := List.length_erase_of_mem m; dsimp only; omega⟩, by have := List.length_erase_of_mem m; dsimp only; omega⟩
      rw [fall_g]
      refine congrArg (fun T => ({ s.g with T := T } : GS)) ?_
      funext u v
      rw [relW_erase wl ow.d x y u v, ← eT] <;> rfl
    · rw [if_neg m]
      have t : s.g.T x y = false := by rw [eT]; exact decide_eq_false m
      refine ⟨.rise s x y ok t, ?_, ⟨fun p hp => ?_, app_nodup ow.d m, by dsimp only; rw [List.length_append, List.length_singleton]; omega⟩, by dsimp only; rw [List.length_append, List.length_singleton]; omega⟩
      · rw [rise_g]
        refine congrArg (fun T => ({ s.g with T := T } : GS)) ?_
        funext u v
        rw [relW_app wl x y u v, ← eT] <;> rfl
      · rcases List.mem_append.mp hp with hp | hp
        · exact ow.k p hp
        · rw [List.mem_singleton.mp hp]
          have := c.2
          dsimp only
          omega
  · rw [if_neg c]
    cases e : s.line[(cell / 5 % (s.line.length : Int)).toNat]? with
    | none => exact ⟨.stay s, g_self eT, ow, Nat.le_succ _⟩
    | some q =>
      obtain ⟨hb, e2⟩ := List.getElem?_eq_some_iff.mp e
      exact ⟨.carry s q.1 q.2 (by rw [← e2]; exact List.getElem_mem _), (carry_g s _ _).trans (g_self eT), ow, Nat.le_succ _⟩
theorem begun_rd {s : GS} {l : List Int} {x : Int} (n1 : 1 ≤ s.n) (hx : s.ok x) : (PS.begun s l).rd x = if x = 0 then some [0] else none := by
  unfold PS.rd PS.begun
  unfold GS.ok at hx
  by_cases c : x = 0
  · rw [if_pos c, c]; rfl
  · rw [if_neg c]
    obtain ⟨k, rfl⟩ : ∃ k : Nat, x = (k + 1 : Nat) := ⟨x.toNat - 1, by omega⟩
    show ((some [0] :: List.replicate (s.n - 1) none : Tab).getD ((k + 1 : Nat) : Int).toNat none) = none
    rw [Int.toNat_natCast, List.getD_cons_succ, List.getD_eq_getElem?_getD]
    cases e : (List.replicate (s.n - 1) (none : Option (List Int)))[k]? with
    | none => rfl
    | some o =>
      obtain ⟨hb, e2⟩ := List.getElem?_eq_some_iff.mp e
      rw [← e2, List.getElem_replicate]; rfl
theorem begin_14 {s : GS} (n1 : 1 ≤ s.n) : Inv14 (PS.begin s) := by
  rw [begin_eq]
  refine ⟨by show (some [0] :: List.replicate (s.n - 1) none : Tab).length = s.n; simp; omega, fun x y hx hy t _ => ?_, fun x y hx hy t hn => ?_, fun x y hx hy t => ?_⟩
  · rw [begun_rd n1 hx]
    show (if x = 0 ∧ y ∈ nb s.n s.T 0 then some [0] else none) = _
    by_cases c : x = 0
    · subst c
      rw [if_pos ⟨rfl, nb_mem.mpr ⟨hy, t⟩⟩, if_pos rfl]
    · rw [if_neg fun z => c z.1, if_neg c]
  · show none = if x = 0 ∧ y ∈ nb s.n s.T 0 then some [0] else none
    rw [if_neg fun z => hn (by show (x, y) ∈ (nb s.n s.T 0).map fun y => (0, y); exact List.mem_map.mpr ⟨y, z.2, by rw [z.1]⟩)]
  · have hnb : ¬ (x = 0 ∧ y ∈ nb s.n s.T 0) := fun z => by
      have := (nb_mem.mp z.2).2
      rw [← z.1] at this
      rw [show s.T x y = false from t] at this; cases this
    refine ⟨fun z => ?_, rfl, by show (if x = 0 ∧ y ∈ nb s.n s.T 0 then some [0] else none) = none; rw [if_neg hnb]⟩
    obtain ⟨v, hv, e⟩ := List.mem_map.mp (show (x, y) ∈ (nb s.n s.T 0).map fun y => ((0 : Int), y) from z)
    injection e with e1 e2
    exact hnb ⟨e1.symm, by rw [← e2]; exact hv⟩
theorem begin_15 {s : GS} (n1 : 1 ≤ s.n) : Inv15 (PS.begin s) := fun x hx => by
  rw [begin_eq] at hx ⊢
  rw [begun_rd n1 hx]
  unfold PS.road GS.chosen
  split
  · rfl
  · rw [fold_some]
    have : ((PS.begun s (nb s.n s.T 0)).tells x).filter Option.isSome = [] := by
      unfold PS.tells
      rw [List.filter_eq_nil_iff]
      intro o ho
      obtain ⟨y, _, rfl⟩ := List.mem_map.mp ho
      show ¬ (none : Option (List Int)).isSome = true
      decide
    rw [this]; rfl
theorem copy_book {n : Nat} {wl : WL} {fl dl : KL} {sl : WL} (ff : FondOk n fl) (fd : DearOk n dl) (wl' : WL) : Book { (gOf n wl fl dl sl).copy with T := relW wl' } wl' fl dl sl := by
  refine ⟨⟨fun x y => ?_, fun r => wishes_get fd.d r, fun _ _ _ _ _ _ => rfl⟩, fun _ _ _ _ _ _ => rfl⟩
  show (if (0 ≤ x ∧ x < (n : Int)) ∧ (0 ≤ y ∧ y < (n : Int)) then (kget fl [x, y]).getD 0 else 0) = _
  split
  · rfl
  · rename_i c
    rw [kget_none fun z => c ?_]; · rfl
    obtain ⟨q, hq, e⟩ := List.mem_map.mp z
    obtain ⟨u, v, e2, hu, hv⟩ := ff.k q hq
    rw [e2] at e
    injection e with e3 e4
    injection e4 with e5 _
    subst e3; subst e5
    exact ⟨hu, hv⟩

end DL
namespace DL
open PySem L2
def PS.settle (s : PS) : Nat → Nat × PS
  | 0 => (0, s)
  | k + 1 => match s.line with
    | [] => (0, s)
    | q :: _ => let r := (s.carry q.1 q.2).settle k; (r.1 + 1, r.2)
def leftOn (k : Nat) : Option (Option D) → Nat
  | some (some (.int i)) => k - i.toNat
  | _ => 0

end DL
namespace DL
open PySem L2
theorem settle_nil {s : PS} (h : s.line = []) : ∀ k, s.settle k = (0, s)
  | 0 => rfl
  | k + 1 => by rw [PS.settle, h]
theorem settle_cons {s : PS} {q : Int × Int} {r : WL} (h : s.line = q :: r) (k : Nat) : s.settle (k + 1) = (((s.carry q.1 q.2).settle k).1 + 1, ((s.carry q.1 q.2).settle k).2) := by rw [PS.settle, h]
theorem settle_le : ∀ (k : Nat) (s : PS), (s.settle k).1 ≤ k
  | 0, _ => Nat.le_refl _
  | k + 1, s => by
    cases h : s.line with
    | nil => rw [settle_nil h]; exact Nat.zero_le _
    | cons q r =>
      rw [settle_cons h]
      have := settle_le k (s.carry q.1 q.2)
      show _ + 1 ≤ _
      omega
theorem settle_calm : ∀ (k : Nat) (s : PS), (s.settle k).1 < k → (s.settle k).2.line = []
  | 0, _, h => absurd h (Nat.not_lt_zero _)
  | k + 1, s, h => by
    cases e : s.line with
    | nil => rw [settle_nil e]; exact e
    | cons q r =>
      rw [settle_cons e] at h ⊢
      exact settle_calm k _ (by have : _ + 1 < k + 1 := h; omega)
theorem settle_none : ∀ (k : Nat) (s : PS), (s.settle k).1 = 0 → (s.settle k).2 = s
  | 0, _, _ => rfl
  | k + 1, s, h => by
    cases e : s.line with
    | nil => rw [settle_nil e]
    | cons q r => rw [settle_cons e] at h; cases h
theorem settle_keeps (I : PS → Prop) (h : ∀ s q, I s → q ∈ s.line → I (s.carry q.1 q.2)) : ∀ (k : Nat) (s : PS), I s → I (s.settle k).2
  | 0, _, i => i
  | k + 1, s, i => by
    cases e : s.line with
    | nil => rw [settle_nil e]; exact i
    | cons q r => rw [settle_cons e]; exact settle_keeps I h k _ (h s q i (by rw [e]; exact List.mem_cons_self))
theorem settle_g (k : Nat) (s : PS) : (s.settle k).2.g = s.g := settle_keeps (fun t => t.g = s.g) (fun t q e _ => (carry_g t q.1 q.2).trans e) k s rfl

end DL
namespace DL
open PySem L2
def walkGo (tab : List (Option (List Int))) : Nat → List Int → Int → Str × List Int
  | 0, gone, _ => ("comes", gone)
  | n + 1, gone, h => if h = 0 then ("comes", gone) else match tab.getD h.toNat none with
    | none => ("stops", gone)
    | some r => if r.getD 1 0 ∈ gone then ("rings", gone) else walkGo tab n (gone ++ [r.getD 1 0]) (r.getD 1 0)
def Nexts (tab : List (Option (List Int))) : Prop := ∀ (i : Nat) (r : List Int), 0 < i → tab[i]? = some (some r) → 2 ≤ r.length ∧ 0 ≤ r.getD 1 0 ∧ r.getD 1 0 < tab.length
def walkOf (tab : List (Option (List Int))) (h : Int) : Str × List Int := walkGo tab (tab.length + 1) [h] h

end DL
namespace DL
open PySem L2
theorem rank_same {s s' : GS} {fl dl : KL} {sl : WL} (e : Same' s fl dl sl) (e' : Same' s' fl dl sl) (r : List Int) : s'.rank r = s.rank r := by
  unfold GS.rank
  rw [e.L, e'.L]
  simp only [e.F, e'.F]
theorem better_same {s s' : GS} {fl dl : KL} {sl : WL} (e : Same' s fl dl sl) (e' : Same' s' fl dl sl) (x y : List Int) : s'.better x y = s.better x y := by
  unfold GS.better
  rw [rank_same e e', rank_same e e']
theorem look_same {s s' : GS} {fl dl : KL} {sl : WL} (e : Same' s fl dl sl) (e' : Same' s' fl dl sl) (hn : s'.n = s.n) {house : Int} (hh : s.ok house) {o : Option (List Int)} (ht : ∀ r, o = some r → s.told r) (b : Option (List Int)) : s'.look house b o = s.look house b o := by
  cases o with
  | none => rfl
  | some r =>
    have h1 := ht r rfl
    unfold GS.look
    rw [takeQ_same e hh h1, takeQ_same e' ((ok_n hn).mpr hh) ((told_n hn).mpr h1)]
    split
    · dsimp only
      cases b with
      | none => rfl
      | some b => dsimp only; rw [better_same e e']
    · rfl
theorem fold_same {s s' : GS} {fl dl : KL} {sl : WL} (e : Same' s fl dl sl) (e' : Same' s' fl dl sl) (hn : s'.n = s.n) {house : Int} (hh : s.ok house) : ∀ (tl : Tab) (b : Option (List Int)), (∀ r, some r ∈ tl → s.told r) → tl.foldl (s'.look house) b = tl.foldl (s.look house) b
  | [], _, _ => rfl
  | o :: tl, b, ht => by
    rw [List.foldl_cons, List.foldl_cons, look_same e e' hn hh (fun r z => ht r (by rw [z]; exact List.mem_cons_self)) b]
    exact fold_same e e' hn hh tl _ fun r z => ht r (List.mem_cons_of_mem _ z)
theorem chosen_same {s s' : GS} {fl dl : KL} {sl : WL} (e : Same' s fl dl sl) (e' : Same' s' fl dl sl) (hn : s'.n = s.n) {house : Int} (hh : s.ok house) {tl : Tab} (ht : ∀ r, some r ∈ tl → s.told r) : s'.chosen house tl = s.chosen house tl := by
  unfold GS.chosen
  split
  · rfl
  · exact fold_same e e' hn hh tl none ht
theorem look_mem {s : GS} {x : Int} {best o : Option (List Int)} {r : List Int} (e : s.look x best o = some r) : best = some r ∨ ∃ r', o = some r' ∧ r = x :: r' ∧ x ∉ r' := by
  unfold GS.look at e
  split at e
  · rename_i c
    obtain ⟨r', rfl, hn, _⟩ := takeQ_some c
    dsimp only at e
    cases best with
    | none => exact .inr ⟨r', rfl, (Option.some.inj e).symm, hn⟩
    | some b =>
      dsimp only at e
      split at e
      · exact .inr ⟨r', rfl, (Option.some.inj e).symm, hn⟩
      · exact .inl e
  · exact .inl e
theorem fold_mem {s : GS} {x : Int} {r : List Int} : ∀ (tl : Tab) (best : Option (List Int)), tl.foldl (s.look x) best = some r → best = some r ∨ ∃ r', some r' ∈ tl ∧ r = x :: r' ∧ x ∉ r'
  | [], _, e => .inl e
  | o :: tl, best, e => by
    rcases fold_mem tl _ e with e | ⟨r', h, k⟩
    · rcases look_mem e with e | ⟨r', h, k⟩
      · exact .inl e
      · exact .inr ⟨r', by rw [h]; exact List.mem_cons_self, k⟩
    · exact .inr ⟨r', List.mem_cons_of_mem _ h, k⟩
theorem chosen_mem {s : GS} {x : Int} {tl : Tab} {r : List Int} (hx : x ≠ 0) (e : s.chosen x tl = some r) : ∃ r', some r' ∈ tl ∧ r = x :: r' ∧ x ∉ r' := by
  unfold GS.chosen at e
  rw [if_neg hx] at e
  exact (fold_mem tl none e).resolve_left fun z => by cases z
structure Settled (s : GS) (tab : Tab) : Prop where
  len : tab.length = s.n
  e : ∀ x, s.ok x → tab.getD x.toNat none = s.chosen x (s.row tab x)
  t : ∀ r, some r ∈ tab → s.told r
theorem Settled.uns {s : GS} {tab : Tab} (h : Settled s tab) : s.unsettled tab = none := by
  unfold GS.unsettled GS.unsetFrom
  have : (List.range' 0 (s.n - 0)).find? (fun i => !decide (tab.getD i none = s.chosen (i : Nat) (s.row tab (i : Nat)))) = none := by
    rw [List.find?_eq_none]
    intro i hi
    have hi2 := List.mem_range'_1.mp hi
    have := h.e (i : Nat) ⟨by omega, by omega⟩
    rw [Int.toNat_natCast] at this
    rw [decide_eq_true this]; decide
  rw [this]; rfl
theorem Settled.mem {s : GS} {tab : Tab} (h : Settled s tab) {x : Int} {r : List Int} (e : tab.getD x.toNat none = some r) : some r ∈ tab := by
  rw [List.getD_eq_getElem?_getD] at e
  cases c : tab[x.toNat]? with
  | none => rw [c] at e; cases e
  | some o =>
    rw [c] at e
    obtain ⟨hb, e2⟩ := List.getElem?_eq_some_iff.mp c
    rw [← show o = some r from e, ← e2]; exact List.getElem_mem _
theorem Settled.head {s : GS} {tab : Tab} (h : Settled s tab) {x : Int} (hx : s.ok x) {r : List Int} (e : tab.getD x.toNat none = some r) : s.told r ∧ r.head? = some x :=
  chosen_mine (tl := s.row tab x) hx (told_row h.t) r (by rw [← h.e x hx]; exact e)
theorem Settled.next {s : GS} {tab : Tab} (h : Settled s tab) {x : Int} (hx : s.ok x) (x0 : x ≠ 0) {r : List Int} (e : tab.getD x.toNat none = some r) : ∃ b r', r = x :: b :: r' ∧ s.ok b ∧ s.T x b = true ∧ x ∉ b :: r' ∧ tab.getD b.toNat none = some (b :: r') := by
  have e1 := e
  rw [h.e x hx] at e1
  obtain ⟨r', hm, rfl, hn⟩ := chosen_mem x0 e1
  obtain ⟨b, hb, e2⟩ := List.mem_map.mp hm
  have hb2 := nb_mem.mp hb
  obtain ⟨_, h2⟩ := h.head (x := b) hb2.1 e2
  cases r' with
  | nil => cases h2
  | cons c r' =>
    cases h2
    exact ⟨_, r', rfl, hb2.1, hb2.2, hn, e2⟩
theorem Settled.nexts {s : GS} {tab : Tab} (h : Settled s tab) : Nexts tab := by
  intro i r hi e
  obtain ⟨hb, e2⟩ := List.getElem?_eq_some_iff.mp e
  have e3 : tab.getD ((i : Nat) : Int).toNat none = some r := by rw [Int.toNat_natCast, List.getD_eq_getElem?_getD, e]; rfl
  obtain ⟨b, r', rfl, hb2, _, _, _⟩ := h.next (x := (i : Nat)) ⟨by omega, by rw [← h.len]; omega⟩ (by omega) e3
  refine ⟨by simp, ?_⟩
  show 0 ≤ b ∧ b < _
  rw [h.len]; exact hb2
theorem Settled.go {s : GS} {tab : Tab} (h : Settled s tab) : ∀ (r' : List Int) (k : Nat) (pre : List Int) (x : Int), r'.length < k → s.ok x → tab.getD x.toNat none = some (x :: r') → (pre ++ x :: r').Nodup → walkGo tab k (pre ++ [x]) x = (("comes" : Str), pre ++ x :: r')
  | r', 0, _, _, hk, _, _, _ => absurd hk (Nat.not_lt_zero _)
  | r', k + 1, pre, x, hk, hx, e, hd => by
    rw [walkGo]
    by_cases x0 : x = 0
    · rw [if_pos x0]
      have e1 := h.e x hx
      rw [e] at e1
      unfold GS.chosen at e1
      rw [if_pos x0] at e1
      injection e1 with e1
      injection e1 with _ e1
      rw [e1]
    · rw [if_neg x0]
      obtain ⟨b, r2, er, hb, _, hn, e2⟩ := h.next hx x0 e
      injection er with _ er
      subst er
      rw [e]
      dsimp only
      have hg : (x :: b :: r2).getD 1 0 = b := rfl
      rw [hg]
      have hb2 : b ∉ pre ++ [x] := fun z => by
        rw [show pre ++ x :: b :: r2 = (pre ++ [x]) ++ b :: r2 by simp] at hd
        exact (List.nodup_append.mp hd).2.2 _ z _ List.mem_cons_self rfl
      rw [if_neg hb2]
      have := h.go r2 k (pre ++ [x]) b (by simp at hk ⊢; omega) hb e2 (by rw [show (pre ++ [x]) ++ b :: r2 = pre ++ x :: b :: r2 by simp]; exact hd)
      rw [this]
      simp
theorem Settled.walk {s : GS} {tab : Tab} (h : Settled s tab) {x : Int} (hx : s.ok x) : walkOf tab x = match tab.getD x.toNat none with | none => (("stops" : Str), [x]) | some r => (("comes" : Str), r) := by
  unfold walkOf
  cases e : tab.getD x.toNat none with
  | none =>
    have x0 : x ≠ 0 := fun z => by
      have e1 := h.e x hx
      rw [e] at e1
      unfold GS.chosen at e1
      rw [if_pos z] at e1
      cases e1
    rw [walkGo, if_neg x0, e]
  | some r =>
    obtain ⟨t, hh⟩ := h.head hx e
    cases r with
    | nil => cases hh
    | cons y r' =>
      cases hh
      have := h.go r' (tab.length + 1) [] _ (by have := t.len; rw [h.len]; simp at this; omega) hx e t.2.2
      exact this
theorem calm_tells {s : PS} (hl : s.line = []) (sy : ∀ x y, s.g.T x y = s.g.T y x) (h : Inv14 s) {x : Int} (hx : s.g.ok x) : s.tells x = s.g.row s.own x := by
  unfold PS.tells GS.row
  refine List.map_congr_left fun y hy => ?_
  have m := nb_mem.mp hy
  have t : s.g.T y x = true := by rw [sy]; exact m.2
  show s.heard y x = s.rd y
  rw [h.a2 y x m.1 hx t (by rw [hl]; exact List.not_mem_nil), h.a1 y x m.1 hx t fun z => z]
theorem calm_settled {s : PS} (hl : s.line = []) (sy : ∀ x y, s.g.T x y = s.g.T y x) (h : Inv14 s) (h5 : Inv15 s) (k : POk s) : Settled s.g s.own := by
  refine ⟨h.len, fun x hx => ?_, k.ow⟩
  rw [← calm_tells hl sy h hx]
  exact h5 x hx
theorem Settled.same {s s' : GS} {tab : Tab} {wl : WL} {fl dl : KL} {sl : WL} (h : Settled s tab) (e : Book s wl fl dl sl) (e' : Book s' wl fl dl sl) (hn : s'.n = s.n) : Settled s' tab := by
  refine ⟨h.len.trans hn.symm, fun x hx => ?_, fun r hr => (told_n hn).mpr (h.t r hr)⟩
  have hx' : s.ok x := (ok_n hn).mp hx
  have er : s'.row tab x = s.row tab x := by
    unfold GS.row
    rw [hn, nb_congr fun y h0 h1 => ?_]
    rw [e'.T x y hx.1 hx.2 h0 (by rw [hn]; exact h1), e.T x y hx'.1 hx'.2 h0 h1]
  rw [er, chosen_same (tl := s.row tab x) e.toSame' e'.toSame' hn hx' (told_row h.t)]
  exact h.e x hx'
theorem writeTo_L {s : PS} {n : Nat} {x y : Int} (h : LineOk n s.line) (hx : 0 ≤ x ∧ x < n) (hy : 0 ≤ y ∧ y < n) : LineOk n (s.writeTo x y).line := by
  unfold PS.writeTo
  split
  · exact h
  · dsimp only
    split
    · exact h
    · rename_i c
      refine ⟨fun p hp => ?_, app_nodup h.d c⟩
      rcases List.mem_append.mp hp with hp | hp
      · exact h.k p hp
      · rw [List.mem_singleton.mp hp]; exact ⟨hx, hy⟩
theorem writes_L {n : Nat} {x : Int} (hx : 0 ≤ x ∧ x < (n : Int)) : ∀ (l : List Int) (s : PS), (∀ y ∈ l, 0 ≤ y ∧ y < (n : Int)) → LineOk n s.line → LineOk n (s.writes x l).line
  | [], _, _, h => h
  | y :: l, s, hl, h => writes_L hx l (s.writeTo x y) (fun z hz => hl z (List.mem_cons_of_mem _ hz)) (writeTo_L h hx (hl y List.mem_cons_self))
theorem choose_L {s : PS} {x : Int} (h : LineOk s.g.n s.line) (hx : s.g.ok x) : LineOk s.g.n (s.choose x).line := by
  unfold PS.choose
  split
  · exact h
  · exact writes_L hx (nb s.g.n s.g.T x) { s with own := s.own.set x.toNat (s.road x) } (fun y hy => (nb_mem.mp hy).1) h
theorem carry_L {s : PS} {x y : Int} (h : LineOk s.g.n s.line) (hm : (x, y) ∈ s.line) : LineOk s.g.n (s.carry x y).line :=
  choose_L (s := s.heardOf x y) ⟨fun p hp => h.k p (List.mem_of_mem_erase hp), h.d.erase _⟩ (h.k _ hm).2
structure Sound (g : GS) (s : PS) : Prop where
  g : s.g = g
  L : LineOk s.g.n s.line
  i14 : Inv14 s
  i15 : Inv15 s
theorem Sound.carry {g : GS} {s : PS} (sy : ∀ x y, g.T x y = g.T y x) (h : Sound g s) {x y : Int} (hm : (x, y) ∈ s.line) : Sound g (s.carry x y) :=
  ⟨(carry_g s x y).trans h.g, by rw [carry_g]; exact carry_L h.L hm, deed_14 (.carry s x y hm) h.L (by rw [h.g]; exact sy) h.i14, deed_15 (.carry s x y hm) h.L (by rw [h.g]; exact sy) h.i14 h.i15⟩
theorem Sound.settle {g : GS} {s : PS} (sy : ∀ x y, g.T x y = g.T y x) (h : Sound g s) (k : Nat) : Sound g (s.settle k).2 :=
  settle_keeps (Sound g) (fun t q ht hq => ht.carry (x := q.1) (y := q.2) sy hq) k s h

end DL
namespace DL
open PySem L2
abbrev Row := List (Option Int)
def eI : Option Int → D := eO .int
def eRow (row : Row) : D := .lst (row.map eI)
def rowsOf (n : Nat) (T : Int → Int → Bool) : Nat → List Row
  | 0 => [[none]]
  | k + 1 => (rowsOf n T k).flatMap fun row => (none :: (nb n T ((k + 1 : Nat) : Int)).map some).map fun o => row ++ [o]
theorem rowsOf_mem {n : Nat} {T : Int → Int → Bool} : ∀ {k : Nat} {row : Row}, row ∈ rowsOf n T k ↔ row.length = k + 1 ∧ row.getD 0 none = none ∧ ∀ i : Nat, 1 ≤ i → i ≤ k → ∀ x, row.getD i none = some x → x ∈ nb n T (i : Nat)
  | 0, row => by
    simp only [rowsOf, List.mem_singleton]
    constructor
    · rintro rfl; exact ⟨rfl, rfl, fun i h1 h2 => by omega⟩
    · rintro ⟨h1, h2, _⟩
      match row, h1, h2 with
      | [o], _, h2 =>
        have h3 : o = none := h2
        rw [h3]
  | k + 1, row => by
    simp only [rowsOf, List.mem_flatMap, List.mem_map]
    constructor
    · rintro ⟨r, hr, o, ho, rfl⟩
      obtain ⟨h1, h2, h3⟩ := rowsOf_mem.mp hr
      refine ⟨by rw [List.length_append, h1]; rfl, ?_, fun i i1 i2 x hx => ?_⟩
      · rw [List.getD_eq_getElem?_getD] at h2 ⊢
        rw [List.getElem?_append_left (by omega)]; exact h2
      · by_cases c : i ≤ k
        · refine h3 i i1 c x ?_
          rw [List.getD_eq_getElem?_getD] at hx ⊢
          rw [List.getElem?_append_left (by omega)] at hx; exact hx
        · have : i = k + 1 := by omega
          subst this
          rw [List.getD_eq_getElem?_getD, List.getElem?_append_right (by omega), h1, Nat.sub_self] at hx
          have ho2 : o = some x := hx
          rw [ho2] at ho
          rcases List.mem_cons.mp ho with z | z
          · cases z
          · obtain ⟨y, hy, e⟩ := List.mem_map.mp z
            cases e; exact hy
    · rintro ⟨h1, h2, h3⟩
      have ne : row ≠ [] := fun z => by rw [z] at h1; simp at h1
      have ed : row.dropLast ++ [row.getLast ne] = row := List.dropLast_concat_getLast ne
      have hl : row.dropLast.length = k + 1 := by rw [List.length_dropLast]; omega
      have get : ∀ i, i < k + 1 → row.dropLast.getD i none = row.getD i none := fun i hi => by
        rw [List.getD_eq_getElem?_getD, List.getD_eq_getElem?_getD]
        conv => rhs; rw [← ed]
        rw [List.getElem?_append_left (by omega)]
      refine ⟨row.dropLast, rowsOf_mem.mpr ⟨hl, by rw [get 0 (by omega)]; exact h2, fun i i1 i2 x hx => h3 i i1 (by omega) x (by rw [← get i (by omega)]; exact hx)⟩, row.getLast ne, ?_, ed⟩
      cases c : row.getLast ne with
      | none => exact List.mem_cons_self
      | some x =>
        refine List.mem_cons_of_mem _ (List.mem_map.mpr ⟨x, h3 (k + 1) (by omega) (by omega) x ?_, rfl⟩)
        rw [List.getD_eq_getElem?_getD]
        conv => lhs; rw [← ed]
        rw [List.getElem?_append_right (by omega), hl, Nat.sub_self, c]; rfl
theorem rowsOf_len {n : Nat} {T : Int → Int → Bool} (hn : n ≤ 5) : ∀ k : Nat, (rowsOf n T k).length ≤ 6 ^ k
  | 0 => by simp [rowsOf]
  | k + 1 => by
    have ih := rowsOf_len (T := T) hn k
    have h : ∀ l : List Row, (l.flatMap fun row => (none :: (nb n T ((k + 1 : Nat) : Int)).map some).map fun o => row ++ [o]).length ≤ l.length * 6 := by
      intro l
      induction l with
      | nil => simp
      | cons r l ih =>
        rw [List.flatMap_cons, List.length_append, List.length_map, List.length_cons, List.length_map, List.length_cons]
        have := nb_len n T ((k + 1 : Nat) : Int)
        omega
    refine Nat.le_trans (h (rowsOf n T k)) ?_
    rw [Nat.pow_succ]
    exact Nat.mul_le_mul_right 6 ih
def cod : Option Int → Int
  | none => -1
  | some x => x
def rkey (row : Row) : List Int := row.tail.map cod
theorem lt_app : ∀ {l l' : List Int} (x y : Int), l.length = l'.length → l < l' → l ++ [x] < l' ++ [y]
  | [], [], x, y, _, h => absurd h (List.lt_irrefl _)
  | [], _ :: _, _, _, h, _ => by simp at h
  | _ :: _, [], _, _, h, _ => by simp at h
  | a :: l, b :: l', x, y, hl, h => by
    rw [List.cons_append, List.cons_append, List.cons_lt_cons_iff]
    rcases List.cons_lt_cons_iff.mp h with h1 | ⟨h1, h2⟩
    · exact .inl h1
    · exact .inr ⟨h1, lt_app x y (by simpa using hl) h2⟩
theorem lt_app_same : ∀ (l : List Int) {x y : Int}, x < y → l ++ [x] < l ++ [y]
  | [], x, y, h => List.cons_lt_cons_iff.mpr (.inl h)
  | a :: l, x, y, h => by
    rw [List.cons_append, List.cons_append, List.cons_lt_cons_iff]
    exact .inr ⟨rfl, lt_app_same l h⟩
theorem rkey_app {row : Row} (h : row ≠ []) (o : Option Int) : rkey (row ++ [o]) = rkey row ++ [cod o] := by
  unfold rkey
  rw [List.tail_append_of_ne_nil h, List.map_append]; rfl
theorem nb_cod (n : Nat) (T : Int → Int → Bool) (x : Int) : (none :: (nb n T x).map some).Pairwise fun o o' => cod o < cod o' := by
  refine List.pairwise_cons.mpr ⟨fun o ho => ?_, ?_⟩
  · obtain ⟨y, hy, rfl⟩ := List.mem_map.mp ho
    have := (nb_mem.mp hy).1.1
    show (-1 : Int) < y
    omega
  · rw [List.pairwise_map]
    exact (nb_pw n T x).imp fun h => h
theorem rowsOf_pw (n : Nat) (T : Int → Int → Bool) : ∀ k : Nat, (rowsOf n T k).Pairwise fun r r' => rkey r < rkey r'
  | 0 => List.pairwise_singleton _ _
  | k + 1 => by
    show ((rowsOf n T k).flatMap _).Pairwise _
    rw [List.pairwise_flatMap]
    have ne : ∀ r ∈ rowsOf n T k, r ≠ [] := fun r hr z => by have := (rowsOf_mem.mp hr).1; rw [z] at this; simp at this
    refine ⟨fun r hr => ?_, (rowsOf_pw n T k).imp_of_mem fun {r r'} hr hr' h => ?_⟩
    · rw [List.pairwise_map]
      refine (nb_cod n T _).imp fun {o o'} h => ?_
      rw [rkey_app (ne r hr), rkey_app (ne r hr)]
      exact lt_app_same _ h
    · rintro x hx y hy
      obtain ⟨o, _, rfl⟩ := List.mem_map.mp hx
      obtain ⟨o', _, rfl⟩ := List.mem_map.mp hy
      rw [rkey_app (ne r hr), rkey_app (ne r' hr')]
      refine lt_app _ _ ?_ h
      unfold rkey
      rw [List.length_map, List.length_map, List.length_tail, List.length_tail, (rowsOf_mem.mp hr).1, (rowsOf_mem.mp hr').1]
def follGo (row : Row) : Nat → List Int → Int → Option (List Int)
  | 0, _, _ => none
  | k + 1, road, h => if h = 0 then some road else match row.getD h.toNat none with
    | none => none
    | some x => if x ∈ road then none else follGo row k (road ++ [x]) x
def foll (row : Row) (h : Int) : Option (List Int) := follGo row (row.length + 1) [h] h
def RowIn (n : Nat) (row : Row) : Prop := row.length = n ∧ ∀ (i : Nat) (x : Int), row.getD i none = some x → 0 ≤ x ∧ x < n
theorem rowsOf_in {n : Nat} {T : Int → Int → Bool} (hn : 1 ≤ n) {row : Row} (h : row ∈ rowsOf n T (n - 1)) : RowIn n row := by
  obtain ⟨h1, h2, h3⟩ := rowsOf_mem.mp h
  refine ⟨by omega, fun i x hx => ?_⟩
  by_cases c : i = 0
  · subst c; rw [h2] at hx; cases hx
  · by_cases c2 : i < row.length
    · exact (nb_mem.mp (h3 i (by omega) (by omega) x hx)).1
    · rw [List.getD_eq_getElem?_getD, List.getElem?_eq_none (by omega)] at hx; cases hx
theorem follGo_ok {n : Nat} {row : Row} (hr : RowIn n row) : ∀ (k : Nat) (road : List Int) (h : Int) (r : List Int), follGo row k road h = some r → (∀ x ∈ road, 0 ≤ x ∧ x < (n : Int)) → road.Nodup → road.getLast? = some h → (∀ x ∈ r, 0 ≤ x ∧ x < (n : Int)) ∧ r.Nodup ∧ r.getLast? = some 0 ∧ ∃ t, r = road ++ t
  | 0, _, _, _, e, _, _, _ => by cases e
  | k + 1, road, h, r, e, h1, h2, h3 => by
    rw [follGo] at e
    by_cases c : h = 0
    · rw [if_pos c] at e
      cases e
      exact ⟨h1, h2, by rw [h3, c], [], by simp⟩
    · rw [if_neg c] at e
      cases c2 : row.getD h.toNat none with
      | none => rw [c2] at e; cases e
      | some x =>
        rw [c2] at e
        dsimp only at e
        by_cases c3 : x ∈ road
        · rw [if_pos c3] at e; cases e
        · rw [if_neg c3] at e
          obtain ⟨a1, a2, a3, t, a4⟩ := follGo_ok hr k (road ++ [x]) x r e (fun y hy => by
            rcases List.mem_append.mp hy with hy | hy
            · exact h1 y hy
            · rw [List.mem_singleton.mp hy]; exact hr.2 _ x c2) (by
            rw [List.nodup_append]
            exact ⟨h2, nodup_one x, fun u hu v hv z => c3 (by rw [List.mem_singleton.mp hv] at z; rw [← z]; exact hu)⟩) (by simp)
          exact ⟨a1, a2, a3, x :: t, by rw [a4]; simp⟩
theorem foll_ok {n : Nat} {row : Row} (hr : RowIn n row) {h : Int} (h0 : 0 ≤ h ∧ h < n) {r : List Int} (e : foll row h = some r) : (∀ x ∈ r, 0 ≤ x ∧ x < (n : Int)) ∧ r.Nodup ∧ r.getLast? = some 0 ∧ r.head? = some h := by
  obtain ⟨a1, a2, a3, t, a4⟩ := follGo_ok hr _ [h] h r e (fun x hx => by rw [List.mem_singleton.mp hx]; exact h0) (nodup_one h) rfl
  exact ⟨a1, a2, a3, by rw [a4]; rfl⟩
theorem foll_next {row : Row} {h : Int} (hne : h ≠ 0) {r : List Int} (e : foll row h = some r) : ∃ x t, row.getD h.toNat none = some x ∧ r = h :: x :: t := by
  unfold foll at e
  rw [follGo, if_neg hne] at e
  cases c2 : row.getD h.toNat none with
  | none => rw [c2] at e; cases e
  | some x =>
    rw [c2] at e
    dsimp only at e
    split at e
    · cases e
    · have gen : ∀ (k : Nat) (road : List Int) (h : Int) (r : List Int), follGo row k road h = some r → ∃ t, r = road ++ t := by
        intro k
        induction k with
        | zero => intro road h r e; cases e
        | succ k ih =>
          intro road h r e
          rw [follGo] at e
          split at e
          · cases e; exact ⟨[], by simp⟩
          · cases c3 : row.getD h.toNat none with
            | none => rw [c3] at e; cases e
            | some y =>
              rw [c3] at e
              dsimp only at e
              split at e
              · cases e
              · obtain ⟨t, ht⟩ := ih _ _ _ e
                exact ⟨y :: t, by rw [ht]; simp⟩
      obtain ⟨t, ht⟩ := gen _ _ _ _ e
      exact ⟨x, t, rfl, by rw [ht]; rfl⟩
theorem foll_zero {row : Row} : foll row 0 = some [0] := by unfold foll; rw [follGo, if_pos rfl]
theorem foll_none {row : Row} {h : Int} (hne : h ≠ 0) (e : row.getD h.toNat none = none) : foll row h = none := by
  unfold foll
  rw [follGo, if_neg hne, e]
def tabOf (n : Nat) (row : Row) : Tab := (intsN n).map (foll row)
theorem tabOf_len (n : Nat) (row : Row) : (tabOf n row).length = n := by unfold tabOf; rw [List.length_map, intsN_len]
theorem tabOf_get {n : Nat} {row : Row} {x : Int} (h : 0 ≤ x ∧ x < n) : (tabOf n row).getD x.toNat none = foll row x := by
  unfold tabOf
  rw [List.getD_eq_getElem?_getD, List.getElem?_map, List.getElem?_eq_getElem (by rw [intsN_len]; omega), intsN_get]
  have : ((x.toNat : Nat) : Int) = x := by omega
  rw [this]; rfl
theorem tabOf_told {s : GS} {row : Row} (hr : RowIn s.n row) : ∀ r, some r ∈ tabOf s.n row → s.told r := fun r hr2 => by
  obtain ⟨x, hx, e⟩ := List.mem_map.mp hr2
  obtain ⟨a1, a2, a3, _⟩ := foll_ok hr (intsN_mem.mp hx) e
  exact ⟨a1, a3, a2⟩
def keptOf (n : Nat) (row : Row) : List Int := (intsN n).filter fun h => (row.getD h.toNat none).isSome && (foll row h).isNone
def GS.goodRow (s : GS) (row : Row) : Bool := (keptOf s.n row).isEmpty && (s.unsettled (tabOf s.n row)).isNone
def GS.tables (s : GS) : List Tab := ((rowsOf s.n s.T (s.n - 1)).filter s.goodRow).map (tabOf s.n)
theorem keptOf_nil {n : Nat} {row : Row} : keptOf n row = [] ↔ ∀ h : Int, 0 ≤ h → h < n → row.getD h.toNat none ≠ none → foll row h ≠ none := by
  unfold keptOf
  rw [List.filter_eq_nil_iff]
  constructor
  · intro h x h0 h1 h2 h3
    refine h x (intsN_mem.mpr ⟨h0, h1⟩) ?_
    rw [h3]
    cases c : row.getD x.toNat none with
    | none => exact absurd c h2
    | some _ => rfl
  · intro h x hx
    obtain ⟨h0, h1⟩ := intsN_mem.mp hx
    intro z
    rw [Bool.and_eq_true] at z
    refine h x h0 h1 (fun w => ?_) (by cases c : foll row x with | none => rfl | some _ => rw [c] at z; exact absurd z.2 (by simp))
    rw [w] at z; exact absurd z.1 (by simp)
theorem unsettled_none {s : GS} {tab : Tab} (h : s.unsettled tab = none) : ∀ x, s.ok x → tab.getD x.toNat none = s.chosen x (s.row tab x) := fun x hx => by
  unfold GS.unsettled GS.unsetFrom at h
  have h1 : (List.range' 0 (s.n - 0)).find? (fun i => !decide (tab.getD i none = s.chosen (i : Nat) (s.row tab (i : Nat)))) = none := by
    cases c : (List.range' 0 (s.n - 0)).find? (fun i => !decide (tab.getD i none = s.chosen (i : Nat) (s.row tab (i : Nat)))) with
    | none => rfl
    | some _ => rw [c] at h; cases h
  have h2 := List.find?_eq_none.mp h1 x.toNat (List.mem_range'_1.mpr ⟨Nat.zero_le _, by have := hx.2; have := hx.1; omega⟩)
  have e : ((x.toNat : Nat) : Int) = x := by have := hx.1; omega
  rw [e] at h2
  simpa using h2
def rowOf (tab : Tab) : Row := tab.zipIdx.map fun p => if p.2 = 0 then none else p.1.bind fun r => r[1]?
theorem rowOf_len (tab : Tab) : (rowOf tab).length = tab.length := by unfold rowOf; rw [List.length_map, List.length_zipIdx]
theorem rowOf_get {tab : Tab} {i : Nat} : (rowOf tab).getD i none = if i = 0 then none else (tab.getD i none).bind fun r => r[1]? := by
  unfold rowOf
  rw [List.getD_eq_getElem?_getD, List.getElem?_map, List.getElem?_zipIdx, List.getD_eq_getElem?_getD]
  cases c : tab[i]? with
  | none => simp
  | some o => simp
theorem Settled.foll {s : GS} {tab : Tab} (h : Settled s tab) : ∀ (r' : List Int) (k : Nat) (pre : List Int) (x : Int), r'.length < k → s.ok x → tab.getD x.toNat none = some (x :: r') → (pre ++ x :: r').Nodup → follGo (rowOf tab) k (pre ++ [x]) x = some (pre ++ x :: r')
  | r', 0, _, _, hk, _, _, _ => absurd hk (Nat.not_lt_zero _)
  | r', k + 1, pre, x, hk, hx, e, hd => by
    rw [follGo]
    by_cases x0 : x = 0
    · rw [if_pos x0]
      have e1 := h.e x hx
      rw [e] at e1
      unfold GS.chosen at e1
      rw [if_pos x0] at e1
      injection e1 with e1
      injection e1 with _ e1
      rw [e1]
    · rw [if_neg x0]
      obtain ⟨b, r2, er, hb, _, hn, e2⟩ := h.next hx x0 e
      injection er with _ er
      subst er
      have hx0 : x.toNat ≠ 0 := by have := hx.1; omega
      rw [rowOf_get, if_neg hx0, e]
      show (if b ∈ pre ++ [x] then none else follGo (rowOf tab) k (pre ++ [x] ++ [b]) b) = _
      have hb2 : b ∉ pre ++ [x] := fun z => by
        rw [show pre ++ x :: b :: r2 = (pre ++ [x]) ++ b :: r2 by simp] at hd
        exact (List.nodup_append.mp hd).2.2 _ z _ List.mem_cons_self rfl
      rw [if_neg hb2]
      have := h.foll r2 k (pre ++ [x]) b (by simp at hk ⊢; omega) hb e2 (by rw [show (pre ++ [x]) ++ b :: r2 = pre ++ x :: b :: r2 by simp]; exact hd)
      rw [this]; simp
theorem Settled.tabOf {s : GS} {tab : Tab} (h : Settled s tab) : DL.tabOf s.n (rowOf tab) = tab := by
  refine List.ext_getElem (by rw [tabOf_len, h.len]) fun i h1 h2 => ?_
  have hi : i < s.n := by rw [tabOf_len] at h1; exact h1
  have okx : s.ok (i : Nat) := ⟨by omega, by omega⟩
  have e1 : (DL.tabOf s.n (rowOf tab)).getD ((i : Nat) : Int).toNat none = DL.foll (rowOf tab) (i : Nat) := tabOf_get okx
  have g1 : (DL.tabOf s.n (rowOf tab))[i] = DL.foll (rowOf tab) (i : Nat) := by
    rw [← e1, Int.toNat_natCast, List.getD_eq_getElem?_getD, List.getElem?_eq_getElem h1]; rfl
  rw [g1]
  have e2 : tab.getD ((i : Nat) : Int).toNat none = tab[i] := by rw [Int.toNat_natCast, List.getD_eq_getElem?_getD, List.getElem?_eq_getElem h2]; rfl
  cases c : tab[i] with
  | none =>
    rw [c] at e2
    by_cases c0 : i = 0
    · subst c0
      have := h.e ((0 : Nat) : Int) okx
      rw [e2] at this
      unfold GS.chosen at this
      rw [if_pos (show ((0 : Nat) : Int) = 0 from rfl)] at this
      cases this
    · refine foll_none (by omega) ?_
      rw [Int.toNat_natCast, rowOf_get, if_neg c0]
      rw [Int.toNat_natCast] at e2
      rw [e2]; rfl
  | some r =>
    rw [c] at e2
    obtain ⟨ht, hh⟩ := h.head okx e2
    match r, hh with
    | x :: r', hh =>
      have hx : x = (i : Nat) := Option.some.inj hh
      subst hx
      have := h.foll r' ((rowOf tab).length + 1) [] (i : Nat) (by have := ht.len; rw [List.length_cons] at this; rw [rowOf_len, h.len]; omega) okx e2 (by simpa using ht.2.2)
      exact this
theorem Settled.row_mem {s : GS} {tab : Tab} (n1 : 1 ≤ s.n) (h : Settled s tab) : rowOf tab ∈ rowsOf s.n s.T (s.n - 1) := by
  refine rowsOf_mem.mpr ⟨by rw [rowOf_len, h.len]; omega, by rw [rowOf_get]; rfl, fun i i1 i2 x hx => ?_⟩
  rw [rowOf_get, if_neg (by omega)] at hx
  cases c : tab.getD i none with
  | none => rw [c] at hx; cases hx
  | some r =>
    have okx : s.ok (i : Nat) := ⟨by omega, by omega⟩
    obtain ⟨b, r', rfl, hb, ht, _, _⟩ := h.next okx (by omega) (r := r) (by rw [Int.toNat_natCast]; exact c)
    rw [c] at hx
    have hb2 : b = x := Option.some.inj hx
    rw [← hb2]
    exact nb_mem.mpr ⟨hb, ht⟩
theorem mem_tables {s : GS} (n1 : 1 ≤ s.n) {tab : Tab} : tab ∈ s.tables ↔ Settled s tab := by
  unfold GS.tables
  rw [List.mem_map]
  constructor
  · rintro ⟨row, hrow, rfl⟩
    obtain ⟨h1, h2⟩ := List.mem_filter.mp hrow
    unfold GS.goodRow at h2
    rw [Bool.and_eq_true] at h2
    have hr := rowsOf_in n1 h1
    refine ⟨tabOf_len _ _, unsettled_none ?_, tabOf_told hr⟩
    cases c : s.unsettled (tabOf s.n row) with
    | none => rfl
    | some _ => rw [c] at h2; exact absurd h2.2 (by simp)
  · intro h
    refine ⟨rowOf tab, List.mem_filter.mpr ⟨h.row_mem n1, ?_⟩, h.tabOf⟩
    unfold GS.goodRow
    rw [h.tabOf, h.uns]
    have : keptOf s.n (rowOf tab) = [] := keptOf_nil.mpr fun x h0 h1 hx => by
      have e := tabOf_get (n := s.n) (row := rowOf tab) ⟨h0, h1⟩
      rw [h.tabOf] at e
      rw [← e]
      intro z
      rw [rowOf_get] at hx
      split at hx
      · exact hx rfl
      · rw [z] at hx; exact hx rfl
    rw [this]; rfl
def nextsOf (tab : Tab) : List Int := tab.tail.map fun o => match o with
  | none => -1
  | some r => r.getD 1 0
theorem rkey_good {n : Nat} {row : Row} (hr : RowIn n row) (h : keptOf n row = []) : nextsOf (tabOf n row) = rkey row := by
  unfold nextsOf rkey
  refine List.ext_getElem (by rw [List.length_map, List.length_map, List.length_tail, List.length_tail, tabOf_len, hr.1]) fun i h1 h2 => ?_
  rw [List.getElem_map, List.getElem_map, List.getElem_tail, List.getElem_tail]
  rw [List.length_map, List.length_tail] at h2
  have hi : i + 1 < n := by have := hr.1; omega
  have e1 : (tabOf n row)[i + 1]'(by rw [tabOf_len]; exact hi) = foll row ((i + 1 : Nat) : Int) := by
    have := tabOf_get (n := n) (row := row) (x := ((i + 1 : Nat) : Int)) ⟨by omega, by omega⟩
    rw [← this, Int.toNat_natCast, List.getD_eq_getElem?_getD, List.getElem?_eq_getElem (by rw [tabOf_len]; exact hi)]; rfl
  have e2 : row.getD (((i + 1 : Nat) : Int)).toNat none = row[i + 1]'(by have := hr.1; omega) := by
    rw [Int.toNat_natCast, List.getD_eq_getElem?_getD, List.getElem?_eq_getElem (by have := hr.1; omega)]; rfl
  rw [e1]
  cases c : row[i + 1]'(by have := hr.1; omega) with
  | none =>
    rw [c] at e2
    rw [foll_none (by omega) e2]; rfl
  | some x =>
    rw [c] at e2
    cases c2 : foll row ((i + 1 : Nat) : Int) with
    | none => exact absurd c2 (keptOf_nil.mp h _ (by omega) (by omega) (by rw [e2]; simp))
    | some r =>
      obtain ⟨y, t, e3, rfl⟩ := foll_next (by omega) c2
      rw [e2] at e3
      cases e3
      rfl
theorem tables_pw {s : GS} (n1 : 1 ≤ s.n) : s.tables.Pairwise fun t t' => nextsOf t < nextsOf t' := by
  unfold GS.tables
  rw [List.pairwise_map]
  refine ((rowsOf_pw s.n s.T (s.n - 1)).filter _).imp_of_mem fun {r r'} hr hr' h => ?_
  have good : ∀ r, r ∈ (rowsOf s.n s.T (s.n - 1)).filter s.goodRow → nextsOf (tabOf s.n r) = rkey r := fun r hr => by
    obtain ⟨h1, h2⟩ := List.mem_filter.mp hr
    unfold GS.goodRow at h2
    rw [Bool.and_eq_true] at h2
    exact rkey_good (rowsOf_in n1 h1) (List.isEmpty_iff.mp h2.1)
  rw [good r hr, good r' hr']
  exact h

end DL
namespace DL
open PySem L2
def t_rows_of_nexts (K : PySem.W.Frag) (a : CA) (W : WD) : TDS :=
  (dSeq (dAsg (dLst false (dCons (dLst false (dCons (dC .non) dNil)) dNil)) (dgN 1))
  (dSeq (dFor2 (dCons (dC (.int 1)) (dCons (dMeth a.Guild "size" (sp_Guild_size a) W (dVar 0) dNil) dNil)) (dgN 2)
    (dSeq (dAsg (dLst true dNil) (dgN 3))
    (dSeq (dFor (dVar 1) (dgN 4)
      (dSeq (dDrop (dLM appendD (dVar 3) (dCons (dOp (addD false) (dVar 4) (dLst false (dCons (dC .non) dNil))) dNil)))
      (dFor (dMeth a.Guild "neighbours" (sp_Guild_neighbours a) W (dVar 0) (dCons (dVar 2) dNil)) (dgN 5)
        (dDrop (dLM appendD (dVar 3) (dCons (dOp (addD false) (dVar 4) (dLst false (dCons (dVar 5) dNil))) dNil))))))
    (dAsg (dVar 3) (dgN 1)))))
  (dRet (dVar 1))))
abbrev N_rows_of_nexts : List Str := ["guild", "rows", "house", "longer", "row", "b"]
theorem eRow_app (row : Row) (o : Option Int) : D.lst (row.map eI ++ [eI o]) = eRow (row ++ [o]) := by unfold eRow; rw [List.map_append]; rfl
def longer (n : Nat) (T : Int → Int → Bool) (k : Nat) (row : Row) : List Row := (none :: (nb n T ((k + 1 : Nat) : Int)).map some).map fun o => row ++ [o]
theorem rowsOf_succ (n : Nat) (T : Int → Int → Bool) (k : Nat) : rowsOf n T (k + 1) = (rowsOf n T k).flatMap (longer n T k) := rfl
def sp_rows_of_nexts (a : CA) : DSp := fun ds S P E => ∃ (A : GA) (s : GS) (m : Nat), ds = [.ref A.g] ∧ GAt a S A s m ∧ s.n ≤ 5 ∧ ∀ (v : D) (S' : Sto), SLe S S' → vm S' v = some ((rowsOf s.n s.T (s.n - 1)).map eRow) → P v S'
theorem len_rows_of_nexts (a : CA) (ds : List D) (S : Sto) (Q : D → Sto → Prop) (E : Addr → Sto → Prop) (h : sp_rows_of_nexts a ds S Q E) : ds.length = ["guild"].length := by
  obtain ⟨_, _, _, rfl, _⟩ := h; rfl
theorem read_rows_of_nexts (K : PySem.W.Frag) (a : CA) (ds : List D) (S : Sto) (Q : D → Sto → Prop) (E : Addr → Sto → Prop) (h : sp_rows_of_nexts a ds S Q E) : t_rows_of_nexts K a (wishOf E) (endsOf Q) (dstart N_rows_of_nexts ds) S := by
  obtain ⟨A, s, m, rfl, g, n5, q⟩ := h
  have hs : sizeLine = 2 ^ 24 := rfl
  have n1 := g.n1
  simp only [t_rows_of_nexts, N_rows_of_nexts, dstart, List.map_cons, List.map_nil, List.length_cons, List.length_nil, List.cons_append, List.nil_append, List.replicate, Nat.add_one_sub_one, Nat.reduceAdd, Nat.reduceSub, Nat.sub_self, Nat.sub_zero]
  rw [dSeq_ap]
  simp only [dIfS, dB, dOp, dVar, dCB, dCons, dNil, dRet, dRetN, dNext, dC, dAsg, dgN, dgT, dgSeq, dDrop, dCont, dAndT, dOrT, dNotT, dAndV, dOrV, dNotV, dIf, dIsN, dNotN, dNeg, dLst, dTup, dNewI, dCall, dMeth, dMake, dRaise, dFrz, dIsi, isiK, tyS, inst_NoneType_bool, inst_NoneType_int, inst_NoneType_str, inst_NoneType_list, inst_NoneType_tuple, inst_bool_bool, inst_bool_int, inst_bool_str, inst_bool_list, inst_bool_tuple, inst_int_bool, inst_int_int, inst_int_str, inst_int_list, inst_int_tuple, inst_str_bool, inst_str_int, inst_str_str, inst_str_list, inst_str_tuple, inst_list_bool, inst_list_int, inst_list_str, inst_list_list, inst_list_tuple, inst_tuple_bool, inst_tuple_int, inst_tuple_str, inst_tuple_list, inst_tuple_tuple, iiD, iiD0, subD, mulD, fdivD, modD, shrD, pow_10_6, pow_10_60, ltI, leI, gtI, geI, addI, addD, catD, scatD, lenD, lenS, ixD, ixL, ixLK, ixK, vl, vm, newL, i2D, absD, tupleD, dLM, dLM0, dFld, getF, dGet1, dGet2, getK, dSetIx, rng1, rng2, dFor1, dFor2, dFor, dForK, eqR, rs, dstart, List.map_cons, List.map_nil, List.length_cons, List.length_nil, List.cons_append, List.nil_append, List.replicate, List.getElem?_cons_zero, List.getElem?_cons_succ, List.set_cons_zero, List.set_cons_succ, Option.isSome_some, Option.isNone_some, Option.isNone_none, Nat.add_one_sub_one, Nat.reduceAdd, Nat.reduceSub, Nat.sub_self, Nat.sub_zero, Bool.not_true, Bool.not_false, ↓reduceIte, Bool.false_eq_true, Bool.true_eq_false, okD_int, okD_bl, okD_non, dEq_int, dEq_bl, Bool.true_xor, Bool.false_xor, Bool.not_eq_true', decide_eq_true_eq, decide_eq_false_iff_not, true_and, Bool.and_true, Bool.and_false, Bool.true_and, Bool.false_and, at_0, at_1, at_2, cast0, cast1, cast2, cast3, not_true_eq_false, not_false_eq_true, eL, Option.map_some, Option.map_none, dSlL, slk, doNone, doSome, sortedTD, dLenSet, lsk]
  refine ⟨by decide, by decide, ?_⟩
  rw [dSeq_ap]
  simp only [dFor2, dCons, dNil, dVar, dC, dMeth, List.getElem?_cons_zero, List.getElem?_cons_succ, g.g, onIns, gf_houses, gf_ties, gf_shy, gf_fond, gf_longings, gfm_see_house, gfm_see_two, gfm_size, gfm_neighbours, gfm_has_way, gfm_lay_way, gfm_lift_way, gfm_like, gfm_liking, gfm_shun, gfm_shunned, gfm_see_road, gfm_wish, gfm_wishes, gfm_rank_of, gp_houses, gp_ties, gp_shy, gp_fond, gp_longings, true_and]
  refine ⟨A, s, m, rfl, g, ?_⟩
  simp only [rng2]
  refine ⟨by omega, ?_⟩
  have hnn : (((s.n : Nat) : Int) - 1).toNat = s.n - 1 := by omega
  rw [hnn]
  have gg : ∀ S', SLe S S' → GAt a S' A s m := fun S' l => g.frame fun b hb => by
    cases c : S b with
    | none => exact absurd hb (guild_gone g c)
    | some v => exact l b v c
  refine dGo_rng (fun k ρ S' => ∃ (v : D) (o2 o3 o4 o5 : Option D), ρ = [some (.ref A.g), some v, o2, o3, o4, o5] ∧ SLe S S' ∧ vm S' v = some ((rowsOf s.n s.T k).map eRow)) ?_ ?_ _ _ ⟨_, _, _, _, _, rfl, SLe.refl S, rfl⟩
  · rintro ρ S' ⟨v, o2, o3, o4, o5, rfl, hS, hv⟩
    simp only [dSeq, dIfS, dB, dOp, dVar, dCB, dCons, dNil, dRet, dRetN, dNext, dC, dAsg, dgN, dgT, dgSeq, dDrop, dCont, dAndT, dOrT, dNotT, dAndV, dOrV, dNotV, dIf, dIsN, dNotN, dNeg, dLst, dTup, dNewI, dCall, dMeth, dMake, dRaise, dFrz, dIsi, isiK, tyS, inst_NoneType_bool, inst_NoneType_int, inst_NoneType_str, inst_NoneType_list, inst_NoneType_tuple, inst_bool_bool, inst_bool_int, inst_bool_str, inst_bool_list, inst_bool_tuple, inst_int_bool, inst_int_int, inst_int_str, inst_int_list, inst_int_tuple, inst_str_bool, inst_str_int, inst_str_str, inst_str_list, inst_str_tuple, inst_list_bool, inst_list_int, inst_list_str, inst_list_list, inst_list_tuple, inst_tuple_bool, inst_tuple_int, inst_tuple_str, inst_tuple_list, inst_tuple_tuple, iiD, iiD0, subD, mulD, fdivD, modD, shrD, pow_10_6, pow_10_60, ltI, leI, gtI, geI, addI, addD, catD, scatD, lenD, lenS, ixD, ixL, ixLK, ixK, vl, vm, newL, i2D, absD, tupleD, dLM, dLM0, dFld, getF, dGet1, dGet2, getK, dSetIx, rng1, rng2, dFor1, dFor2, dFor, dForK, eqR, rs, dstart, List.map_cons, List.map_nil, List.length_cons, List.length_nil, List.cons_append, List.nil_append, List.replicate, List.getElem?_cons_zero, List.getElem?_cons_succ, List.set_cons_zero, List.set_cons_succ, Option.isSome_some, Option.isNone_some, Option.isNone_none, Nat.add_one_sub_one, Nat.reduceAdd, Nat.reduceSub, Nat.sub_self, Nat.sub_zero, Bool.not_true, Bool.not_false, ↓reduceIte, Bool.false_eq_true, Bool.true_eq_false, okD_int, okD_bl, okD_non, dEq_int, dEq_bl, Bool.true_xor, Bool.false_xor, Bool.not_eq_true', decide_eq_true_eq, decide_eq_false_iff_not, true_and, Bool.and_true, Bool.and_false, Bool.true_and, Bool.false_and, at_0, at_1, at_2, cast0, cast1, cast2, cast3, not_true_eq_false, not_false_eq_true, eL, Option.map_some, Option.map_none, dSlL, slk, doNone, doSome, sortedTD, dLenSet, lsk]
    exact rt_of (q v S' hS hv)
  · rintro k ρ S' N hk ⟨v, o2, o3, o4, o5, rfl, hS, hv⟩ hN
    have g1 := gg S' hS
    have okk : s.ok (1 + (k : Nat)) := ⟨by omega, by omega⟩
    have ek : (1 + (k : Nat) : Int) = ((k + 1 : Nat) : Int) := by omega
    simp only [dgN, List.set_cons_zero, List.set_cons_succ]
    rw [dSeq_ap]
    simp only [dIfS, dB, dOp, dVar, dCB, dCons, dNil, dRet, dRetN, dNext, dC, dAsg, dgN, dgT, dgSeq, dDrop, dCont, dAndT, dOrT, dNotT, dAndV, dOrV, dNotV, dIf, dIsN, dNotN, dNeg, dLst, dTup, dNewI, dCall, dMeth, dMake, dRaise, dFrz, dIsi, isiK, tyS, inst_NoneType_bool, inst_NoneType_int, inst_NoneType_str, inst_NoneType_list, inst_NoneType_tuple, inst_bool_bool, inst_bool_int, inst_bool_str, inst_bool_list, inst_bool_tuple, inst_int_bool, inst_int_int, inst_int_str, inst_int_list, inst_int_tuple, inst_str_bool, inst_str_int, inst_str_str, inst_str_list, inst_str_tuple, inst_list_bool, inst_list_int, inst_list_str, inst_list_list, inst_list_tuple, inst_tuple_bool, inst_tuple_int, inst_tuple_str, inst_tuple_list, inst_tuple_tuple, iiD, iiD0, subD, mulD, fdivD, modD, shrD, pow_10_6, pow_10_60, ltI, leI, gtI, geI, addI, addD, catD, scatD, lenD, lenS, ixD, ixL, ixLK, ixK, vl, vm, newL, i2D, absD, tupleD, dLM, dLM0, dFld, getF, dGet1, dGet2, getK, dSetIx, rng1, rng2, dFor1, dFor2, dFor, dForK, dstart, List.map_cons, List.map_nil, List.length_cons, List.length_nil, List.cons_append, List.nil_append, List.replicate, List.getElem?_cons_zero, List.getElem?_cons_succ, List.set_cons_zero, List.set_cons_succ, Option.isSome_some, Option.isNone_some, Option.isNone_none, Nat.add_one_sub_one, Nat.reduceAdd, Nat.reduceSub, Nat.sub_self, Nat.sub_zero, Bool.not_true, Bool.not_false, ↓reduceIte, Bool.false_eq_true, Bool.true_eq_false, okD_int, okD_bl, okD_non, dEq_int, dEq_bl, Bool.true_xor, Bool.false_xor, Bool.not_eq_true', decide_eq_true_eq, decide_eq_false_iff_not, true_and, Bool.and_true, Bool.and_false, Bool.true_and, Bool.false_and, at_0, at_1, at_2, cast0, cast1, cast2, cast3, not_true_eq_false, not_false_eq_true, eL, Option.map_some, Option.map_none, dSlL, slk, doNone, doSome, sortedTD, dLenSet, lsk]
    refine ⟨by decide, fun p hp => ?_⟩
    have h6 : ∀ j, j ≤ s.n - 1 → (rowsOf s.n s.T j).length ≤ 1296 := fun j hj => Nat.le_trans (rowsOf_len n5 j) (Nat.le_trans (Nat.pow_le_pow_right (by decide) (show j ≤ 4 by omega)) (by decide))
    have hlen := h6 (k + 1) (by omega)
    rw [dSeq_ap]
    have hv2 : vm (su S' p (.ml [])) v = some ((rowsOf s.n s.T k).map eRow) := vm_le hv (SLe.su hp)
    refine dFor_at (x := v) (xs := (rowsOf s.n s.T k).map eRow) rfl (vm_vl hv2) ?_
    have hst : ∀ S'' (c : Cl), S'' = su S' p c → vl S'' v = some ((rowsOf s.n s.T k).map eRow) := fun S'' c e => by rw [e]; exact vm_vl (vm_le hv (SLe.su hp))
    refine dGo_map (f := eRow) (fun rest ρ S'' => ∃ done, rowsOf s.n s.T k = done ++ rest ∧ (∃ o4 o5, ρ = [some (.ref A.g), some v, some (.int (1 + (k : Nat))), some (.ref p), o4, o5]) ∧ S'' = su S' p (.ml ((done.flatMap (longer s.n s.T k)).map eRow))) ?_ ?_ _ _ _ ⟨[], rfl, ⟨_, _, rfl⟩, rfl⟩
    · rintro ρ S'' ⟨done, ed, ⟨o4, o5, rfl⟩, rfl⟩
      refine ⟨hst _ _ rfl, ?_⟩
      rw [List.append_nil] at ed
      simp only [dIfS, dB, dOp, dVar, dCB, dCons, dNil, dRet, dRetN, dNext, dC, dAsg, dgN, dgT, dgSeq, dDrop, dCont, dAndT, dOrT, dNotT, dAndV, dOrV, dNotV, dIf, dIsN, dNotN, dNeg, dLst, dTup, dNewI, dCall, dMeth, dMake, dRaise, dFrz, dIsi, isiK, tyS, inst_NoneType_bool, inst_NoneType_int, inst_NoneType_str, inst_NoneType_list, inst_NoneType_tuple, inst_bool_bool, inst_bool_int, inst_bool_str, inst_bool_list, inst_bool_tuple, inst_int_bool, inst_int_int, inst_int_str, inst_int_list, inst_int_tuple, inst_str_bool, inst_str_int, inst_str_str, inst_str_list, inst_str_tuple, inst_list_bool, inst_list_int, inst_list_str, inst_list_list, inst_list_tuple, inst_tuple_bool, inst_tuple_int, inst_tuple_str, inst_tuple_list, inst_tuple_tuple, iiD, iiD0, subD, mulD, fdivD, modD, shrD, pow_10_6, pow_10_60, ltI, leI, gtI, geI, addI, addD, catD, scatD, lenD, lenS, ixD, ixL, ixLK, ixK, vl, vm, newL, i2D, absD, tupleD, dLM, dLM0, dFld, getF, dGet1, dGet2, getK, dSetIx, rng1, rng2, dFor1, dFor2, dFor, dForK, dstart, List.map_cons, List.map_nil, List.length_cons, List.length_nil, List.cons_append, List.nil_append, List.replicate, List.getElem?_cons_zero, List.getElem?_cons_succ, List.set_cons_zero, List.set_cons_succ, Option.isSome_some, Option.isNone_some, Option.isNone_none, Nat.add_one_sub_one, Nat.reduceAdd, Nat.reduceSub, Nat.sub_self, Nat.sub_zero, Bool.not_true, Bool.not_false, ↓reduceIte, Bool.false_eq_true, Bool.true_eq_false, okD_int, okD_bl, okD_non, dEq_int, dEq_bl, Bool.true_xor, Bool.false_xor, Bool.not_eq_true', decide_eq_true_eq, decide_eq_false_iff_not, true_and, Bool.and_true, Bool.and_false, Bool.true_and, Bool.false_and, at_0, at_1, at_2, cast0, cast1, cast2, cast3, not_true_eq_false, not_false_eq_true, eL, Option.map_some, Option.map_none, dSlL, slk, doNone, doSome, sortedTD, dLenSet, lsk]
      refine hN _ _ ⟨.ref p, _, _, _, _, rfl, hS.trans (SLe.su hp), ?_⟩
      simp only [vm, su_same]
      rw [← ed]; rfl
    · rintro row rest ρ S'' N2 ⟨done, ed, ⟨o4, o5, rfl⟩, rfl⟩ hN2
      refine ⟨hst _ _ rfl, ?_⟩
      have hpre : ∀ (l : List (Option Int)) (l2 : List (Option Int)), (none :: (nb s.n s.T ((k + 1 : Nat) : Int)).map some) = l ++ l2 → ((done.flatMap (longer s.n s.T k)) ++ l.map fun o => row ++ [o]).length ≤ 1296 := fun l l2 e => by
        refine Nat.le_trans ?_ hlen
        have e2 : longer s.n s.T k row = (l.map fun o => row ++ [o]) ++ l2.map fun o => row ++ [o] := by unfold longer; rw [e, List.map_append]
        rw [rowsOf_succ, ed, List.flatMap_append, List.flatMap_cons, e2]
        simp only [List.length_append, List.length_map]
        omega
      simp only [dgN, List.set_cons_zero, List.set_cons_succ]
      rw [dSeq_ap]
      have ecat : ∀ o : Option Int, eRow row = .lst (row.map eI) := fun _ => rfl
      have l0 := hpre [none] _ rfl
      rw [List.length_append, List.map_cons, List.map_nil, List.length_singleton] at l0
      have hrow : row.length ≤ 10 := by
        have := (rowsOf_mem.mp (show row ∈ rowsOf s.n s.T k by rw [ed]; simp)).1
        omega
      obtain ⟨T5, hT5⟩ : ∃ T, T = dFor (dMeth a.Guild "neighbours" (sp_Guild_neighbours a) (wishOf E) (dVar 0) (dCons (dVar 2) dNil)) (dgN 5) (dDrop (dLM appendD (dVar 3) (dCons (dOp (addD false) (dVar 4) (dLst false (dCons (dVar 5) dNil))) dNil))) := ⟨_, rfl⟩
      rw [← hT5]
      simp only [dIfS, dB, dOp, dVar, dCB, dCons, dNil, dRet, dRetN, dNext, dC, dAsg, dgN, dgT, dgSeq, dDrop, dCont, dAndT, dOrT, dNotT, dAndV, dOrV, dNotV, dIf, dIsN, dNotN, dNeg, dLst, dTup, dNewI, dCall, dMeth, dMake, dRaise, dFrz, dIsi, isiK, tyS, inst_NoneType_bool, inst_NoneType_int, inst_NoneType_str, inst_NoneType_list, inst_NoneType_tuple, inst_bool_bool, inst_bool_int, inst_bool_str, inst_bool_list, inst_bool_tuple, inst_int_bool, inst_int_int, inst_int_str, inst_int_list, inst_int_tuple, inst_str_bool, inst_str_int, inst_str_str, inst_str_list, inst_str_tuple, inst_list_bool, inst_list_int, inst_list_str, inst_list_list, inst_list_tuple, inst_tuple_bool, inst_tuple_int, inst_tuple_str, inst_tuple_list, inst_tuple_tuple, iiD, iiD0, subD, mulD, fdivD, modD, shrD, pow_10_6, pow_10_60, ltI, leI, gtI, geI, addI, addD, catD, scatD, lenD, lenS, ixD, ixL, ixLK, ixK, vl, vm, newL, i2D, absD, tupleD, dLM, dLM0, dFld, getF, dGet1, dGet2, getK, dSetIx, rng1, rng2, dFor1, dFor2, dFor, dForK, dstart, List.map_cons, List.map_nil, List.length_cons, List.length_nil, List.cons_append, List.nil_append, List.replicate, List.getElem?_cons_zero, List.getElem?_cons_succ, List.set_cons_zero, List.set_cons_succ, Option.isSome_some, Option.isNone_some, Option.isNone_none, Nat.add_one_sub_one, Nat.reduceAdd, Nat.reduceSub, Nat.sub_self, Nat.sub_zero, Bool.not_true, Bool.not_false, ↓reduceIte, Bool.false_eq_true, Bool.true_eq_false, okD_int, okD_bl, okD_non, dEq_int, dEq_bl, Bool.true_xor, Bool.false_xor, Bool.not_eq_true', decide_eq_true_eq, decide_eq_false_iff_not, true_and, Bool.and_true, Bool.and_false, Bool.true_and, Bool.false_and, at_0, at_1, at_2, cast0, cast1, cast2, cast3, not_true_eq_false, not_false_eq_true, eL, Option.map_some, Option.map_none, dSlL, slk, doNone, doSome, sortedTD, dLenSet, lsk, eRow, su_same]
      refine ⟨by decide, by rw [List.length_map]; omega, ?_⟩
      refine append_at su_same (by rw [List.length_map]; omega) ?_
      rw [su_su, show [D.non] = [eI none] from rfl, eRow_app]
      rw [hT5]
      unfold dFor
      simp only [dMeth, dCons, dNil, dVar, List.getElem?_cons_zero, List.getElem?_cons_succ]
      have g2 : ∀ c, GAt a (su S' p c) A s m := fun c => g1.su hp
      simp only [(g2 _).g, onIns, gf_houses, gf_ties, gf_shy, gf_fond, gf_longings, gfm_see_house, gfm_see_two, gfm_size, gfm_neighbours, gfm_has_way, gfm_lay_way, gfm_lift_way, gfm_like, gfm_liking, gfm_shun, gfm_shunned, gfm_see_road, gfm_wish, gfm_wishes, gfm_rank_of, gp_houses, gp_ties, gp_shy, gp_fond, gp_longings, true_and]
      refine x_Guild_neighbours (g2 _) okk ?_
      simp only [vl, vm, dForK]
      rw [ek]
      refine dGo_map (f := D.int) (fun rest2 ρ S'' => ∃ dn, nb s.n s.T ((k + 1 : Nat) : Int) = dn ++ rest2 ∧ (∃ o5, ρ = [some (.ref A.g), some v, some (.int ((k + 1 : Nat) : Int)), some (.ref p), some (eRow row), o5]) ∧ S'' = su S' p (.ml (((done.flatMap (longer s.n s.T k)) ++ (none :: dn.map some).map fun o => row ++ [o]).map eRow))) ?_ ?_ _ _ _ ⟨[], rfl, ⟨_, rfl⟩, ?_⟩
      · rintro ρ S'' ⟨dn, en, ⟨o5, rfl⟩, rfl⟩
        refine ⟨trivial, ?_⟩
        rw [List.append_nil] at en
        refine hN2 _ _ ⟨done ++ [row], by rw [ed]; simp, ⟨_, _, by rw [ek]⟩, ?_⟩
        congr 2
        rw [List.flatMap_append]
        simp only [List.flatMap_cons, List.flatMap_nil, List.append_nil, longer]
        rw [en]
      · rintro y rest2 ρ S'' N3 ⟨dn, en, ⟨o5, rfl⟩, rfl⟩ hN3
        refine ⟨trivial, ?_⟩
        have l1 := hpre (none :: dn.map some ++ [some y]) (rest2.map some) (by rw [en]; simp)
        rw [List.length_append, List.length_map, List.length_append, List.length_singleton, List.length_cons, List.length_map] at l1
        simp only [dgN, List.set_cons_zero, List.set_cons_succ]
        simp only [dIfS, dB, dOp, dVar, dCB, dCons, dNil, dRet, dRetN, dNext, dC, dAsg, dgN, dgT, dgSeq, dDrop, dCont, dAndT, dOrT, dNotT, dAndV, dOrV, dNotV, dIf, dIsN, dNotN, dNeg, dLst, dTup, dNewI, dCall, dMeth, dMake, dRaise, dFrz, dIsi, isiK, tyS, inst_NoneType_bool, inst_NoneType_int, inst_NoneType_str, inst_NoneType_list, inst_NoneType_tuple, inst_bool_bool, inst_bool_int, inst_bool_str, inst_bool_list, inst_bool_tuple, inst_int_bool, inst_int_int, inst_int_str, inst_int_list, inst_int_tuple, inst_str_bool, inst_str_int, inst_str_str, inst_str_list, inst_str_tuple, inst_list_bool, inst_list_int, inst_list_str, inst_list_list, inst_list_tuple, inst_tuple_bool, inst_tuple_int, inst_tuple_str, inst_tuple_list, inst_tuple_tuple, iiD, iiD0, subD, mulD, fdivD, modD, shrD, pow_10_6, pow_10_60, ltI, leI, gtI, geI, addI, addD, catD, scatD, lenD, lenS, ixD, ixL, ixLK, ixK, vl, vm, newL, i2D, absD, tupleD, dLM, dLM0, dFld, getF, dGet1, dGet2, getK, dSetIx, rng1, rng2, dFor1, dFor2, dFor, dForK, dstart, List.map_cons, List.map_nil, List.length_cons, List.length_nil, List.cons_append, List.nil_append, List.replicate, List.getElem?_cons_zero, List.getElem?_cons_succ, List.set_cons_zero, List.set_cons_succ, Option.isSome_some, Option.isNone_some, Option.isNone_none, Nat.add_one_sub_one, Nat.reduceAdd, Nat.reduceSub, Nat.sub_self, Nat.sub_zero, Bool.not_true, Bool.not_false, ↓reduceIte, Bool.false_eq_true, Bool.true_eq_false, okD_int, okD_bl, okD_non, dEq_int, dEq_bl, Bool.true_xor, Bool.false_xor, Bool.not_eq_true', decide_eq_true_eq, decide_eq_false_iff_not, true_and, Bool.and_true, Bool.and_false, Bool.true_and, Bool.false_and, at_0, at_1, at_2, cast0, cast1, cast2, cast3, not_true_eq_false, not_false_eq_true, eL, Option.map_some, Option.map_none, dSlL, slk, doNone, doSome, sortedTD, dLenSet, lsk, eRow, su_same]
        refine ⟨by decide, by rw [List.length_map]; omega, ?_⟩
        refine append_at su_same (by simp only [List.length_map, List.length_append, List.length_cons]; omega) ?_
        rw [su_su, show [D.int y] = [eI (some y)] from rfl, eRow_app]
        refine hN3 _ _ ⟨dn ++ [y], by rw [en]; simp, ⟨_, rfl⟩, ?_⟩
        congr 2
        simp [eRow]
      · congr 2
        simp [eRow]
theorem x_rows_of_nexts {a : CA} {A : GA} {s : GS} {m : Nat} {S : Sto} {P : D → Sto → Prop} {E : Addr → Sto → Prop} (g : GAt a S A s m) (n5 : s.n ≤ 5) (q : ∀ (v : D) (S' : Sto), SLe S S' → vm S' v = some ((rowsOf s.n s.T (s.n - 1)).map eRow) → P v S') : sp_rows_of_nexts a [.ref A.g] S P E := ⟨A, s, m, rfl, g, n5, q⟩

end DL
namespace DL
open PySem L2
theorem dWh_nat {c : TDT} {tb : TDS} {E : DEnds} (I : Nat → Env' → Sto → Prop)
    (hs : ∀ k ρ S (N : Env' → Sto → Prop), I k ρ S → (∀ k' ρ' S', k' < k → I k' ρ' S' → N ρ' S') → c ρ S fun b S1 => if b = true then tb { nx := N, ct := N, bk := E.nx, rt := E.rt } ρ S1 else E.nx ρ S1) (k : Nat) (ρ : Env') (S : Sto) (h : I k ρ S) : ∃ n, dWh c tb E n ρ S := by
  have main : ∀ (n k : Nat) (ρ : Env') (S : Sto), k < n → I k ρ S → dWh c tb E n ρ S := by
    intro n
    induction n with
    | zero => intro k ρ S h; omega
    | succ n ih => intro k ρ S hl h; exact hs k ρ S _ h fun k' ρ' S' l h' => ih k' ρ' S' (by omega) h'
  exact ⟨k + 1, main (k + 1) k ρ S (Nat.lt_succ_self k) h⟩
structure Near (n : Nat) (T : Int → Int → Bool) (f : Int → Option Int) : Prop where
  z : f 0 = some 0
  p : ∀ x v : Int, 0 ≤ x → x < n → f x = some v → (x = 0 ∧ v = 0) ∨ (1 ≤ v ∧ x ≠ 0 ∧ ∃ y, (0 ≤ y ∧ y < (n : Int)) ∧ T x y = true ∧ f y = some (v - 1))
  e : ∀ x y : Int, 0 ≤ x → x < n → 0 ≤ y → y < n → T x y = true → ∀ v, f x = some v → ∃ w, f y = some w ∧ w ≤ v + 1
abbrev Bs := (Int → Option Int) × List Int
def bfsB (d : Int) (st : Bs) (b : Int) : Bs := if st.1 b = none then (fun x => if x = b then some (d + 1) else st.1 x, st.2 ++ [b]) else st
def bfsL (d : Int) (l : List Int) (st : Bs) : Bs := l.foldl (bfsB d) st
theorem bfsL_fst (d : Int) : ∀ (l : List Int) (st : Bs) (x : Int), (bfsL d l st).1 x = if st.1 x = none ∧ x ∈ l then some (d + 1) else st.1 x
  | [], st, x => by simp [bfsL]
  | b :: l, st, x => by
    have h : bfsL d (b :: l) st = bfsL d l (bfsB d st b) := rfl
    rw [h, bfsL_fst d l]
    unfold bfsB
    by_cases c : st.1 b = none
    · rw [if_pos c]
      dsimp only
      by_cases e : x = b
      · subst e; simp [c]
      · simp [e]
    · rw [if_neg c]
      by_cases e : x = b
      · subst e; simp [c]
      · simp [e]
theorem bfsL_snd (d : Int) : ∀ (l : List Int) (st : Bs) (x : Int), x ∈ (bfsL d l st).2 ↔ x ∈ st.2 ∨ (st.1 x = none ∧ x ∈ l)
  | [], st, x => by simp [bfsL]
  | b :: l, st, x => by
    have h : bfsL d (b :: l) st = bfsL d l (bfsB d st b) := rfl
    rw [h, bfsL_snd d l]
    unfold bfsB
    by_cases c : st.1 b = none
    · rw [if_pos c]
      dsimp only
      by_cases e : x = b
      · subst e; simp [c]
      · simp [e]
    · rw [if_neg c]
      by_cases e : x = b
      · subst e; simp [c]
      · simp [e]
theorem bfsL_nd (d : Int) : ∀ (l : List Int) (st : Bs), st.2.Nodup → (∀ x ∈ st.2, st.1 x ≠ none) → (bfsL d l st).2.Nodup
  | [], st, h, _ => h
  | b :: l, st, h, h2 => by
    have e : bfsL d (b :: l) st = bfsL d l (bfsB d st b) := rfl
    rw [e]
    unfold bfsB
    by_cases c : st.1 b = none
    · rw [if_pos c]
      refine bfsL_nd d l _ ?_ fun x hx => ?_
      · dsimp only
        rw [List.nodup_append]
        exact ⟨h, nodup_one b, fun x hx y hy z => by rw [List.mem_singleton.mp hy] at z; rw [z] at hx; exact h2 b hx c⟩
      · dsimp only at hx ⊢
        by_cases e : x = b
        · rw [if_pos e]; simp
        · rw [if_neg e]
          rcases List.mem_append.mp hx with hx | hx
          · exact h2 x hx
          · exact absurd (List.mem_singleton.mp hx) e
    · rw [if_neg c]; exact bfsL_nd d l st h h2
def bfsE (n : Nat) (T : Int → Int → Bool) (E : List Int) : List Int := E.flatMap fun a => nb n T a
theorem bfsE_mem {n : Nat} {T : Int → Int → Bool} {E : List Int} {x : Int} : x ∈ bfsE n T E ↔ ∃ a ∈ E, (0 ≤ x ∧ x < (n : Int)) ∧ T a x = true := by
  unfold bfsE
  rw [List.mem_flatMap]
  constructor
  · rintro ⟨a, ha, h⟩; exact ⟨a, ha, nb_mem.mp h⟩
  · rintro ⟨a, ha, h⟩; exact ⟨a, ha, nb_mem.mpr h⟩
structure Lvl (n : Nat) (T : Int → Int → Bool) (f : Int → Option Int) (d : Int) (E : List Int) : Prop where
  z : f 0 = some 0
  d0 : 0 ≤ d
  p : ∀ x v : Int, 0 ≤ x → x < n → f x = some v → (x = 0 ∧ v = 0) ∨ (1 ≤ v ∧ x ≠ 0 ∧ ∃ y, (0 ≤ y ∧ y < (n : Int)) ∧ T x y = true ∧ f y = some (v - 1))
  le : ∀ x v, f x = some v → v ≤ d
  e : ∀ x y : Int, 0 ≤ x → x < n → 0 ≤ y → y < n → T x y = true → ∀ v, f x = some v → v < d → ∃ w, f y = some w ∧ w ≤ v + 1
  eE : ∀ x, x ∈ E ↔ (0 ≤ x ∧ x < (n : Int)) ∧ f x = some d
  nd : E.Nodup
theorem Lvl.start {n : Nat} {T : Int → Int → Bool} (n1 : 1 ≤ n) : Lvl n T (fun x => if x = 0 then some 0 else none) 0 [0] := by
  refine ⟨rfl, Int.le_refl _, fun x v _ _ h => ?_, fun x v h => ?_, fun x y _ _ _ _ _ v h hv => ?_, fun x => ?_, nodup_one 0⟩
  · split at h
    · rename_i c; cases h; exact .inl ⟨c, rfl⟩
    · cases h
  · split at h
    · cases h; exact Int.le_refl _
    · cases h
  · split at h
    · cases h; omega
    · cases h
  · rw [List.mem_singleton]
    constructor
    · rintro rfl; exact ⟨⟨Int.le_refl _, by omega⟩, rfl⟩
    · rintro ⟨_, h⟩
      split at h
      · assumption
      · cases h
theorem Lvl.near {n : Nat} {T : Int → Int → Bool} {f : Int → Option Int} {d : Int} (h : Lvl n T f d []) : Near n T f := by
  refine ⟨h.z, h.p, fun x y h0 h1 h2 h3 t v e => h.e x y h0 h1 h2 h3 t v e ?_⟩
  have := h.le x v e
  have ne : v ≠ d := fun z => by
    rw [z] at e
    exact absurd ((h.eE x).mpr ⟨⟨h0, h1⟩, e⟩) List.not_mem_nil
  omega
theorem Lvl.step {n : Nat} {T : Int → Int → Bool} {f : Int → Option Int} {d : Int} {E : List Int} (sy : ∀ x y, T x y = T y x) (h : Lvl n T f d E) : Lvl n T (bfsL d (bfsE n T E) (f, [])).1 (d + 1) (bfsL d (bfsE n T E) (f, [])).2 := by
  have e1 : ∀ x, (bfsL d (bfsE n T E) (f, [])).1 x = if f x = none ∧ x ∈ bfsE n T E then some (d + 1) else f x := bfsL_fst d _ (f, [])
  have keep : ∀ x v, f x = some v → (bfsL d (bfsE n T E) (f, [])).1 x = some v := fun x v hv => by
    rw [e1, if_neg fun z => by rw [z.1] at hv; cases hv]; exact hv
  have new : ∀ x v, (bfsL d (bfsE n T E) (f, [])).1 x = some v → f x = some v ∨ (f x = none ∧ v = d + 1 ∧ x ∈ bfsE n T E) := fun x v hv => by
    rw [e1] at hv
    split at hv
    · rename_i c; cases hv; exact .inr ⟨c.1, rfl, c.2⟩
    · exact .inl hv
  have d0 := h.d0
  refine ⟨keep _ _ h.z, by omega, fun x v h0 h1 hv => ?_, fun x v hv => ?_, fun x y h0 h1 h2 h3 t v hv hd => ?_, fun x => ?_, bfsL_nd d _ _ List.nodup_nil fun _ z => by cases z⟩
  · rcases new x v hv with hv | ⟨hn, rfl, hm⟩
    · rcases h.p x v h0 h1 hv with z | ⟨z1, z2, y, hy, t, e⟩
      · exact .inl z
      · exact .inr ⟨z1, z2, y, hy, t, keep _ _ e⟩
    · obtain ⟨a, ha, _, t⟩ := bfsE_mem.mp hm
      have ha2 := (h.eE a).mp ha
      refine .inr ⟨by omega, (fun z => by rw [z, h.z] at hn; cases hn), a, ha2.1, by rw [sy]; exact t, ?_⟩
      rw [show d + 1 - 1 = d by omega]
      exact keep _ _ ha2.2
  · rcases new x v hv with hv | ⟨_, rfl, _⟩
    · have := h.le x v hv; omega
    · omega
  · rcases new x v hv with hv' | ⟨_, rfl, _⟩
    · by_cases c : v < d
      · obtain ⟨w, hw, hl⟩ := h.e x y h0 h1 h2 h3 t v hv' c
        exact ⟨w, keep _ _ hw, hl⟩
      · have : v = d := by have := h.le x v hv'; omega
        subst this
        have hx : x ∈ E := (h.eE x).mpr ⟨⟨h0, h1⟩, hv'⟩
        have hy : y ∈ bfsE n T E := bfsE_mem.mpr ⟨x, hx, ⟨h2, h3⟩, t⟩
        cases c2 : f y with
        | none => exact ⟨v + 1, by rw [e1, if_pos ⟨c2, hy⟩], Int.le_refl _⟩
        | some w => exact ⟨w, keep _ _ c2, by have := h.le y w c2; omega⟩
    · omega
  · rw [bfsL_snd]
    constructor
    · rintro (z | ⟨z1, z2⟩)
      · cases z
      · obtain ⟨a, _, hx, _⟩ := bfsE_mem.mp z2
        exact ⟨hx, by rw [e1, if_pos ⟨z1, z2⟩]⟩
    · rintro ⟨hx, hv⟩
      rcases new x _ hv with hv | ⟨hn, _, hm⟩
      · have := h.le x _ hv; omega
      · exact .inr ⟨hn, hm⟩
def nones (n : Nat) (f : Int → Option Int) : Nat := ((intsN n).filter fun x => (f x).isNone).length
theorem filter_len_le {α : Type} {p q : α → Bool} : ∀ (l : List α), (∀ x ∈ l, p x = true → q x = true) → (l.filter p).length ≤ (l.filter q).length
  | [], _ => Nat.le_refl _
  | x :: l, h => by
    have ih := filter_len_le l fun y hy => h y (List.mem_cons_of_mem _ hy)
    have hx := h x List.mem_cons_self
    rw [List.filter_cons, List.filter_cons]
    cases c : p x with
    | true => rw [hx c]; simp; exact ih
    | false => cases q x <;> simp <;> omega
theorem filter_len_lt {α : Type} {p q : α → Bool} : ∀ (l : List α), (∀ x ∈ l, p x = true → q x = true) → (∃ x ∈ l, p x = false ∧ q x = true) → (l.filter p).length < (l.filter q).length
  | [], _, ⟨_, h, _⟩ => by cases h
  | x :: l, h, ⟨y, hy, k⟩ => by
    have ih0 := filter_len_le l fun y hy => h y (List.mem_cons_of_mem _ hy)
    have hx := h x List.mem_cons_self
    rw [List.filter_cons, List.filter_cons]
    rcases List.mem_cons.mp hy with rfl | hy
    · rw [k.1, k.2]; simp; omega
    · have ih := filter_len_lt l (fun y hy => h y (List.mem_cons_of_mem _ hy)) ⟨y, hy, k⟩
      cases c : p x with
      | true => rw [hx c]; simp; exact ih
      | false => cases q x <;> simp <;> omega
theorem nones_le {n : Nat} {f g : Int → Option Int} (h : ∀ x, f x ≠ none → g x ≠ none) : nones n g ≤ nones n f := by
  refine filter_len_le _ fun x _ hx => ?_
  cases c : f x with
  | none => rfl
  | some v => have := h x (by rw [c]; simp); cases c2 : g x with
    | none => exact absurd c2 this
    | some w => rw [c2] at hx; cases hx
theorem nones_lt {n : Nat} {f g : Int → Option Int} (h : ∀ x, f x ≠ none → g x ≠ none) {y : Int} (hy : 0 ≤ y ∧ y < (n : Int)) (h1 : f y = none) (h2 : g y ≠ none) : nones n g < nones n f := by
  refine filter_len_lt _ (fun x _ hx => ?_) ⟨y, intsN_mem.mpr hy, ?_, by rw [h1]; rfl⟩
  · cases c : f x with
    | none => rfl
    | some v => have := h x (by rw [c]; simp); cases c2 : g x with
      | none => exact absurd c2 this
      | some w => rw [c2] at hx; cases hx
  · cases c : g y with
    | none => exact absurd c h2
    | some v => rfl
def eS (n : Nat) (f : Int → Option Int) : List D := (intsN n).map fun x => eO D.int (f x)
theorem eS_len (n : Nat) (f : Int → Option Int) : (eS n f).length = n := by unfold eS; rw [List.length_map, intsN_len]
theorem eS_at {n : Nat} {f : Int → Option Int} {x : Int} (h0 : 0 ≤ x) (h1 : x < n) : atI (eS n f) x = some (eO D.int (f x)) := by
  unfold eS
  rw [atI_tab (fun x => eO D.int (f x)) (intsN n) h0 (by rw [intsN_len]; exact h1), intsN_get]
  congr 3
  omega
theorem eS_get {n : Nat} {f : Int → Option Int} {i : Nat} (h : i < (eS n f).length) : (eS n f)[i] = eO D.int (f (i : Nat)) := by simp only [eS, List.getElem_map, intsN_get]
theorem eS_set {n : Nat} {f : Int → Option Int} {x v : Int} (h0 : 0 ≤ x) (h1 : x < n) : (eS n f).set x.toNat (.int v) = eS n fun y => if y = x then some v else f y := by
  refine List.ext_getElem (by rw [List.length_set, eS_len, eS_len]) fun i h h' => ?_
  rw [List.getElem_set, eS_get]
  split
  · rename_i c
    rw [eS_get, if_pos (by omega)]; rfl
  · rename_i c
    rw [eS_get, if_neg (by omega)]

end DL
namespace DL
open PySem L2
def t_followed (K : PySem.W.Frag) (a : CA) (W : WD) : TDS :=
  (dSeq (dAsg (dLst true (dCons (dVar 1) dNil)) (dgN 2))
  (dSeq (dWhile (dB (dOp (eqR true) (dVar 1) (dC (.int 0))))
    (dSeq (dAsg (dOp ixD (dVar 0) (dVar 1)) (dgN 1))
    (dSeq (dIfS (dOrT (dB (dIsN (dVar 1))) (dB (dOp (inR false) (dVar 1) (dVar 2))))
      (dRet (dC .non))
      dNext)
    (dDrop (dLM appendD (dVar 2) (dCons (dVar 1) dNil))))))
  (dRet (dFrz (dVar 2)))))
abbrev N_followed : List Str := ["nexts", "house", "road"]
def sp_followed (a : CA) : DSp := fun ds S P E => ∃ (x : D) (row : Row) (n : Nat) (h : Int), ds = [x, .int h] ∧ vm S x = some (row.map eI) ∧ RowIn n row ∧ n ≤ 1000 ∧ 0 ≤ h ∧ h < n ∧ P (eO eR (foll row h)) S
theorem len_followed (a : CA) (ds : List D) (S : Sto) (Q : D → Sto → Prop) (E : Addr → Sto → Prop) (h : sp_followed a ds S Q E) : ds.length = ["nexts", "house"].length := by
  obtain ⟨_, _, _, _, rfl, _⟩ := h; rfl
theorem read_followed (K : PySem.W.Frag) (a : CA) (ds : List D) (S : Sto) (Q : D → Sto → Prop) (E : Addr → Sto → Prop) (h : sp_followed a ds S Q E) : t_followed K a (wishOf E) (endsOf Q) (dstart N_followed ds) S := by
  obtain ⟨x, row, n, h, rfl, hx, hr, hn, h0, h1, q⟩ := h
  have hs : sizeLine = 2 ^ 24 := rfl
  simp only [t_followed, N_followed, dstart, List.map_cons, List.map_nil, List.length_cons, List.length_nil, List.cons_append, List.nil_append, List.replicate, Nat.add_one_sub_one, Nat.reduceAdd, Nat.reduceSub, Nat.sub_self, Nat.sub_zero]
  rw [dSeq_ap]
  simp only [dIfS, dB, dOp, dVar, dCB, dCons, dNil, dRet, dRetN, dNext, dC, dAsg, dgN, dgT, dgSeq, dDrop, dCont, dAndT, dOrT, dNotT, dAndV, dOrV, dNotV, dIf, dIsN, dNotN, dNeg, dLst, dTup, dNewI, dCall, dMeth, dMake, dRaise, dFrz, dIsi, isiK, tyS, inst_NoneType_bool, inst_NoneType_int, inst_NoneType_str, inst_NoneType_list, inst_NoneType_tuple, inst_bool_bool, inst_bool_int, inst_bool_str, inst_bool_list, inst_bool_tuple, inst_int_bool, inst_int_int, inst_int_str, inst_int_list, inst_int_tuple, inst_str_bool, inst_str_int, inst_str_str, inst_str_list, inst_str_tuple, inst_list_bool, inst_list_int, inst_list_str, inst_list_list, inst_list_tuple, inst_tuple_bool, inst_tuple_int, inst_tuple_str, inst_tuple_list, inst_tuple_tuple, iiD, iiD0, subD, mulD, fdivD, modD, shrD, pow_10_6, pow_10_60, ltI, leI, gtI, geI, addI, addD, catD, scatD, lenD, lenS, ixD, ixL, ixLK, ixK, vl, vm, newL, i2D, absD, tupleD, dLM, dLM0, dFld, getF, dGet1, dGet2, getK, dSetIx, rng1, rng2, dFor1, dFor2, dFor, dForK, dstart, List.map_cons, List.map_nil, List.length_cons, List.length_nil, List.cons_append, List.nil_append, List.replicate, List.getElem?_cons_zero, List.getElem?_cons_succ, List.set_cons_zero, List.set_cons_succ, Option.isSome_some, Option.isNone_some, Option.isNone_none, Nat.add_one_sub_one, Nat.reduceAdd, Nat.reduceSub, Nat.sub_self, Nat.sub_zero, Bool.not_true, Bool.not_false, ↓reduceIte, Bool.false_eq_true, Bool.true_eq_false, okD_int, okD_bl, okD_non, dEq_int, dEq_bl, Bool.true_xor, Bool.false_xor, Bool.not_eq_true', decide_eq_true_eq, decide_eq_false_iff_not, true_and, Bool.and_true, Bool.and_false, Bool.true_and, Bool.false_and, at_0, at_1, at_2, cast0, cast1, cast2, cast3, not_true_eq_false, not_false_eq_true, eL, Option.map_some, Option.map_none, dSlL, slk, doNone, doSome, sortedTD, dLenSet, lsk]
  refine ⟨by decide, fun p hp => ?_⟩
  have hl := hr.1
  rw [dSeq_ap]
  simp only [dWhile]
  refine dWh_nat (fun k ρ S' => ∃ (j : Nat) (road : List Int) (c : Int), ρ = [some x, some (.int c), some (.ref p)] ∧ S' = su S p (.ml (road.map .int)) ∧ follGo row j road c = foll row h ∧ j + road.length = n + 2 ∧ road.Nodup ∧ (∀ g ∈ road, 0 ≤ g ∧ g < (n : Int)) ∧ 0 ≤ c ∧ c < n ∧ k = j) ?_ _ _ _ ⟨n + 1, [h], h, rfl, rfl, by unfold foll; rw [hl], rfl, nodup_one h, (fun g hg => by rw [List.mem_singleton.mp hg]; exact ⟨h0, h1⟩), h0, h1, rfl⟩
  rintro k ρ S' N ⟨j, road, c, rfl, rfl, hw, hk, hd, hrd, c0, c1, rfl⟩ hN
  have hg := nodup_le _ _ hd hrd
  obtain ⟨j, rfl⟩ : ∃ i, k = i + 1 := ⟨k - 1, by omega⟩
  rw [follGo] at hw
  have hx2 : vm (su S p (.ml (road.map .int))) x = some (row.map eI) := vm_le hx (SLe.su hp)
  have at1 : atI (row.map eI) c = some (eI (row.getD c.toNat none)) := by
    rw [atI_tab eI row c0 (by omega), List.getD_eq_getElem?_getD, List.getElem?_eq_getElem (by omega)]; rfl
  simp only [dB, dOp, dVar, dC, eqR, rs, vm, okD_int, dEq_int, List.getElem?_cons_zero, List.getElem?_cons_succ, true_and, Bool.true_xor]
  by_cases cz : c = 0
  · rw [if_pos cz] at hw
    rw [← hw] at q
    simp only [cz, decide_true, Bool.not_true, Bool.false_eq_true, ↓reduceIte]
    simp only [dIfS, dB, dOp, dVar, dCB, dCons, dNil, dRet, dRetN, dNext, dC, dAsg, dgN, dgT, dgSeq, dDrop, dCont, dAndT, dOrT, dNotT, dAndV, dOrV, dNotV, dIf, dIsN, dNotN, dNeg, dLst, dTup, dNewI, dCall, dMeth, dMake, dRaise, dFrz, dIsi, isiK, tyS, inst_NoneType_bool, inst_NoneType_int, inst_NoneType_str, inst_NoneType_list, inst_NoneType_tuple, inst_bool_bool, inst_bool_int, inst_bool_str, inst_bool_list, inst_bool_tuple, inst_int_bool, inst_int_int, inst_int_str, inst_int_list, inst_int_tuple, inst_str_bool, inst_str_int, inst_str_str, inst_str_list, inst_str_tuple, inst_list_bool, inst_list_int, inst_list_str, inst_list_list, inst_list_tuple, inst_tuple_bool, inst_tuple_int, inst_tuple_str, inst_tuple_list, inst_tuple_tuple, iiD, iiD0, subD, mulD, fdivD, modD, shrD, pow_10_6, pow_10_60, ltI, leI, gtI, geI, addI, addD, catD, scatD, lenD, lenS, ixD, ixL, ixLK, ixK, vl, vm, newL, i2D, absD, tupleD, dLM, dLM0, dFld, getF, dGet1, dGet2, getK, dSetIx, rng1, rng2, dFor1, dFor2, dFor, dForK, dstart, List.map_cons, List.map_nil, List.length_cons, List.length_nil, List.cons_append, List.nil_append, List.replicate, List.getElem?_cons_zero, List.getElem?_cons_succ, List.set_cons_zero, List.set_cons_succ, Option.isSome_some, Option.isNone_some, Option.isNone_none, Nat.add_one_sub_one, Nat.reduceAdd, Nat.reduceSub, Nat.sub_self, Nat.sub_zero, Bool.not_true, Bool.not_false, ↓reduceIte, Bool.false_eq_true, Bool.true_eq_false, okD_int, okD_bl, okD_non, dEq_int, dEq_bl, Bool.true_xor, Bool.false_xor, Bool.not_eq_true', decide_eq_true_eq, decide_eq_false_iff_not, true_and, Bool.and_true, Bool.and_false, Bool.true_and, Bool.false_and, at_0, at_1, at_2, cast0, cast1, cast2, cast3, not_true_eq_false, not_false_eq_true, eL, Option.map_some, Option.map_none, dSlL, slk, doNone, doSome, sortedTD, dLenSet, lsk, su_same]
    rw [sd_su hp]
    exact rt_of q
  · rw [if_neg cz] at hw
    simp only [cz, decide_false, Bool.not_false, ↓reduceIte]
    rw [dSeq_ap]
    simp only [dAsg, dgN, dOp, dVar, List.getElem?_cons_zero, List.getElem?_cons_succ, List.set_cons_zero, List.set_cons_succ]
    rw [ixD_vm hx2]
    simp only [ixL, at1]
    rw [dSeq_ap]
    cases e : row.getD c.toNat none with
    | none =>
      rw [e] at hw
      dsimp only at hw
      rw [← hw] at q
      simp only [dIfS, dB, dOp, dVar, dCB, dCons, dNil, dRet, dRetN, dNext, dC, dAsg, dgN, dgT, dgSeq, dDrop, dCont, dAndT, dOrT, dNotT, dAndV, dOrV, dNotV, dIf, dIsN, dNotN, dNeg, dLst, dTup, dNewI, dCall, dMeth, dMake, dRaise, dFrz, dIsi, isiK, tyS, inst_NoneType_bool, inst_NoneType_int, inst_NoneType_str, inst_NoneType_list, inst_NoneType_tuple, inst_bool_bool, inst_bool_int, inst_bool_str, inst_bool_list, inst_bool_tuple, inst_int_bool, inst_int_int, inst_int_str, inst_int_list, inst_int_tuple, inst_str_bool, inst_str_int, inst_str_str, inst_str_list, inst_str_tuple, inst_list_bool, inst_list_int, inst_list_str, inst_list_list, inst_list_tuple, inst_tuple_bool, inst_tuple_int, inst_tuple_str, inst_tuple_list, inst_tuple_tuple, iiD, iiD0, subD, mulD, fdivD, modD, shrD, pow_10_6, pow_10_60, ltI, leI, gtI, geI, addI, addD, catD, scatD, lenD, lenS, ixD, ixL, ixLK, ixK, vl, vm, newL, i2D, absD, tupleD, dLM, dLM0, dFld, getF, dGet1, dGet2, getK, dSetIx, rng1, rng2, dFor1, dFor2, dFor, dForK, dstart, List.map_cons, List.map_nil, List.length_cons, List.length_nil, List.cons_append, List.nil_append, List.replicate, List.getElem?_cons_zero, List.getElem?_cons_succ, List.set_cons_zero, List.set_cons_succ, Option.isSome_some, Option.isNone_some, Option.isNone_none, Nat.add_one_sub_one, Nat.reduceAdd, Nat.reduceSub, Nat.sub_self, Nat.sub_zero, Bool.not_true, Bool.not_false, ↓reduceIte, Bool.false_eq_true, Bool.true_eq_false, okD_int, okD_bl, okD_non, dEq_int, dEq_bl, Bool.true_xor, Bool.false_xor, Bool.not_eq_true', decide_eq_true_eq, decide_eq_false_iff_not, true_and, Bool.and_true, Bool.and_false, Bool.true_and, Bool.false_and, at_0, at_1, at_2, cast0, cast1, cast2, cast3, not_true_eq_false, not_false_eq_true, eL, Option.map_some, Option.map_none, dSlL, slk, doNone, doSome, sortedTD, dLenSet, lsk, eI, eO]
      exact rt_le (SLe.su hp) q
    | some y =>
      rw [e] at hw
      dsimp only at hw
      have hy := hr.2 _ _ e
      simp only [dIfS, dB, dOp, dVar, dCB, dCons, dNil, dRet, dRetN, dNext, dC, dAsg, dgN, dgT, dgSeq, dDrop, dCont, dAndT, dOrT, dNotT, dAndV, dOrV, dNotV, dIf, dIsN, dNotN, dNeg, dLst, dTup, dNewI, dCall, dMeth, dMake, dRaise, dFrz, dIsi, isiK, tyS, inst_NoneType_bool, inst_NoneType_int, inst_NoneType_str, inst_NoneType_list, inst_NoneType_tuple, inst_bool_bool, inst_bool_int, inst_bool_str, inst_bool_list, inst_bool_tuple, inst_int_bool, inst_int_int, inst_int_str, inst_int_list, inst_int_tuple, inst_str_bool, inst_str_int, inst_str_str, inst_str_list, inst_str_tuple, inst_list_bool, inst_list_int, inst_list_str, inst_list_list, inst_list_tuple, inst_tuple_bool, inst_tuple_int, inst_tuple_str, inst_tuple_list, inst_tuple_tuple, iiD, iiD0, subD, mulD, fdivD, modD, shrD, pow_10_6, pow_10_60, ltI, leI, gtI, geI, addI, addD, catD, scatD, lenD, lenS, ixD, ixL, ixLK, ixK, vl, vm, newL, i2D, absD, tupleD, dLM, dLM0, dFld, getF, dGet1, dGet2, getK, dSetIx, rng1, rng2, dFor1, dFor2, dFor, dForK, dstart, List.map_cons, List.map_nil, List.length_cons, List.length_nil, List.cons_append, List.nil_append, List.replicate, List.getElem?_cons_zero, List.getElem?_cons_succ, List.set_cons_zero, List.set_cons_succ, Option.isSome_some, Option.isNone_some, Option.isNone_none, Nat.add_one_sub_one, Nat.reduceAdd, Nat.reduceSub, Nat.sub_self, Nat.sub_zero, Bool.not_true, Bool.not_false, ↓reduceIte, Bool.false_eq_true, Bool.true_eq_false, okD_int, okD_bl, okD_non, dEq_int, dEq_bl, Bool.true_xor, Bool.false_xor, Bool.not_eq_true', decide_eq_true_eq, decide_eq_false_iff_not, true_and, Bool.and_true, Bool.and_false, Bool.true_and, Bool.false_and, at_0, at_1, at_2, cast0, cast1, cast2, cast3, not_true_eq_false, not_false_eq_true, eL, Option.map_some, Option.map_none, dSlL, slk, doNone, doSome, sortedTD, dLenSet, lsk, eI, eO, inR, inL, rs, vm, su_same, any_int, okD_int, true_and, Bool.false_xor]
      refine ⟨okD_R _, ?_⟩
      by_cases c3 : y ∈ road
      · rw [if_pos c3] at hw
        rw [← hw] at q
        simp only [c3, decide_true, ↓reduceIte]
        exact rt_le (SLe.su hp) q
      · rw [if_neg c3] at hw
        simp only [c3, decide_false, Bool.false_eq_true, ↓reduceIte]
        try simp only [dIfS, dB, dOp, dVar, dCB, dCons, dNil, dRet, dRetN, dNext, dC, dAsg, dgN, dgT, dgSeq, dDrop, dCont, dAndT, dOrT, dNotT, dAndV, dOrV, dNotV, dIf, dIsN, dNotN, dNeg, dLst, dTup, dNewI, dCall, dMeth, dMake, dRaise, dFrz, dIsi, isiK, tyS, inst_NoneType_bool, inst_NoneType_int, inst_NoneType_str, inst_NoneType_list, inst_NoneType_tuple, inst_bool_bool, inst_bool_int, inst_bool_str, inst_bool_list, inst_bool_tuple, inst_int_bool, inst_int_int, inst_int_str, inst_int_list, inst_int_tuple, inst_str_bool, inst_str_int, inst_str_str, inst_str_list, inst_str_tuple, inst_list_bool, inst_list_int, inst_list_str, inst_list_list, inst_list_tuple, inst_tuple_bool, inst_tuple_int, inst_tuple_str, inst_tuple_list, inst_tuple_tuple, iiD, iiD0, subD, mulD, fdivD, modD, shrD, pow_10_6, pow_10_60, ltI, leI, gtI, geI, addI, addD, catD, scatD, lenD, lenS, ixD, ixL, ixLK, ixK, vl, vm, newL, i2D, absD, tupleD, dLM, dLM0, dFld, getF, dGet1, dGet2, getK, dSetIx, rng1, rng2, dFor1, dFor2, dFor, dForK, dstart, List.map_cons, List.map_nil, List.length_cons, List.length_nil, List.cons_append, List.nil_append, List.replicate, List.getElem?_cons_zero, List.getElem?_cons_succ, List.set_cons_zero, List.set_cons_succ, Option.isSome_some, Option.isNone_some, Option.isNone_none, Nat.add_one_sub_one, Nat.reduceAdd, Nat.reduceSub, Nat.sub_self, Nat.sub_zero, Bool.not_true, Bool.not_false, ↓reduceIte, Bool.false_eq_true, Bool.true_eq_false, okD_int, okD_bl, okD_non, dEq_int, dEq_bl, Bool.true_xor, Bool.false_xor, Bool.not_eq_true', decide_eq_true_eq, decide_eq_false_iff_not, true_and, Bool.and_true, Bool.and_false, Bool.true_and, Bool.false_and, at_0, at_1, at_2, cast0, cast1, cast2, cast3, not_true_eq_false, not_false_eq_true, eL, Option.map_some, Option.map_none, dSlL, slk, doNone, doSome, sortedTD, dLenSet, lsk, su_same]
        refine append_at su_same (by rw [List.length_map]; omega) ?_
        rw [su_su, show road.map D.int ++ [.int y] = (road ++ [y]).map .int by rw [List.map_append]; rfl]
        refine hN j _ _ (by omega) ⟨j, road ++ [y], y, rfl, rfl, hw, by rw [List.length_append, List.length_singleton]; omega, ?_, fun g hg => ?_, hy.1, hy.2, rfl⟩
        · rw [List.nodup_append]
          exact ⟨hd, nodup_one y, fun u hu v hv z => c3 (by rw [List.mem_singleton.mp hv] at z; rw [← z]; exact hu)⟩
        · rcases List.mem_append.mp hg with hg | hg
          · exact hrd g hg
          · rw [List.mem_singleton.mp hg]; exact hy
theorem x_followed {a : CA} {x : D} {row : Row} {n : Nat} {h : Int} {S : Sto} {P : D → Sto → Prop} {E : Addr → Sto → Prop} (hx : vm S x = some (row.map eI)) (hr : RowIn n row) (hn : n ≤ 1000) (h0 : 0 ≤ h) (h1 : h < n) (q : P (eO eR (foll row h)) S) : sp_followed a [x, .int h] S P E := ⟨x, row, n, h, rfl, hx, hr, hn, h0, h1, q⟩

end DL
namespace DL
open PySem L2
def MRow (S S' : Sto) (b : Nat) (x : D) : Prop := x = .non ∨ ∃ (c : Addr) (r : List D), x = .ref c ∧ S' c = some (.ml r) ∧ S c = none ∧ r.length ≤ b
theorem MRow.le {S S' S'' : Sto} {b : Nat} {x : D} (h : MRow S S' b x) (l : SLe S' S'') : MRow S S'' b x := by
  rcases h with h | ⟨c, r, e, h1, h2, h3⟩
  · exact .inl h
  · exact .inr ⟨c, r, e, l _ _ h1, h2, h3⟩
theorem MRow.put {S S' : Sto} {b : Nat} {x : D} {c0 : Addr} {r1 : List D} (h : MRow S S' b x) (l : r1.length ≤ b + 1) : MRow S (su S' c0 (.ml r1)) (b + 1) x := by
  rcases h with h | ⟨c, r, e, h1, h2, h3⟩
  · exact .inl h
  · by_cases c2 : c = c0
    · subst c2; exact .inr ⟨c, r1, e, su_same, h2, l⟩
    · exact .inr ⟨c, r, e, by rw [su_ne c2]; exact h1, h2, by omega⟩
theorem MRow.more {S S' : Sto} {b b' : Nat} {x : D} (h : MRow S S' b x) (l : b ≤ b') : MRow S S' b' x := by
  rcases h with h | ⟨c, r, e, h1, h2, h3⟩
  · exact .inl h
  · exact .inr ⟨c, r, e, h1, h2, by omega⟩
theorem SLe.put' {S0 S : Sto} {p : Addr} {c : Cl} (h : SLe S0 S) (hp : S0 p = Option.none) : SLe S0 (DL.su S p c) := fun b v hb => by
  rw [su_ne fun z => by rw [z, hp] at hb; cases hb]; exact h b v hb
theorem SLe.none' {S0 S : Sto} {p : Addr} (h : SLe S0 S) (hp : S p = Option.none) : S0 p = Option.none := by
  cases c : S0 p with
  | none => rfl
  | some v => rw [h p v c] at hp; cases hp

end DL
namespace DL
open PySem L2
def t_settled_tables (K : PySem.W.Frag) (a : CA) (W : WD) : TDS :=
  (dSeq (dIfS (dB (dOp gtI (dMeth a.Guild "size" (sp_Guild_size a) W (dVar 0) dNil) (dC (.int 5))))
    (dRaise a.TooMany W)
    dNext)
  (dSeq (dAsg (dLst true dNil) (dgN 1))
  (dSeq (dFor (dCall (sp_rows_of_nexts a) W (dCons (dVar 0) dNil)) (dgN 2)
    (dSeq (dAsg (dLc false (diR1 (dCons (dMeth a.Guild "size" (sp_Guild_size a) W (dVar 0) dNil) dNil)) (dgN 4) dYes (dCall (sp_followed a) W0 (dCons (dVar 2) (dCons (dVar 4) dNil))) [4]) (dgN 3))
    (dSeq (dAsg (dLc false (diR1 (dCons (dMeth a.Guild "size" (sp_Guild_size a) W (dVar 0) dNil) dNil)) (dgN 4) (dAndT (dB (dNotN (dOp ixD (dVar 2) (dVar 4)))) (dB (dIsN (dOp ixD (dVar 3) (dVar 4))))) (dVar 4) [4]) (dgN 5))
    (dIfS (dAndT (dB (dOp (eqR false) (dCB lenD (dCons (dVar 5) dNil)) (dC (.int 0)))) (dB (dIsN (dCall (sp_first_unsettled a) W (dCons (dVar 0) (dCons (dVar 3) dNil))))))
      (dDrop (dLM appendD (dVar 1) (dCons (dVar 3) dNil)))
      dNext))))
  (dRet (dFrz (dVar 1))))))
abbrev N_settled_tables : List Str := ["guild", "found", "nexts", "table", "house", "kept"]
def eTab (tab : Tab) : D := .lst (tab.map (eO eR))
def sp_settled_tables (a : CA) : DSp := fun ds S P E => ∃ (A : GA) (s : GS) (m : Nat), ds = [.ref A.g] ∧ GAt a S A s m ∧ (5 < s.n → E a.TooMany S) ∧ (s.n ≤ 5 → ∀ S', SLe S S' → P (.lst (s.tables.map eTab)) S')
theorem len_settled_tables (a : CA) (ds : List D) (S : Sto) (Q : D → Sto → Prop) (E : Addr → Sto → Prop) (h : sp_settled_tables a ds S Q E) : ds.length = ["guild"].length := by
  obtain ⟨_, _, _, rfl, _⟩ := h; rfl
theorem read_settled_tables (K : PySem.W.Frag) (a : CA) (ds : List D) (S : Sto) (Q : D → Sto → Prop) (E : Addr → Sto → Prop) (h : sp_settled_tables a ds S Q E) : t_settled_tables K a (wishOf E) (endsOf Q) (dstart N_settled_tables ds) S := by
  obtain ⟨A, s, m, rfl, g, qE, q⟩ := h
  have hs : sizeLine = 2 ^ 24 := rfl
  have n1 := g.n1
  simp only [t_settled_tables, N_settled_tables, dstart, List.map_cons, List.map_nil, List.length_cons, List.length_nil, List.cons_append, List.nil_append, List.replicate, Nat.add_one_sub_one, Nat.reduceAdd, Nat.reduceSub, Nat.sub_self, Nat.sub_zero]
  rw [dSeq_ap]
  simp only [dIfS, dB, dOp, dVar, dCB, dCons, dNil, dRet, dRetN, dNext, dC, dAsg, dgN, dgT, dgSeq, dDrop, dCont, dAndT, dOrT, dNotT, dAndV, dOrV, dNotV, dIf, dIsN, dNotN, dNeg, dLst, dTup, dNewI, dCall, dMeth, dMake, dRaise, dFrz, dIsi, isiK, tyS, inst_NoneType_bool, inst_NoneType_int, inst_NoneType_str, inst_NoneType_list, inst_NoneType_tuple, inst_bool_bool, inst_bool_int, inst_bool_str, inst_bool_list, inst_bool_tuple, inst_int_bool, inst_int_int, inst_int_str, inst_int_list, inst_int_tuple, inst_str_bool, inst_str_int, inst_str_str, inst_str_list, inst_str_tuple, inst_list_bool, inst_list_int, inst_list_str, inst_list_list, inst_list_tuple, inst_tuple_bool, inst_tuple_int, inst_tuple_str, inst_tuple_list, inst_tuple_tuple, iiD, iiD0, subD, mulD, fdivD, modD, shrD, pow_10_6, pow_10_60, ltI, leI, gtI, geI, addI, addD, catD, scatD, lenD, lenS, ixD, ixL, ixLK, ixK, vl, vm, newL, i2D, absD, tupleD, dLM, dLM0, dFld, getF, dGet1, dGet2, getK, dSetIx, rng1, rng2, dFor1, dFor2, dFor, dForK, dstart, List.map_cons, List.map_nil, List.length_cons, List.length_nil, List.cons_append, List.nil_append, List.replicate, List.getElem?_cons_zero, List.getElem?_cons_succ, List.set_cons_zero, List.set_cons_succ, Option.isSome_some, Option.isNone_some, Option.isNone_none, Nat.add_one_sub_one, Nat.reduceAdd, Nat.reduceSub, Nat.sub_self, Nat.sub_zero, Bool.not_true, Bool.not_false, ↓reduceIte, Bool.false_eq_true, Bool.true_eq_false, okD_int, okD_bl, okD_non, dEq_int, dEq_bl, Bool.true_xor, Bool.false_xor, Bool.not_eq_true', decide_eq_true_eq, decide_eq_false_iff_not, true_and, Bool.and_true, Bool.and_false, Bool.true_and, Bool.false_and, at_0, at_1, at_2, cast0, cast1, cast2, cast3, not_true_eq_false, not_false_eq_true, eL, Option.map_some, Option.map_none, dSlL, slk, doNone, doSome, sortedTD, dLenSet, lsk, g.g, onIns, gf_houses, gf_ties, gf_shy, gf_fond, gf_longings, gfm_see_house, gfm_see_two, gfm_size, gfm_neighbours, gfm_has_way, gfm_lay_way, gfm_lift_way, gfm_like, gfm_liking, gfm_shun, gfm_shunned, gfm_see_road, gfm_wish, gfm_wishes, gfm_rank_of, gp_houses, gp_ties, gp_shy, gp_fond, gp_longings, true_and]
  refine ⟨A, s, m, rfl, g, ?_⟩
  (try dsimp only)
  by_cases c5 : 5 < (s.n : Int)
  · rw [if_pos c5]
    exact wish_of (qE (by omega))
  rw [if_neg c5]
  have n5 : s.n ≤ 5 := by omega
  rw [dSeq_ap]
  simp only [dIfS, dB, dOp, dVar, dCB, dCons, dNil, dRet, dRetN, dNext, dC, dAsg, dgN, dgT, dgSeq, dDrop, dCont, dAndT, dOrT, dNotT, dAndV, dOrV, dNotV, dIf, dIsN, dNotN, dNeg, dLst, dTup, dNewI, dCall, dMeth, dMake, dRaise, dFrz, dIsi, isiK, tyS, inst_NoneType_bool, inst_NoneType_int, inst_NoneType_str, inst_NoneType_list, inst_NoneType_tuple, inst_bool_bool, inst_bool_int, inst_bool_str, inst_bool_list, inst_bool_tuple, inst_int_bool, inst_int_int, inst_int_str, inst_int_list, inst_int_tuple, inst_str_bool, inst_str_int, inst_str_str, inst_str_list, inst_str_tuple, inst_list_bool, inst_list_int, inst_list_str, inst_list_list, inst_list_tuple, inst_tuple_bool, inst_tuple_int, inst_tuple_str, inst_tuple_list, inst_tuple_tuple, iiD, iiD0, subD, mulD, fdivD, modD, shrD, pow_10_6, pow_10_60, ltI, leI, gtI, geI, addI, addD, catD, scatD, lenD, lenS, ixD, ixL, ixLK, ixK, vl, vm, newL, i2D, absD, tupleD, dLM, dLM0, dFld, getF, dGet1, dGet2, getK, dSetIx, rng1, rng2, dFor1, dFor2, dFor, dForK, dstart, List.map_cons, List.map_nil, List.length_cons, List.length_nil, List.cons_append, List.nil_append, List.replicate, List.getElem?_cons_zero, List.getElem?_cons_succ, List.set_cons_zero, List.set_cons_succ, Option.isSome_some, Option.isNone_some, Option.isNone_none, Nat.add_one_sub_one, Nat.reduceAdd, Nat.reduceSub, Nat.sub_self, Nat.sub_zero, Bool.not_true, Bool.not_false, ↓reduceIte, Bool.false_eq_true, Bool.true_eq_false, okD_int, okD_bl, okD_non, dEq_int, dEq_bl, Bool.true_xor, Bool.false_xor, Bool.not_eq_true', decide_eq_true_eq, decide_eq_false_iff_not, true_and, Bool.and_true, Bool.and_false, Bool.true_and, Bool.false_and, at_0, at_1, at_2, cast0, cast1, cast2, cast3, not_true_eq_false, not_false_eq_true, eL, Option.map_some, Option.map_none, dSlL, slk, doNone, doSome, sortedTD, dLenSet, lsk]
  refine ⟨by decide, fun p hp => ?_⟩
  rw [dSeq_ap]
  unfold dFor
  simp only [dCall, dCons, dNil, dVar, List.getElem?_cons_zero, List.getElem?_cons_succ]
  refine x_rows_of_nexts (g.su hp) n5 fun v S1 l1 hv => ?_
  rw [vm_vl hv]
  simp only [dForK]
  have hp1 : S1 p = some (.ml []) := l1 _ _ su_same
  have lS : SLe S S1 := (SLe.su hp).trans l1
  have vp : v ≠ .ref p := fun z => by
    rw [z] at hv
    simp only [vm, hp1] at hv
    have h1 : rowsOf s.n s.T (s.n - 1) = [] := by simpa using hv.symm
    have h2 : ∀ k, rowsOf s.n s.T k ≠ [] := by
      intro k
      induction k with
      | zero => simp [rowsOf]
      | succ k ih =>
        intro z
        obtain ⟨r, l, e⟩ := List.exists_cons_of_ne_nil ih
        rw [rowsOf_succ, e, List.flatMap_cons] at z
        have := congrArg List.length z
        simp [longer] at this
    exact h2 _ h1
  have hvS : ∀ c, vm (su S1 p c) v = some ((rowsOf s.n s.T (s.n - 1)).map eRow) := fun c => by
    rcases vm_cases hv with e | ⟨b, e, h⟩
    · rw [e]; rfl
    · rw [e]
      have nb : b ≠ p := fun z => vp (by rw [e, z])
      simp only [vm, su_ne nb, h]
  have gg : ∀ S', SLe S S' → GAt a S' A s m := fun S' l => g.frame fun b hb => by
    cases c : S b with
    | none => exact absurd hb (guild_gone g c)
    | some w => exact l b w c
  have hnn : ((s.n : Nat) : Int).toNat = s.n := by omega
  have e0 : ((List.range s.n).map fun i : Nat => D.int (0 + (i : Nat))) = (intsN s.n).map D.int := by
    unfold intsN; rw [List.map_map]; refine List.map_congr_left fun i _ => ?_; simp
  have hrows : (rowsOf s.n s.T (s.n - 1)).length ≤ 1296 := Nat.le_trans (rowsOf_len n5 _) (Nat.le_trans (Nat.pow_le_pow_right (by decide) (show s.n - 1 ≤ 4 by omega)) (by decide))
  refine dGo_map (f := eRow) (fun rest ρ S' => ∃ done, rowsOf s.n s.T (s.n - 1) = done ++ rest ∧ (∃ o2 o3 o4 o5, ρ = [some (.ref A.g), some (.ref p), o2, o3, o4, o5]) ∧ S' = su S1 p (.ml (((done.filter s.goodRow).map (tabOf s.n)).map eTab))) ?_ ?_ _ _ _ ⟨[], rfl, ⟨_, _, _, _, rfl⟩, by rw [List.filter_nil, List.map_nil, List.map_nil, su_self hp1]⟩
  · rintro ρ S' ⟨done, ed, ⟨o2, o3, o4, o5, rfl⟩, rfl⟩
    refine ⟨vm_vl (hvS _), ?_⟩
    rw [List.append_nil] at ed
    simp only [dIfS, dB, dOp, dVar, dCB, dCons, dNil, dRet, dRetN, dNext, dC, dAsg, dgN, dgT, dgSeq, dDrop, dCont, dAndT, dOrT, dNotT, dAndV, dOrV, dNotV, dIf, dIsN, dNotN, dNeg, dLst, dTup, dNewI, dCall, dMeth, dMake, dRaise, dFrz, dIsi, isiK, tyS, inst_NoneType_bool, inst_NoneType_int, inst_NoneType_str, inst_NoneType_list, inst_NoneType_tuple, inst_bool_bool, inst_bool_int, inst_bool_str, inst_bool_list, inst_bool_tuple, inst_int_bool, inst_int_int, inst_int_str, inst_int_list, inst_int_tuple, inst_str_bool, inst_str_int, inst_str_str, inst_str_list, inst_str_tuple, inst_list_bool, inst_list_int, inst_list_str, inst_list_list, inst_list_tuple, inst_tuple_bool, inst_tuple_int, inst_tuple_str, inst_tuple_list, inst_tuple_tuple, iiD, iiD0, subD, mulD, fdivD, modD, shrD, pow_10_6, pow_10_60, ltI, leI, gtI, geI, addI, addD, catD, scatD, lenD, lenS, ixD, ixL, ixLK, ixK, vl, vm, newL, i2D, absD, tupleD, dLM, dLM0, dFld, getF, dGet1, dGet2, getK, dSetIx, rng1, rng2, dFor1, dFor2, dFor, dForK, dstart, List.map_cons, List.map_nil, List.length_cons, List.length_nil, List.cons_append, List.nil_append, List.replicate, List.getElem?_cons_zero, List.getElem?_cons_succ, List.set_cons_zero, List.set_cons_succ, Option.isSome_some, Option.isNone_some, Option.isNone_none, Nat.add_one_sub_one, Nat.reduceAdd, Nat.reduceSub, Nat.sub_self, Nat.sub_zero, Bool.not_true, Bool.not_false, ↓reduceIte, Bool.false_eq_true, Bool.true_eq_false, okD_int, okD_bl, okD_non, dEq_int, dEq_bl, Bool.true_xor, Bool.false_xor, Bool.not_eq_true', decide_eq_true_eq, decide_eq_false_iff_not, true_and, Bool.and_true, Bool.and_false, Bool.true_and, Bool.false_and, at_0, at_1, at_2, cast0, cast1, cast2, cast3, not_true_eq_false, not_false_eq_true, eL, Option.map_some, Option.map_none, dSlL, slk, doNone, doSome, sortedTD, dLenSet, lsk, su_same]
    refine rt_of ?_
    rw [← ed]
    refine q n5 _ fun b w hb => ?_
    have nb : b ≠ p := fun z => by rw [z, hp] at hb; cases hb
    rw [sd_ne nb, su_ne nb]; exact lS b w hb
  · rintro row rest ρ S' N ⟨done, ed, ⟨o2, o3, o4, o5, rfl⟩, rfl⟩ hN
    refine ⟨vm_vl (hvS _), ?_⟩
    have hmem : row ∈ rowsOf s.n s.T (s.n - 1) := by rw [ed]; simp
    have hin := rowsOf_in n1 hmem
    have hdone : (done.filter s.goodRow).length ≤ 1296 := by
      have := List.length_filter_le s.goodRow done
      rw [ed, List.length_append] at hrows
      omega
    have hN' := fun (ts : List Row) (o3 o4 o5 : Option D) (e : ts = (done ++ [row]).filter s.goodRow) => hN [some (.ref A.g), some (.ref p), some (eRow row), o3, o4, o5] (su S1 p (.ml ((ts.map (tabOf s.n)).map eTab))) ⟨done ++ [row], by rw [ed]; simp, ⟨_, _, _, _, rfl⟩, by rw [e]⟩
    have lP : SLe S (su S1 p (.ml (((done.filter s.goodRow).map (tabOf s.n)).map eTab))) := lS.put' hp
    have hpp : su S1 p (.ml (((done.filter s.goodRow).map (tabOf s.n)).map eTab)) p = some (.ml (((done.filter s.goodRow).map (tabOf s.n)).map eTab)) := su_same
    have back : ∀ ts : List D, su (su S1 p (.ml (((done.filter s.goodRow).map (tabOf s.n)).map eTab))) p (.ml ts) = su S1 p (.ml ts) := fun ts => su_su
    generalize hS2 : su S1 p (.ml (((done.filter s.goodRow).map (tabOf s.n)).map eTab)) = S2 at lP hpp back
    have g2 := gg S2 lP
    simp only [dgN, List.set_cons_zero, List.set_cons_succ]
    rw [dSeq_ap]
    simp only [dAsg, dLc, diR1, dMeth, dCons, dNil, dVar, rng1, List.getElem?_cons_zero, List.getElem?_cons_succ, g2.g, onIns, gf_houses, gf_ties, gf_shy, gf_fond, gf_longings, gfm_see_house, gfm_see_two, gfm_size, gfm_neighbours, gfm_has_way, gfm_lay_way, gfm_lift_way, gfm_like, gfm_liking, gfm_shun, gfm_shunned, gfm_see_road, gfm_wish, gfm_wishes, gfm_rank_of, gp_houses, gp_ties, gp_shy, gp_fond, gp_longings, true_and]
    refine ⟨A, s, m, rfl, g2, ?_⟩
    refine ⟨by omega, ?_⟩
    rw [hnn]
    unfold intsD
    rw [e0]
    refine lc_all (m := false) (P := _) D.int (fun y => eO eR (foll row y)) (by rw [intsN_len]; omega) (fun _ _ => trivial) (fun y hy S' Y hS h2 => ?_) ?_
    · have hy1 := intsN_mem.mp hy
      simp only [dgN, wipeD, dCall, dCons, dNil, dVar, List.set_cons_zero, List.set_cons_succ, List.getElem?_cons_zero, List.getElem?_cons_succ]
      exact x_followed rfl hin (by omega) hy1.1 hy1.2 h2
    have etab : (intsN s.n).map (fun y => eO eR (foll row y)) = (tabOf s.n row).map (eO eR) := by unfold tabOf; rw [List.map_map]; rfl
    simp only [newL, dgN, List.set_cons_zero, List.set_cons_succ]
    rw [etab]
    rw [dSeq_ap]
    simp only [dAsg, dLc, diR1, dMeth, dCons, dNil, dVar, rng1, List.getElem?_cons_zero, List.getElem?_cons_succ, g2.g, onIns, gf_houses, gf_ties, gf_shy, gf_fond, gf_longings, gfm_see_house, gfm_see_two, gfm_size, gfm_neighbours, gfm_has_way, gfm_lay_way, gfm_lift_way, gfm_like, gfm_liking, gfm_shun, gfm_shunned, gfm_see_road, gfm_wish, gfm_wishes, gfm_rank_of, gp_houses, gp_ties, gp_shy, gp_fond, gp_longings, true_and]
    refine ⟨A, s, m, rfl, g2, ?_⟩
    refine ⟨by omega, ?_⟩
    rw [hnn]
    unfold intsD
    rw [e0]
    refine lc_map (m := false) (P := _) D.int (fun y => (row.getD y.toNat none).isSome && (foll row y).isNone) D.int (by rw [intsN_len]; omega) (fun _ _ => trivial) (fun y hy S' N' Y hS hn hy2 => ?_) ?_
    · have hy1 := intsN_mem.mp hy
      have at1 : atI (row.map eI) y = some (eI (row.getD y.toNat none)) := by
        rw [atI_tab eI row hy1.1 (by rw [hin.1]; exact hy1.2), List.getD_eq_getElem?_getD, List.getElem?_eq_getElem (by have := hin.1; omega)]; rfl
      have at2 : atI ((tabOf s.n row).map (eO eR)) y = some (eO eR (foll row y)) := by
        rw [tab_at hy1.1 (by rw [tabOf_len]; exact hy1.2), tabOf_get hy1]
      simp only [dgN, wipeD, dAndT, dB, dNotN, dIsN, dOp, dVar, ixD, ixLK, vl, vm, eRow, ixL, at1, at2, List.set_cons_zero, List.set_cons_succ, List.getElem?_cons_zero, List.getElem?_cons_succ]
      cases c1 : row.getD y.toNat none with
      | none =>
        rw [c1] at hn
        simp only [eI, eO, Bool.false_eq_true, ↓reduceIte]
        exact hn rfl
      | some w =>
        rw [c1] at hn hy2
        cases c2 : foll row y with
        | none =>
          rw [c2] at hy2
          simp only [eI, eO, ↓reduceIte]
          exact hy2 rfl
        | some r =>
          rw [c2] at hn
          simp only [eI, eO, eL, Bool.false_eq_true, ↓reduceIte]
          exact hn rfl
    simp only [newL, dgN, List.set_cons_zero, List.set_cons_succ]
    rw [show (intsN s.n).filter (fun y => (row.getD y.toNat none).isSome && (foll row y).isNone) = keptOf s.n row from rfl]
    simp only [dIfS, dAndT, dB, dOp, dCB, dCons, dNil, dVar, dC, lenD, lenS, eqR, rs, vm, okD_int, dEq_int, List.getElem?_cons_zero, List.getElem?_cons_succ, true_and, Bool.false_xor, List.length_map]
    have skip : s.goodRow row = false → N [some (.ref A.g), some (.ref p), some (eRow row), some (.lst ((tabOf s.n row).map (eO eR))), o4, some (.lst ((keptOf s.n row).map .int))] S2 := fun e => by
      have := hN' (done.filter s.goodRow) (some (.lst ((tabOf s.n row).map (eO eR)))) o4 (some (.lst ((keptOf s.n row).map .int))) (by rw [List.filter_append, List.filter_cons_of_neg (by rw [e]; decide), List.filter_nil, List.append_nil])
      rw [hS2] at this
      exact this
    by_cases ck : keptOf s.n row = []
    · rw [ck] at skip ⊢
      simp only [List.length_nil, cast0, decide_true, ↓reduceIte, dIsN, dCall, dCons, dNil, dVar, List.getElem?_cons_zero, List.getElem?_cons_succ]
      refine x_first_unsettled g2 rfl (tabOf_len _ _) (tabOf_told hin) ?_
      cases cu : s.unsettled (tabOf s.n row) with
      | none =>
        have good : s.goodRow row = true := by unfold GS.goodRow; rw [ck, cu]; rfl
        simp only [↓reduceIte]
        have l9 : (List.map eTab (List.map (tabOf s.n) (done.filter s.goodRow))).length ≤ 1296 := by rw [List.length_map, List.length_map]; exact hdone
        simp only [dIfS, dB, dOp, dVar, dCB, dCons, dNil, dRet, dRetN, dNext, dC, dAsg, dgN, dgT, dgSeq, dDrop, dCont, dAndT, dOrT, dNotT, dAndV, dOrV, dNotV, dIf, dIsN, dNotN, dNeg, dLst, dTup, dNewI, dCall, dMeth, dMake, dRaise, dFrz, dIsi, isiK, tyS, inst_NoneType_bool, inst_NoneType_int, inst_NoneType_str, inst_NoneType_list, inst_NoneType_tuple, inst_bool_bool, inst_bool_int, inst_bool_str, inst_bool_list, inst_bool_tuple, inst_int_bool, inst_int_int, inst_int_str, inst_int_list, inst_int_tuple, inst_str_bool, inst_str_int, inst_str_str, inst_str_list, inst_str_tuple, inst_list_bool, inst_list_int, inst_list_str, inst_list_list, inst_list_tuple, inst_tuple_bool, inst_tuple_int, inst_tuple_str, inst_tuple_list, inst_tuple_tuple, iiD, iiD0, subD, mulD, fdivD, modD, shrD, pow_10_6, pow_10_60, ltI, leI, gtI, geI, addI, addD, catD, scatD, lenD, lenS, ixD, ixL, ixLK, ixK, vl, vm, newL, i2D, absD, tupleD, dLM, dLM0, dFld, getF, dGet1, dGet2, getK, dSetIx, rng1, rng2, dFor1, dFor2, dFor, dForK, dstart, List.map_cons, List.map_nil, List.length_cons, List.length_nil, List.cons_append, List.nil_append, List.replicate, List.getElem?_cons_zero, List.getElem?_cons_succ, List.set_cons_zero, List.set_cons_succ, Option.isSome_some, Option.isNone_some, Option.isNone_none, Nat.add_one_sub_one, Nat.reduceAdd, Nat.reduceSub, Nat.sub_self, Nat.sub_zero, Bool.not_true, Bool.not_false, ↓reduceIte, Bool.false_eq_true, Bool.true_eq_false, okD_int, okD_bl, okD_non, dEq_int, dEq_bl, Bool.true_xor, Bool.false_xor, Bool.not_eq_true', decide_eq_true_eq, decide_eq_false_iff_not, true_and, Bool.and_true, Bool.and_false, Bool.true_and, Bool.false_and, at_0, at_1, at_2, cast0, cast1, cast2, cast3, not_true_eq_false, not_false_eq_true, eL, Option.map_some, Option.map_none, dSlL, slk, doNone, doSome, sortedTD, dLenSet, lsk, hpp]
        refine append_at hpp (by omega) ?_
        rw [back]
        have := hN' (done.filter s.goodRow ++ [row]) (some (.lst ((tabOf s.n row).map (eO eR)))) o4 (some (.lst [])) (by rw [List.filter_append, List.filter_cons_of_pos good, List.filter_nil])
        rw [List.map_append, List.map_append] at this
        exact this
      | some u =>
        have bad : s.goodRow row = false := by unfold GS.goodRow; rw [cu]; simp
        simp only [Bool.false_eq_true, ↓reduceIte]
        exact skip bad
    · have bad : s.goodRow row = false := by
        unfold GS.goodRow
        cases c9 : keptOf s.n row with
        | nil => exact absurd c9 ck
        | cons _ _ => rfl
      have hl : ¬ (((keptOf s.n row).length : Int) = 0) := fun z => ck (List.eq_nil_of_length_eq_zero (by omega))
      rw [decide_eq_false hl]
      simp only [Bool.false_eq_true, ↓reduceIte]
      exact skip bad
theorem x_settled_tables {a : CA} {A : GA} {s : GS} {m : Nat} {S : Sto} {P : D → Sto → Prop} {E : Addr → Sto → Prop} (g : GAt a S A s m) (h1 : 5 < s.n → E a.TooMany S) (h2 : s.n ≤ 5 → ∀ S', SLe S S' → P (.lst (s.tables.map eTab)) S') : sp_settled_tables a [.ref A.g] S P E := ⟨A, s, m, rfl, g, h1, h2⟩

end DL
namespace DL
open PySem L2
def t_Guild_init (K : PySem.W.Frag) (a : CA) (W : WD) : TDS :=
  (dSeq (dIfS (dOrT (dB (dOp ltI (dVar 1) (dC (.int 1)))) (dB (dOp gtI (dVar 1) (dC (.int 60)))))
    (dRaise a.NoHouse W)
    dNext)
  (dSeq (dSetFld a.Guild "houses" (dVar 0) (dVar 1))
  (dSeq (dSetFld a.Guild "ties" (dVar 0) (dLc true (diR1 (dCons (dVar 1) dNil)) (dgN 2) dYes (dLst false dNil) [2]))
  (dSeq (dSetFld a.Guild "shy" (dVar 0) (dLc true (diR1 (dCons (dVar 1) dNil)) (dgN 2) dYes (dLst false dNil) [2]))
  (dSeq (dSetFld a.Guild "fond" (dVar 0) dNewI)
  (dSetFld a.Guild "longings" (dVar 0) dNewI))))))
abbrev N_Guild_init : List Str := ["self", "size", "house"]
def sp_Guild_init (a : CA) : DSp := fun ds S P E => ∃ (g : Addr) (size : Int), ds = [.ref g, .int size] ∧ S g = some (.ins a.Guild []) ∧
  (1 ≤ size ∧ size ≤ 60 → ∀ (A : GA) (S' : Sto), A.g = g → GAt a S' A (.new size.toNat) 0 → (∀ b, b ∉ A.all → S' b = S b) → (∀ b ∈ A.all, b ≠ g → S b = none) → P .non S') ∧ (¬ (1 ≤ size ∧ size ≤ 60) → E a.NoHouse S)
theorem len_Guild_init (a : CA) (ds : List D) (S : Sto) (Q : D → Sto → Prop) (E : Addr → Sto → Prop) (h : sp_Guild_init a ds S Q E) : ds.length = ["self", "size"].length := by
  obtain ⟨_, _, rfl, _⟩ := h; rfl
theorem nbs_none (n : Nat) : (List.range n).map (fun _ => D.lst []) = (nbs n fun _ _ => false).map eR := by
  unfold nbs intsN
  rw [List.map_map, List.map_map]
  refine List.map_congr_left fun x _ => ?_
  show D.lst [] = eR (nb n (fun _ _ => false) (x : Int))
  have : nb n (fun _ _ => false) (x : Int) = [] := by unfold nb; exact List.filter_eq_nil_iff.mpr fun y _ z => by cases z
  rw [this]; rfl
theorem read_Guild_init (K : PySem.W.Frag) (a : CA) (ds : List D) (S : Sto) (Q : D → Sto → Prop) (E : Addr → Sto → Prop) (h : sp_Guild_init a ds S Q E) : t_Guild_init K a (wishOf E) (endsOf Q) (dstart N_Guild_init ds) S := by
  obtain ⟨g, size, rfl, hg, q, q2⟩ := h
  simp only [t_Guild_init, N_Guild_init, dSeq, dIfS, dB, dOp, dVar, dCB, dCons, dNil, dRet, dRetN, dNext, dC, dAsg, dgN, dgT, dgSeq, dDrop, dCont, dAndT, dOrT, dNotT, dAndV, dOrV, dNotV, dIf, dIsN, dNotN, dNeg, dLst, dTup, dNewI, dCall, dMeth, dMake, dRaise, dFrz, dIsi, isiK, tyS, inst_NoneType_bool, inst_NoneType_int, inst_NoneType_str, inst_NoneType_list, inst_NoneType_tuple, inst_bool_bool, inst_bool_int, inst_bool_str, inst_bool_list, inst_bool_tuple, inst_int_bool, inst_int_int, inst_int_str, inst_int_list, inst_int_tuple, inst_str_bool, inst_str_int, inst_str_str, inst_str_list, inst_str_tuple, inst_list_bool, inst_list_int, inst_list_str, inst_list_list, inst_list_tuple, inst_tuple_bool, inst_tuple_int, inst_tuple_str, inst_tuple_list, inst_tuple_tuple, iiD, iiD0, subD, mulD, fdivD, modD, shrD, pow_10_6, pow_10_60, ltI, leI, gtI, geI, addI, addD, catD, scatD, lenD, lenS, ixD, ixL, ixLK, ixK, vl, vm, newL, i2D, absD, tupleD, dLM, dLM0, dFld, getF, dGet1, dGet2, getK, dSetIx, rng1, rng2, dFor1, dFor2, dFor, dForK, eqR, rs, dstart, List.map_cons, List.map_nil, List.length_cons, List.length_nil, List.cons_append, List.nil_append, List.replicate, List.getElem?_cons_zero, List.getElem?_cons_succ, List.set_cons_zero, List.set_cons_succ, Option.isSome_some, Option.isNone_some, Option.isNone_none, Nat.add_one_sub_one, Nat.reduceAdd, Nat.reduceSub, Nat.sub_self, Nat.sub_zero, Bool.not_true, Bool.not_false, ↓reduceIte, Bool.false_eq_true, Bool.true_eq_false, okD_int, okD_bl, okD_non, dEq_int, dEq_bl, Bool.true_xor, Bool.false_xor, Bool.not_eq_true', decide_eq_true_eq, decide_eq_false_iff_not, true_and, Bool.and_true, Bool.and_false, Bool.true_and, Bool.false_and, at_0, at_1, at_2, cast0, cast1, cast2, cast3, not_true_eq_false, not_false_eq_true, eL, Option.map_some, Option.map_none, dSlL, slk, doNone, doSome, sortedTD, dLenSet, lsk, hg, onIns, gf_houses, gf_ties, gf_shy, gf_fond, gf_longings, gfm_see_house, gfm_see_two, gfm_size, gfm_neighbours, gfm_has_way, gfm_lay_way, gfm_lift_way, gfm_like, gfm_liking, gfm_shun, gfm_shunned, gfm_see_road, gfm_wish, gfm_wishes, gfm_rank_of, gp_houses, gp_ties, gp_shy, gp_fond, gp_longings, dSetFld]
  by_cases c : size < 1
  · rw [if_pos c]; exact wish_of (q2 (by omega))
  rw [if_neg c]
  by_cases c2 : 60 < size
  · rw [if_pos c2]; exact wish_of (q2 (by omega))
  rw [if_neg c2]; replace q := q (by omega)
  refine ⟨by decide, ?_⟩
  simp only [dLc, diR1, dSeq, dIfS, dB, dOp, dVar, dCB, dCons, dNil, dRet, dRetN, dNext, dC, dAsg, dgN, dgT, dgSeq, dDrop, dCont, dAndT, dOrT, dNotT, dAndV, dOrV, dNotV, dIf, dIsN, dNotN, dNeg, dLst, dTup, dNewI, dCall, dMeth, dMake, dRaise, dFrz, dIsi, isiK, tyS, inst_NoneType_bool, inst_NoneType_int, inst_NoneType_str, inst_NoneType_list, inst_NoneType_tuple, inst_bool_bool, inst_bool_int, inst_bool_str, inst_bool_list, inst_bool_tuple, inst_int_bool, inst_int_int, inst_int_str, inst_int_list, inst_int_tuple, inst_str_bool, inst_str_int, inst_str_str, inst_str_list, inst_str_tuple, inst_list_bool, inst_list_int, inst_list_str, inst_list_list, inst_list_tuple, inst_tuple_bool, inst_tuple_int, inst_tuple_str, inst_tuple_list, inst_tuple_tuple, iiD, iiD0, subD, mulD, fdivD, modD, shrD, pow_10_6, pow_10_60, ltI, leI, gtI, geI, addI, addD, catD, scatD, lenD, lenS, ixD, ixL, ixLK, ixK, vl, vm, newL, i2D, absD, tupleD, dLM, dLM0, dFld, getF, dGet1, dGet2, getK, dSetIx, rng1, rng2, dFor1, dFor2, dFor, dForK, eqR, rs, dstart, List.map_cons, List.map_nil, List.length_cons, List.length_nil, List.cons_append, List.nil_append, List.replicate, List.getElem?_cons_zero, List.getElem?_cons_succ, List.set_cons_zero, List.set_cons_succ, Option.isSome_some, Option.isNone_some, Option.isNone_none, Nat.add_one_sub_one, Nat.reduceAdd, Nat.reduceSub, Nat.sub_self, Nat.sub_zero, Bool.not_true, Bool.not_false, ↓reduceIte, Bool.false_eq_true, Bool.true_eq_false, okD_int, okD_bl, okD_non, dEq_int, dEq_bl, Bool.true_xor, Bool.false_xor, Bool.not_eq_true', decide_eq_true_eq, decide_eq_false_iff_not, true_and, Bool.and_true, Bool.and_false, Bool.true_and, Bool.false_and, at_0, at_1, at_2, cast0, cast1, cast2, cast3, not_true_eq_false, not_false_eq_true, eL, Option.map_some, Option.map_none, dSlL, slk, doNone, doSome, sortedTD, dLenSet, lsk]
  refine ⟨by omega, ?_⟩
  have es : ((List.range size.toNat).map fun i : Nat => D.int (0 + (i : Nat))) = intsD 0 size.toNat := rfl
  rw [← es]
  refine lc_all (m := true) (P := _) _ (fun _ => .lst []) (by simp [sizeLine]; omega) (fun _ _ => trivial) (fun i _ S' Y _ y => ?_) fun p1 h1 => ?_
  · simp only [dSeq, dIfS, dB, dOp, dVar, dCB, dCons, dNil, dRet, dRetN, dNext, dC, dAsg, dgN, dgT, dgSeq, dDrop, dCont, dAndT, dOrT, dNotT, dAndV, dOrV, dNotV, dIf, dIsN, dNotN, dNeg, dLst, dTup, dNewI, dCall, dMeth, dMake, dRaise, dFrz, dIsi, isiK, tyS, inst_NoneType_bool, inst_NoneType_int, inst_NoneType_str, inst_NoneType_list, inst_NoneType_tuple, inst_bool_bool, inst_bool_int, inst_bool_str, inst_bool_list, inst_bool_tuple, inst_int_bool, inst_int_int, inst_int_str, inst_int_list, inst_int_tuple, inst_str_bool, inst_str_int, inst_str_str, inst_str_list, inst_str_tuple, inst_list_bool, inst_list_int, inst_list_str, inst_list_list, inst_list_tuple, inst_tuple_bool, inst_tuple_int, inst_tuple_str, inst_tuple_list, inst_tuple_tuple, iiD, iiD0, subD, mulD, fdivD, modD, shrD, pow_10_6, pow_10_60, ltI, leI, gtI, geI, addI, addD, catD, scatD, lenD, lenS, ixD, ixL, ixLK, ixK, vl, vm, newL, i2D, absD, tupleD, dLM, dLM0, dFld, getF, dGet1, dGet2, getK, dSetIx, rng1, rng2, dFor1, dFor2, dFor, dForK, eqR, rs, dstart, List.map_cons, List.map_nil, List.length_cons, List.length_nil, List.cons_append, List.nil_append, List.replicate, List.getElem?_cons_zero, List.getElem?_cons_succ, List.set_cons_zero, List.set_cons_succ, Option.isSome_some, Option.isNone_some, Option.isNone_none, Nat.add_one_sub_one, Nat.reduceAdd, Nat.reduceSub, Nat.sub_self, Nat.sub_zero, Bool.not_true, Bool.not_false, ↓reduceIte, Bool.false_eq_true, Bool.true_eq_false, okD_int, okD_bl, okD_non, dEq_int, dEq_bl, Bool.true_xor, Bool.false_xor, Bool.not_eq_true', decide_eq_true_eq, decide_eq_false_iff_not, true_and, Bool.and_true, Bool.and_false, Bool.true_and, Bool.false_and, at_0, at_1, at_2, cast0, cast1, cast2, cast3, not_true_eq_false, not_false_eq_true, eL, Option.map_some, Option.map_none, dSlL, slk, doNone, doSome, sortedTD, dLenSet, lsk, wipeD]; exact ⟨by decide, y⟩
  obtain ⟨n1, h1'⟩ := free_of h1
  simp only [su_ne (Ne.symm n1), su_same, true_and, gp_ties, gp_houses, su_two (Ne.symm n1)]
  refine ⟨by simp, by omega, ?_⟩
  refine lc_all (m := true) (P := _) _ (fun _ => .lst []) (by simp [sizeLine]; omega) (fun _ _ => trivial) (fun i _ S' Y _ y => ?_) fun p2 h2 => ?_
  · simp only [dSeq, dIfS, dB, dOp, dVar, dCB, dCons, dNil, dRet, dRetN, dNext, dC, dAsg, dgN, dgT, dgSeq, dDrop, dCont, dAndT, dOrT, dNotT, dAndV, dOrV, dNotV, dIf, dIsN, dNotN, dNeg, dLst, dTup, dNewI, dCall, dMeth, dMake, dRaise, dFrz, dIsi, isiK, tyS, inst_NoneType_bool, inst_NoneType_int, inst_NoneType_str, inst_NoneType_list, inst_NoneType_tuple, inst_bool_bool, inst_bool_int, inst_bool_str, inst_bool_list, inst_bool_tuple, inst_int_bool, inst_int_int, inst_int_str, inst_int_list, inst_int_tuple, inst_str_bool, inst_str_int, inst_str_str, inst_str_list, inst_str_tuple, inst_list_bool, inst_list_int, inst_list_str, inst_list_list, inst_list_tuple, inst_tuple_bool, inst_tuple_int, inst_tuple_str, inst_tuple_list, inst_tuple_tuple, iiD, iiD0, subD, mulD, fdivD, modD, shrD, pow_10_6, pow_10_60, ltI, leI, gtI, geI, addI, addD, catD, scatD, lenD, lenS, ixD, ixL, ixLK, ixK, vl, vm, newL, i2D, absD, tupleD, dLM, dLM0, dFld, getF, dGet1, dGet2, getK, dSetIx, rng1, rng2, dFor1, dFor2, dFor, dForK, eqR, rs, dstart, List.map_cons, List.map_nil, List.length_cons, List.length_nil, List.cons_append, List.nil_append, List.replicate, List.getElem?_cons_zero, List.getElem?_cons_succ, List.set_cons_zero, List.set_cons_succ, Option.isSome_some, Option.isNone_some, Option.isNone_none, Nat.add_one_sub_one, Nat.reduceAdd, Nat.reduceSub, Nat.sub_self, Nat.sub_zero, Bool.not_true, Bool.not_false, ↓reduceIte, Bool.false_eq_true, Bool.true_eq_false, okD_int, okD_bl, okD_non, dEq_int, dEq_bl, Bool.true_xor, Bool.false_xor, Bool.not_eq_true', decide_eq_true_eq, decide_eq_false_iff_not, true_and, Bool.and_true, Bool.and_false, Bool.true_and, Bool.false_and, at_0, at_1, at_2, cast0, cast1, cast2, cast3, not_true_eq_false, not_false_eq_true, eL, Option.map_some, Option.map_none, dSlL, slk, doNone, doSome, sortedTD, dLenSet, lsk, wipeD]; exact ⟨by decide, y⟩
  obtain ⟨n2, h2⟩ := free_of h2
  obtain ⟨n3, h2⟩ := free_of h2
  simp only [su_ne (Ne.symm n1), su_ne (Ne.symm n3), su_same, true_and, gp_shy, su_at2 (Ne.symm n1) (Ne.symm n3)]
  refine ⟨by simp, fun p3 h3 => ?_⟩
  obtain ⟨n4, h3⟩ := free_of h3
  obtain ⟨n5, h3⟩ := free_of h3
  obtain ⟨n6, h3⟩ := free_of h3
  simp only [su_ne (Ne.symm n1), su_ne (Ne.symm n3), su_ne (Ne.symm n6), su_same, true_and, gp_fond, su_at3 (Ne.symm n1) (Ne.symm n3) (Ne.symm n6)]
  refine ⟨by simp, fun p4 h4 => ?_⟩
  obtain ⟨m1, h4⟩ := free_of h4
  obtain ⟨m2, h4⟩ := free_of h4
  obtain ⟨m3, h4⟩ := free_of h4
  obtain ⟨m4, h4⟩ := free_of h4
  simp only [su_ne (Ne.symm n1), su_ne (Ne.symm n3), su_ne (Ne.symm n6), su_ne (Ne.symm m4), su_same, true_and, gp_longings, su_at4 (Ne.symm n1) (Ne.symm n3) (Ne.symm n6) (Ne.symm m4)]
  refine ⟨by simp, nx_of (q ⟨g, p1, p2, p3, p4⟩ _ rfl ?_ ?_ ?_)⟩
  · have e : ((size.toNat : Nat) : Int) = size := by omega
    refine ⟨?_, ?_, ?_, ⟨[], ?_, fun _ _ => rfl, Nat.le_refl _⟩, ?_, Nat.le_refl _, Ne.symm n2, Ne.symm m1, ?_, ?_⟩
    · show _ = some (Cl.ins a.Guild (gf ⟨g, p1, p2, p3, p4⟩ size.toNat))
      unfold gf
      simp only [su_ne (Ne.symm n1), su_ne (Ne.symm n3), su_ne (Ne.symm n6), su_ne (Ne.symm m4), su_same, e]
    · show _ = some (Cl.ml ((nbs size.toNat fun _ _ => false).map eR))
      simp only [su_ne (Ne.symm n2), su_ne (Ne.symm n5), su_ne (Ne.symm m3), su_same, nbs_none]
    · show _ = some (Cl.ml ((nbs size.toNat fun _ _ => false).map eR))
      simp only [su_ne (Ne.symm n4), su_ne (Ne.symm m2), su_same, nbs_none]
    · simp only [su_ne (Ne.symm m1), su_same]
    · exact su_same
    · show 1 ≤ size.toNat; omega
    · show size.toNat ≤ 60; omega
  · intro b hb
    simp only [GA.all, List.mem_cons, List.not_mem_nil, or_false, not_or] at hb
    rw [su_ne hb.2.2.2.2, su_ne hb.2.2.2.1, su_ne hb.2.2.1, su_ne hb.2.1, su_ne hb.1]
  · intro b hb hbg
    simp only [GA.all, List.mem_cons, List.not_mem_nil, or_false] at hb
    rcases hb with rfl | rfl | rfl | rfl | rfl
    · exact absurd rfl hbg
    · exact h1' 
    · exact h2
    · exact h3
    · exact h4

end DL
namespace DL
open PySem L2
def t_Guild_see_two (K : PySem.W.Frag) (a : CA) (W : WD) : TDS :=
  (dSeq (dDrop (dMeth a.Guild "see_house" (sp_Guild_see_house a) W (dVar 0) (dCons (dVar 1) dNil)))
  (dSeq (dDrop (dMeth a.Guild "see_house" (sp_Guild_see_house a) W (dVar 0) (dCons (dVar 2) dNil)))
  (dIfS (dB (dOp (eqR false) (dVar 1) (dVar 2)))
    (dRaise a.NoHouse W)
    dNext)))
abbrev N_Guild_see_two : List Str := ["self", "a", "b"]
def sp_Guild_see_two (a : CA) : DSp := fun ds S P E => ∃ (A : GA) (s : GS) (m : Nat) (x y : Int), ds = [.ref A.g, .int x, .int y] ∧ GAt a S A s m ∧ (s.ok2 x y → P .non S) ∧ (¬ s.ok2 x y → E a.NoHouse S)
theorem len_Guild_see_two (a : CA) (ds : List D) (S : Sto) (Q : D → Sto → Prop) (E : Addr → Sto → Prop) (h : sp_Guild_see_two a ds S Q E) : ds.length = ["self", "a", "b"].length := by
  obtain ⟨_, _, _, _, _, rfl, _⟩ := h; rfl
theorem read_Guild_see_two (K : PySem.W.Frag) (a : CA) (ds : List D) (S : Sto) (Q : D → Sto → Prop) (E : Addr → Sto → Prop) (h : sp_Guild_see_two a ds S Q E) : t_Guild_see_two K a (wishOf E) (endsOf Q) (dstart N_Guild_see_two ds) S := by
  obtain ⟨A, s, m, x, y, rfl, g, q1, q2⟩ := h
  simp only [t_Guild_see_two, N_Guild_see_two, dSeq, dIfS, dB, dOp, dVar, dCB, dCons, dNil, dRet, dRetN, dNext, dC, dAsg, dgN, dgT, dgSeq, dDrop, dCont, dAndT, dOrT, dNotT, dAndV, dOrV, dNotV, dIf, dIsN, dNotN, dNeg, dLst, dTup, dNewI, dCall, dMeth, dMake, dRaise, dFrz, dIsi, isiK, tyS, inst_NoneType_bool, inst_NoneType_int, inst_NoneType_str, inst_NoneType_list, inst_NoneType_tuple, inst_bool_bool, inst_bool_int, inst_bool_str, inst_bool_list, inst_bool_tuple, inst_int_bool, inst_int_int, inst_int_str, inst_int_list, inst_int_tuple, inst_str_bool, inst_str_int, inst_str_str, inst_str_list, inst_str_tuple, inst_list_bool, inst_list_int, inst_list_str, inst_list_list, inst_list_tuple, inst_tuple_bool, inst_tuple_int, inst_tuple_str, inst_tuple_list, inst_tuple_tuple, iiD, iiD0, subD, mulD, fdivD, modD, shrD, pow_10_6, pow_10_60, ltI, leI, gtI, geI, addI, addD, catD, scatD, lenD, lenS, ixD, ixL, ixLK, ixK, vl, vm, newL, i2D, absD, tupleD, dLM, dLM0, dFld, getF, dGet1, dGet2, getK, dSetIx, rng1, rng2, dFor1, dFor2, dFor, dForK, eqR, rs, dstart, List.map_cons, List.map_nil, List.length_cons, List.length_nil, List.cons_append, List.nil_append, List.replicate, List.getElem?_cons_zero, List.getElem?_cons_succ, List.set_cons_zero, List.set_cons_succ, Option.isSome_some, Option.isNone_some, Option.isNone_none, Nat.add_one_sub_one, Nat.reduceAdd, Nat.reduceSub, Nat.sub_self, Nat.sub_zero, Bool.not_true, Bool.not_false, ↓reduceIte, Bool.false_eq_true, Bool.true_eq_false, okD_int, okD_bl, okD_non, dEq_int, dEq_bl, Bool.true_xor, Bool.false_xor, Bool.not_eq_true', decide_eq_true_eq, decide_eq_false_iff_not, true_and, Bool.and_true, Bool.and_false, Bool.true_and, Bool.false_and, at_0, at_1, at_2, cast0, cast1, cast2, cast3, not_true_eq_false, not_false_eq_true, eL, Option.map_some, Option.map_none, dSlL, slk, doNone, doSome, sortedTD, dLenSet, lsk, g.g, onIns, gf_houses, gf_ties, gf_shy, gf_fond, gf_longings, gfm_see_house, gfm_see_two, gfm_size, gfm_neighbours, gfm_has_way, gfm_lay_way, gfm_lift_way, gfm_like, gfm_liking, gfm_shun, gfm_shunned, gfm_see_road, gfm_wish, gfm_wishes, gfm_rank_of, gp_houses, gp_ties, gp_shy, gp_fond, gp_longings]
  unfold GS.ok2 at q1 q2
  refine x_Guild_see_house g (fun h1 => ?_) fun h1 => wish_of (q2 fun z => h1 z.1)
  simp only [g.g, onIns, gf_houses, gf_ties, gf_shy, gf_fond, gf_longings, gfm_see_house, gfm_see_two, gfm_size, gfm_neighbours, gfm_has_way, gfm_lay_way, gfm_lift_way, gfm_like, gfm_liking, gfm_shun, gfm_shunned, gfm_see_road, gfm_wish, gfm_wishes, gfm_rank_of, gp_houses, gp_ties, gp_shy, gp_fond, gp_longings, true_and]
  refine x_Guild_see_house g (fun h2 => ?_) fun h2 => wish_of (q2 fun z => h2 z.2.1)
  by_cases c : x = y
  · rw [if_pos c]; exact wish_of (q2 fun z => z.2.2 c)
  · rw [if_neg c]; exact nx_of (q1 ⟨h1, h2, c⟩)

end DL
namespace DL
open PySem L2
def t_Guild_has_way (K : PySem.W.Frag) (a : CA) (W : WD) : TDS :=
  (dSeq (dDrop (dMeth a.Guild "see_house" (sp_Guild_see_house a) W (dVar 0) (dCons (dVar 1) dNil)))
  (dSeq (dDrop (dMeth a.Guild "see_house" (sp_Guild_see_house a) W (dVar 0) (dCons (dVar 2) dNil)))
  (dRet (dOp (inR false) (dVar 2) (dOp ixD (dFld a.Guild "ties" (dVar 0)) (dVar 1))))))
abbrev N_Guild_has_way : List Str := ["self", "a", "b"]
def sp_Guild_has_way (a : CA) : DSp := fun ds S P E => ∃ (A : GA) (s : GS) (m : Nat) (x y : Int), ds = [.ref A.g, .int x, .int y] ∧ GAt a S A s m ∧ (s.ok x ∧ s.ok y → P (.bl (s.T x y)) S) ∧ (¬ (s.ok x ∧ s.ok y) → E a.NoHouse S)
theorem len_Guild_has_way (a : CA) (ds : List D) (S : Sto) (Q : D → Sto → Prop) (E : Addr → Sto → Prop) (h : sp_Guild_has_way a ds S Q E) : ds.length = ["self", "a", "b"].length := by
  obtain ⟨_, _, _, _, _, rfl, _⟩ := h; rfl
theorem read_Guild_has_way (K : PySem.W.Frag) (a : CA) (ds : List D) (S : Sto) (Q : D → Sto → Prop) (E : Addr → Sto → Prop) (h : sp_Guild_has_way a ds S Q E) : t_Guild_has_way K a (wishOf E) (endsOf Q) (dstart N_Guild_has_way ds) S := by
  obtain ⟨A, s, m, x, y, rfl, g, q1, q2⟩ := h
  simp only [t_Guild_has_way, N_Guild_has_way, dSeq, dIfS, dB, dOp, dVar, dCB, dCons, dNil, dRet, dRetN, dNext, dC, dAsg, dgN, dgT, dgSeq, dDrop, dCont, dAndT, dOrT, dNotT, dAndV, dOrV, dNotV, dIf, dIsN, dNotN, dNeg, dLst, dTup, dNewI, dCall, dMeth, dMake, dRaise, dFrz, dIsi, isiK, tyS, inst_NoneType_bool, inst_NoneType_int, inst_NoneType_str, inst_NoneType_list, inst_NoneType_tuple, inst_bool_bool, inst_bool_int, inst_bool_str, inst_bool_list, inst_bool_tuple, inst_int_bool, inst_int_int, inst_int_str, inst_int_list, inst_int_tuple, inst_str_bool, inst_str_int, inst_str_str, inst_str_list, inst_str_tuple, inst_list_bool, inst_list_int, inst_list_str, inst_list_list, inst_list_tuple, inst_tuple_bool, inst_tuple_int, inst_tuple_str, inst_tuple_list, inst_tuple_tuple, iiD, iiD0, subD, mulD, fdivD, modD, shrD, pow_10_6, pow_10_60, ltI, leI, gtI, geI, addI, addD, catD, scatD, lenD, lenS, ixD, ixL, ixLK, ixK, vl, vm, newL, i2D, absD, tupleD, dLM, dLM0, dFld, getF, dGet1, dGet2, getK, dSetIx, rng1, rng2, dFor1, dFor2, dFor, dForK, eqR, rs, dstart, List.map_cons, List.map_nil, List.length_cons, List.length_nil, List.cons_append, List.nil_append, List.replicate, List.getElem?_cons_zero, List.getElem?_cons_succ, List.set_cons_zero, List.set_cons_succ, Option.isSome_some, Option.isNone_some, Option.isNone_none, Nat.add_one_sub_one, Nat.reduceAdd, Nat.reduceSub, Nat.sub_self, Nat.sub_zero, Bool.not_true, Bool.not_false, ↓reduceIte, Bool.false_eq_true, Bool.true_eq_false, okD_int, okD_bl, okD_non, dEq_int, dEq_bl, Bool.true_xor, Bool.false_xor, Bool.not_eq_true', decide_eq_true_eq, decide_eq_false_iff_not, true_and, Bool.and_true, Bool.and_false, Bool.true_and, Bool.false_and, at_0, at_1, at_2, cast0, cast1, cast2, cast3, not_true_eq_false, not_false_eq_true, eL, Option.map_some, Option.map_none, dSlL, slk, doNone, doSome, sortedTD, dLenSet, lsk, g.g, onIns, gf_houses, gf_ties, gf_shy, gf_fond, gf_longings, gfm_see_house, gfm_see_two, gfm_size, gfm_neighbours, gfm_has_way, gfm_lay_way, gfm_lift_way, gfm_like, gfm_liking, gfm_shun, gfm_shunned, gfm_see_road, gfm_wish, gfm_wishes, gfm_rank_of, gp_houses, gp_ties, gp_shy, gp_fond, gp_longings]
  refine x_Guild_see_house g (fun h1 => ?_) fun h1 => wish_of (q2 fun z => h1 z.1)
  simp only [g.g, onIns, gf_houses, gf_ties, gf_shy, gf_fond, gf_longings, gfm_see_house, gfm_see_two, gfm_size, gfm_neighbours, gfm_has_way, gfm_lay_way, gfm_lift_way, gfm_like, gfm_liking, gfm_shun, gfm_shunned, gfm_see_road, gfm_wish, gfm_wishes, gfm_rank_of, gp_houses, gp_ties, gp_shy, gp_fond, gp_longings, true_and]
  refine x_Guild_see_house g (fun h2 => ?_) fun h2 => wish_of (q2 fun z => h2 z.2)
  simp only [g.g, g.t, onIns, gf_houses, gf_ties, gf_shy, gf_fond, gf_longings, gfm_see_house, gfm_see_two, gfm_size, gfm_neighbours, gfm_has_way, gfm_lay_way, gfm_lift_way, gfm_like, gfm_liking, gfm_shun, gfm_shunned, gfm_see_road, gfm_wish, gfm_wishes, gfm_rank_of, gp_houses, gp_ties, gp_shy, gp_fond, gp_longings, dSeq, dIfS, dB, dOp, dVar, dCB, dCons, dNil, dRet, dRetN, dNext, dC, dAsg, dgN, dgT, dgSeq, dDrop, dCont, dAndT, dOrT, dNotT, dAndV, dOrV, dNotV, dIf, dIsN, dNotN, dNeg, dLst, dTup, dNewI, dCall, dMeth, dMake, dRaise, dFrz, dIsi, isiK, tyS, inst_NoneType_bool, inst_NoneType_int, inst_NoneType_str, inst_NoneType_list, inst_NoneType_tuple, inst_bool_bool, inst_bool_int, inst_bool_str, inst_bool_list, inst_bool_tuple, inst_int_bool, inst_int_int, inst_int_str, inst_int_list, inst_int_tuple, inst_str_bool, inst_str_int, inst_str_str, inst_str_list, inst_str_tuple, inst_list_bool, inst_list_int, inst_list_str, inst_list_list, inst_list_tuple, inst_tuple_bool, inst_tuple_int, inst_tuple_str, inst_tuple_list, inst_tuple_tuple, iiD, iiD0, subD, mulD, fdivD, modD, shrD, pow_10_6, pow_10_60, ltI, leI, gtI, geI, addI, addD, catD, scatD, lenD, lenS, ixD, ixL, ixLK, ixK, vl, vm, newL, i2D, absD, tupleD, dLM, dLM0, dFld, getF, dGet1, dGet2, getK, dSetIx, rng1, rng2, dFor1, dFor2, dFor, dForK, eqR, rs, dstart, List.map_cons, List.map_nil, List.length_cons, List.length_nil, List.cons_append, List.nil_append, List.replicate, List.getElem?_cons_zero, List.getElem?_cons_succ, List.set_cons_zero, List.set_cons_succ, Option.isSome_some, Option.isNone_some, Option.isNone_none, Nat.add_one_sub_one, Nat.reduceAdd, Nat.reduceSub, Nat.sub_self, Nat.sub_zero, Bool.not_true, Bool.not_false, ↓reduceIte, Bool.false_eq_true, Bool.true_eq_false, okD_int, okD_bl, okD_non, dEq_int, dEq_bl, Bool.true_xor, Bool.false_xor, Bool.not_eq_true', decide_eq_true_eq, decide_eq_false_iff_not, true_and, Bool.and_true, Bool.and_false, Bool.true_and, Bool.false_and, at_0, at_1, at_2, cast0, cast1, cast2, cast3, not_true_eq_false, not_false_eq_true, eL, Option.map_some, Option.map_none, dSlL, slk, doNone, doSome, sortedTD, dLenSet, lsk, nbs_at h1.1 h1.2, inR, inL, any_int]
  refine ⟨okD_R _, rt_of ?_⟩
  have e : decide (y ∈ nb s.n s.T x) = s.T x y := by
    cases c : s.T x y with
    | true => exact decide_eq_true (nb_mem.mpr ⟨h2, c⟩)
    | false => exact decide_eq_false fun z => by rw [(nb_mem.mp z).2] at c; cases c
  rw [e]
  exact q1 ⟨h1, h2⟩
theorem x_Guild_has_way {a : CA} {A : GA} {s : GS} {m : Nat} {x y : Int} {S : Sto} {P : D → Sto → Prop} {E : Addr → Sto → Prop} (g : GAt a S A s m) (h : s.ok x) (h' : s.ok y) (q : P (.bl (s.T x y)) S) : sp_Guild_has_way a [.ref A.g, .int x, .int y] S P E := ⟨A, s, m, x, y, rfl, g, fun _ => q, fun z => absurd ⟨h, h'⟩ z⟩

end DL
namespace DL
open PySem L2
def t_Guild_lay_way (K : PySem.W.Frag) (a : CA) (W : WD) : TDS :=
  (dSeq (dDrop (dMeth a.Guild "see_two" (sp_Guild_see_two a) W (dVar 0) (dCons (dVar 1) (dCons (dVar 2) dNil))))
  (dSeq (dIfS (dB (dOp (inR false) (dVar 2) (dOp ixD (dFld a.Guild "ties" (dVar 0)) (dVar 1))))
    (dRaise a.WayThere W)
    dNext)
  (dSeq (dSetIx (dFld a.Guild "ties" (dVar 0)) (dVar 1) (dCB (sortedD false) (dCons (dOp (addD false) (dOp ixD (dFld a.Guild "ties" (dVar 0)) (dVar 1)) (dLst false (dCons (dVar 2) dNil))) dNil)))
  (dSetIx (dFld a.Guild "ties" (dVar 0)) (dVar 2) (dCB (sortedD false) (dCons (dOp (addD false) (dOp ixD (dFld a.Guild "ties" (dVar 0)) (dVar 2)) (dLst false (dCons (dVar 1) dNil))) dNil))))))
abbrev N_Guild_lay_way : List Str := ["self", "a", "b"]
def sp_Guild_lay_way (a : CA) : DSp := fun ds S P E => ∃ (A : GA) (s : GS) (m : Nat) (x y : Int), ds = [.ref A.g, .int x, .int y] ∧ GAt a S A s m ∧
  (¬ s.ok2 x y → E a.NoHouse S) ∧ (s.ok2 x y → s.T x y = true → E a.WayThere S) ∧ (s.ok2 x y → s.T x y = false → s.T y x = false ∧ ∀ S', GAt a S' A (s.lay x y) m → (∀ b, b ∉ A.all → S' b = S b) → P .non S')
theorem len_Guild_lay_way (a : CA) (ds : List D) (S : Sto) (Q : D → Sto → Prop) (E : Addr → Sto → Prop) (h : sp_Guild_lay_way a ds S Q E) : ds.length = ["self", "a", "b"].length := by
  obtain ⟨_, _, _, _, _, rfl, _⟩ := h; rfl
theorem read_Guild_lay_way (K : PySem.W.Frag) (a : CA) (ds : List D) (S : Sto) (Q : D → Sto → Prop) (E : Addr → Sto → Prop) (h : sp_Guild_lay_way a ds S Q E) : t_Guild_lay_way K a (wishOf E) (endsOf Q) (dstart N_Guild_lay_way ds) S := by
  obtain ⟨A, s, m, x, y, rfl, g, q1, q2, q3⟩ := h
  simp only [t_Guild_lay_way, N_Guild_lay_way, dSeq, dIfS, dB, dOp, dVar, dCB, dCons, dNil, dRet, dRetN, dNext, dC, dAsg, dgN, dgT, dgSeq, dDrop, dCont, dAndT, dOrT, dNotT, dAndV, dOrV, dNotV, dIf, dIsN, dNotN, dNeg, dLst, dTup, dNewI, dCall, dMeth, dMake, dRaise, dFrz, dIsi, isiK, tyS, inst_NoneType_bool, inst_NoneType_int, inst_NoneType_str, inst_NoneType_list, inst_NoneType_tuple, inst_bool_bool, inst_bool_int, inst_bool_str, inst_bool_list, inst_bool_tuple, inst_int_bool, inst_int_int, inst_int_str, inst_int_list, inst_int_tuple, inst_str_bool, inst_str_int, inst_str_str, inst_str_list, inst_str_tuple, inst_list_bool, inst_list_int, inst_list_str, inst_list_list, inst_list_tuple, inst_tuple_bool, inst_tuple_int, inst_tuple_str, inst_tuple_list, inst_tuple_tuple, iiD, iiD0, subD, mulD, fdivD, modD, shrD, pow_10_6, pow_10_60, ltI, leI, gtI, geI, addI, addD, catD, scatD, lenD, lenS, ixD, ixL, ixLK, ixK, vl, vm, newL, i2D, absD, tupleD, dLM, dLM0, dFld, getF, dGet1, dGet2, getK, dSetIx, rng1, rng2, dFor1, dFor2, dFor, dForK, eqR, rs, dstart, List.map_cons, List.map_nil, List.length_cons, List.length_nil, List.cons_append, List.nil_append, List.replicate, List.getElem?_cons_zero, List.getElem?_cons_succ, List.set_cons_zero, List.set_cons_succ, Option.isSome_some, Option.isNone_some, Option.isNone_none, Nat.add_one_sub_one, Nat.reduceAdd, Nat.reduceSub, Nat.sub_self, Nat.sub_zero, Bool.not_true, Bool.not_false, ↓reduceIte, Bool.false_eq_true, Bool.true_eq_false, okD_int, okD_bl, okD_non, dEq_int, dEq_bl, Bool.true_xor, Bool.false_xor, Bool.not_eq_true', decide_eq_true_eq, decide_eq_false_iff_not, true_and, Bool.and_true, Bool.and_false, Bool.true_and, Bool.false_and, at_0, at_1, at_2, cast0, cast1, cast2, cast3, not_true_eq_false, not_false_eq_true, eL, Option.map_some, Option.map_none, dSlL, slk, doNone, doSome, sortedTD, dLenSet, lsk, g.g, onIns, gf_houses, gf_ties, gf_shy, gf_fond, gf_longings, gfm_see_house, gfm_see_two, gfm_size, gfm_neighbours, gfm_has_way, gfm_lay_way, gfm_lift_way, gfm_like, gfm_liking, gfm_shun, gfm_shunned, gfm_see_road, gfm_wish, gfm_wishes, gfm_rank_of, gp_houses, gp_ties, gp_shy, gp_fond, gp_longings]
  refine ⟨A, s, m, x, y, rfl, g, fun h => ?_, fun h => wish_of (q1 h)⟩
  have h1 := h.1
  have h2 := h.2.1
  have hs : sizeLine = 2 ^ 24 := rfl
  have n2 := g.n2
  simp only [g.g, g.t, onIns, gf_houses, gf_ties, gf_shy, gf_fond, gf_longings, gfm_see_house, gfm_see_two, gfm_size, gfm_neighbours, gfm_has_way, gfm_lay_way, gfm_lift_way, gfm_like, gfm_liking, gfm_shun, gfm_shunned, gfm_see_road, gfm_wish, gfm_wishes, gfm_rank_of, gp_houses, gp_ties, gp_shy, gp_fond, gp_longings, dSeq, dIfS, dB, dOp, dVar, dCB, dCons, dNil, dRet, dRetN, dNext, dC, dAsg, dgN, dgT, dgSeq, dDrop, dCont, dAndT, dOrT, dNotT, dAndV, dOrV, dNotV, dIf, dIsN, dNotN, dNeg, dLst, dTup, dNewI, dCall, dMeth, dMake, dRaise, dFrz, dIsi, isiK, tyS, inst_NoneType_bool, inst_NoneType_int, inst_NoneType_str, inst_NoneType_list, inst_NoneType_tuple, inst_bool_bool, inst_bool_int, inst_bool_str, inst_bool_list, inst_bool_tuple, inst_int_bool, inst_int_int, inst_int_str, inst_int_list, inst_int_tuple, inst_str_bool, inst_str_int, inst_str_str, inst_str_list, inst_str_tuple, inst_list_bool, inst_list_int, inst_list_str, inst_list_list, inst_list_tuple, inst_tuple_bool, inst_tuple_int, inst_tuple_str, inst_tuple_list, inst_tuple_tuple, iiD, iiD0, subD, mulD, fdivD, modD, shrD, pow_10_6, pow_10_60, ltI, leI, gtI, geI, addI, addD, catD, scatD, lenD, lenS, ixD, ixL, ixLK, ixK, vl, vm, newL, i2D, absD, tupleD, dLM, dLM0, dFld, getF, dGet1, dGet2, getK, dSetIx, rng1, rng2, dFor1, dFor2, dFor, dForK, eqR, rs, dstart, List.map_cons, List.map_nil, List.length_cons, List.length_nil, List.cons_append, List.nil_append, List.replicate, List.getElem?_cons_zero, List.getElem?_cons_succ, List.set_cons_zero, List.set_cons_succ, Option.isSome_some, Option.isNone_some, Option.isNone_none, Nat.add_one_sub_one, Nat.reduceAdd, Nat.reduceSub, Nat.sub_self, Nat.sub_zero, Bool.not_true, Bool.not_false, ↓reduceIte, Bool.false_eq_true, Bool.true_eq_false, okD_int, okD_bl, okD_non, dEq_int, dEq_bl, Bool.true_xor, Bool.false_xor, Bool.not_eq_true', decide_eq_true_eq, decide_eq_false_iff_not, true_and, Bool.and_true, Bool.and_false, Bool.true_and, Bool.false_and, at_0, at_1, at_2, cast0, cast1, cast2, cast3, not_true_eq_false, not_false_eq_true, eL, Option.map_some, Option.map_none, dSlL, slk, doNone, doSome, sortedTD, dLenSet, lsk, nbs_at h1.1 h1.2, inR, inL, any_int, mem_nb h2]
  refine ⟨okD_R _, ?_⟩
  cases c : s.T x y with
  | true => rw [if_pos rfl]; exact wish_of (q2 h c)
  | false =>
    obtain ⟨hyx, q3⟩ := q3 h c
    simp only [g.g, g.t, onIns, gf_houses, gf_ties, gf_shy, gf_fond, gf_longings, gfm_see_house, gfm_see_two, gfm_size, gfm_neighbours, gfm_has_way, gfm_lay_way, gfm_lift_way, gfm_like, gfm_liking, gfm_shun, gfm_shunned, gfm_see_road, gfm_wish, gfm_wishes, gfm_rank_of, gp_houses, gp_ties, gp_shy, gp_fond, gp_longings, dSeq, dIfS, dB, dOp, dVar, dCB, dCons, dNil, dRet, dRetN, dNext, dC, dAsg, dgN, dgT, dgSeq, dDrop, dCont, dAndT, dOrT, dNotT, dAndV, dOrV, dNotV, dIf, dIsN, dNotN, dNeg, dLst, dTup, dNewI, dCall, dMeth, dMake, dRaise, dFrz, dIsi, isiK, tyS, inst_NoneType_bool, inst_NoneType_int, inst_NoneType_str, inst_NoneType_list, inst_NoneType_tuple, inst_bool_bool, inst_bool_int, inst_bool_str, inst_bool_list, inst_bool_tuple, inst_int_bool, inst_int_int, inst_int_str, inst_int_list, inst_int_tuple, inst_str_bool, inst_str_int, inst_str_str, inst_str_list, inst_str_tuple, inst_list_bool, inst_list_int, inst_list_str, inst_list_list, inst_list_tuple, inst_tuple_bool, inst_tuple_int, inst_tuple_str, inst_tuple_list, inst_tuple_tuple, iiD, iiD0, subD, mulD, fdivD, modD, shrD, pow_10_6, pow_10_60, ltI, leI, gtI, geI, addI, addD, catD, scatD, lenD, lenS, ixD, ixL, ixLK, ixK, vl, vm, newL, i2D, absD, tupleD, dLM, dLM0, dFld, getF, dGet1, dGet2, getK, dSetIx, rng1, rng2, dFor1, dFor2, dFor, dForK, eqR, rs, dstart, List.map_cons, List.map_nil, List.length_cons, List.length_nil, List.cons_append, List.nil_append, List.replicate, List.getElem?_cons_zero, List.getElem?_cons_succ, List.set_cons_zero, List.set_cons_succ, Option.isSome_some, Option.isNone_some, Option.isNone_none, Nat.add_one_sub_one, Nat.reduceAdd, Nat.reduceSub, Nat.sub_self, Nat.sub_zero, Bool.not_true, Bool.not_false, ↓reduceIte, Bool.false_eq_true, Bool.true_eq_false, okD_int, okD_bl, okD_non, dEq_int, dEq_bl, Bool.true_xor, Bool.false_xor, Bool.not_eq_true', decide_eq_true_eq, decide_eq_false_iff_not, true_and, Bool.and_true, Bool.and_false, Bool.true_and, Bool.false_and, at_0, at_1, at_2, cast0, cast1, cast2, cast3, not_true_eq_false, not_false_eq_true, eL, Option.map_some, Option.map_none, dSlL, slk, doNone, doSome, sortedTD, dLenSet, lsk, nbs_at h1.1 h1.2, sorted_snoc]
    have l1 := nb_len s.n s.T x
    refine ⟨by omega, by rw [List.length_map]; omega, setD_at g.t h1.1 (by rw [List.length_map, nbs_len]; exact h1.2) ?_⟩
    have e1 : ((nbs s.n s.T).map eR).set x.toNat (.lst ((sortI (nb s.n s.T x ++ [y])).map .int)) = (nbs s.n (relPut s.T x y)).map eR := by
      rw [show D.lst ((sortI (nb s.n s.T x ++ [y])).map .int) = eR (sortI (nb s.n s.T x ++ [y])) from rfl, map_set', nbs_set h1.1 (nb_put h2.1 h2.2 c (R' := relPut s.T x y) fun z _ _ => by simp [relPut]) fun u v hu => by simp [relPut, hu]]
    rw [e1]
    have g' := g.setT (relPut s.T x y)
    have hne : ¬ y = x := fun z => h.2.2 z.symm
    have hyx' : relPut s.T x y y x = false := by simp [relPut, hyx, hne]
    have at2 := nbs_at (n := s.n) (R := relPut s.T x y) h2.1 h2.2
    simp only [g'.g, g'.t, onIns, gf_houses, gf_ties, gf_shy, gf_fond, gf_longings, gfm_see_house, gfm_see_two, gfm_size, gfm_neighbours, gfm_has_way, gfm_lay_way, gfm_lift_way, gfm_like, gfm_liking, gfm_shun, gfm_shunned, gfm_see_road, gfm_wish, gfm_wishes, gfm_rank_of, gp_houses, gp_ties, gp_shy, gp_fond, gp_longings, dSeq, dIfS, dB, dOp, dVar, dCB, dCons, dNil, dRet, dRetN, dNext, dC, dAsg, dgN, dgT, dgSeq, dDrop, dCont, dAndT, dOrT, dNotT, dAndV, dOrV, dNotV, dIf, dIsN, dNotN, dNeg, dLst, dTup, dNewI, dCall, dMeth, dMake, dRaise, dFrz, dIsi, isiK, tyS, inst_NoneType_bool, inst_NoneType_int, inst_NoneType_str, inst_NoneType_list, inst_NoneType_tuple, inst_bool_bool, inst_bool_int, inst_bool_str, inst_bool_list, inst_bool_tuple, inst_int_bool, inst_int_int, inst_int_str, inst_int_list, inst_int_tuple, inst_str_bool, inst_str_int, inst_str_str, inst_str_list, inst_str_tuple, inst_list_bool, inst_list_int, inst_list_str, inst_list_list, inst_list_tuple, inst_tuple_bool, inst_tuple_int, inst_tuple_str, inst_tuple_list, inst_tuple_tuple, iiD, iiD0, subD, mulD, fdivD, modD, shrD, pow_10_6, pow_10_60, ltI, leI, gtI, geI, addI, addD, catD, scatD, lenD, lenS, ixD, ixL, ixLK, ixK, vl, vm, newL, i2D, absD, tupleD, dLM, dLM0, dFld, getF, dGet1, dGet2, getK, dSetIx, rng1, rng2, dFor1, dFor2, dFor, dForK, eqR, rs, dstart, List.map_cons, List.map_nil, List.length_cons, List.length_nil, List.cons_append, List.nil_append, List.replicate, List.getElem?_cons_zero, List.getElem?_cons_succ, List.set_cons_zero, List.set_cons_succ, Option.isSome_some, Option.isNone_some, Option.isNone_none, Nat.add_one_sub_one, Nat.reduceAdd, Nat.reduceSub, Nat.sub_self, Nat.sub_zero, Bool.not_true, Bool.not_false, ↓reduceIte, Bool.false_eq_true, Bool.true_eq_false, okD_int, okD_bl, okD_non, dEq_int, dEq_bl, Bool.true_xor, Bool.false_xor, Bool.not_eq_true', decide_eq_true_eq, decide_eq_false_iff_not, true_and, Bool.and_true, Bool.and_false, Bool.true_and, Bool.false_and, at_0, at_1, at_2, cast0, cast1, cast2, cast3, not_true_eq_false, not_false_eq_true, eL, Option.map_some, Option.map_none, dSlL, slk, doNone, doSome, sortedTD, dLenSet, lsk, at2, sorted_snoc]
    have l2 := nb_len s.n (relPut s.T x y) y
    refine ⟨by omega, by rw [List.length_map]; omega, setD_at g'.t h2.1 (by rw [List.length_map, nbs_len]; exact h2.2) ?_⟩
    have e2 : ((nbs s.n (relPut s.T x y)).map eR).set y.toNat (.lst ((sortI (nb s.n (relPut s.T x y) y ++ [x])).map .int)) = (nbs s.n (s.lay x y).T).map eR := by
      rw [show D.lst ((sortI (nb s.n (relPut s.T x y) y ++ [x])).map .int) = eR (sortI (nb s.n (relPut s.T x y) y ++ [x])) from rfl, map_set', nbs_set h2.1 (nb_put h1.1 h1.2 hyx' (R' := (s.lay x y).T) fun z _ _ => by simp [relPut, GS.lay]) fun u v hu => by simp [relPut, GS.lay, hu]]
    have g2 := g'.setT (s.lay x y).T
    dsimp only at g2 ⊢
    rw [e2]
    refine nx_of (q3 _ g2 fun b hb => ?_)
    rw [su_out mem_all_t b hb, su_out mem_all_t b hb]

end DL
namespace DL
open PySem L2
def t_Guild_wish (K : PySem.W.Frag) (a : CA) (W : WD) : TDS :=
  (dSeq (dDrop (dMeth a.Guild "see_road" (sp_Guild_see_road a) W (dVar 0) (dCons (dVar 1) dNil)))
  (dSetIx (dFld a.Guild "longings" (dVar 0)) (dCB tupleD (dCons (dVar 1) dNil)) (dVar 2)))
abbrev N_Guild_wish : List Str := ["self", "road", "rank"]
def sp_Guild_wish (a : CA) : DSp := fun ds S P E => ∃ (A : GA) (s : GS) (m : Nat) (r : D) (l : List Int) (k : Int), ds = [.ref A.g, r, .int k] ∧ GAt a S A s m ∧ vm S r = some (l.map .int) ∧ l.length ≤ 4000 ∧ m < 1000000 ∧
  (¬ (∀ x ∈ l, s.ok x) → E a.NoHouse S) ∧ ((∀ x ∈ l, s.ok x) → ¬ s.rd l → E a.NoRoad S) ∧ (s.rok l → ∀ S', GAt a S' A (s.wish l k) (m + 1) → (∀ b, b ∉ A.all → S' b = S b) → P .non S')
theorem len_Guild_wish (a : CA) (ds : List D) (S : Sto) (Q : D → Sto → Prop) (E : Addr → Sto → Prop) (h : sp_Guild_wish a ds S Q E) : ds.length = ["self", "road", "rank"].length := by
  obtain ⟨_, _, _, _, _, _, rfl, _⟩ := h; rfl
theorem read_Guild_wish (K : PySem.W.Frag) (a : CA) (ds : List D) (S : Sto) (Q : D → Sto → Prop) (E : Addr → Sto → Prop) (h : sp_Guild_wish a ds S Q E) : t_Guild_wish K a (wishOf E) (endsOf Q) (dstart N_Guild_wish ds) S := by
  obtain ⟨A, s, m, r, l, k, rfl, g, hr, hl, hm, q1, q2, q3⟩ := h
  have hs : sizeLine = 2 ^ 24 := rfl
  have main : s.rok l → ∀ x, vm S x = some (l.map .int) → setD (.ref A.l) (.tup (l.map .int)) (.int k) S fun S' => (endsOf Q).nx [some (.ref A.g), some x, some (.int k)] S' := fun h x hx => by
    refine setD_key g.l (by rw [List.length_map]; have := g.ll; omega) (nx_of (q3 h _ ?_ (su_out mem_all_l)))
    rw [dput_kv]
    exact g.setL (Nat.le_trans (kput_len _ _ _) (Nat.succ_le_succ g.ll))
  rcases vm_cases hr with rfl | ⟨p, rfl, er⟩
  all_goals
    simp only [t_Guild_wish, N_Guild_wish, dSeq, dIfS, dB, dOp, dVar, dCB, dCons, dNil, dRet, dRetN, dNext, dC, dAsg, dgN, dgT, dgSeq, dDrop, dCont, dAndT, dOrT, dNotT, dAndV, dOrV, dNotV, dIf, dIsN, dNotN, dNeg, dLst, dTup, dNewI, dCall, dMeth, dMake, dRaise, dFrz, dIsi, isiK, tyS, inst_NoneType_bool, inst_NoneType_int, inst_NoneType_str, inst_NoneType_list, inst_NoneType_tuple, inst_bool_bool, inst_bool_int, inst_bool_str, inst_bool_list, inst_bool_tuple, inst_int_bool, inst_int_int, inst_int_str, inst_int_list, inst_int_tuple, inst_str_bool, inst_str_int, inst_str_str, inst_str_list, inst_str_tuple, inst_list_bool, inst_list_int, inst_list_str, inst_list_list, inst_list_tuple, inst_tuple_bool, inst_tuple_int, inst_tuple_str, inst_tuple_list, inst_tuple_tuple, iiD, iiD0, subD, mulD, fdivD, modD, shrD, pow_10_6, pow_10_60, ltI, leI, gtI, geI, addI, addD, catD, scatD, lenD, lenS, ixD, ixL, ixLK, ixK, vl, vm, newL, i2D, absD, tupleD, dLM, dLM0, dFld, getF, dGet1, dGet2, getK, dSetIx, rng1, rng2, dFor1, dFor2, dFor, dForK, eqR, rs, dstart, List.map_cons, List.map_nil, List.length_cons, List.length_nil, List.cons_append, List.nil_append, List.replicate, List.getElem?_cons_zero, List.getElem?_cons_succ, List.set_cons_zero, List.set_cons_succ, Option.isSome_some, Option.isNone_some, Option.isNone_none, Nat.add_one_sub_one, Nat.reduceAdd, Nat.reduceSub, Nat.sub_self, Nat.sub_zero, Bool.not_true, Bool.not_false, ↓reduceIte, Bool.false_eq_true, Bool.true_eq_false, okD_int, okD_bl, okD_non, dEq_int, dEq_bl, Bool.true_xor, Bool.false_xor, Bool.not_eq_true', decide_eq_true_eq, decide_eq_false_iff_not, true_and, Bool.and_true, Bool.and_false, Bool.true_and, Bool.false_and, at_0, at_1, at_2, cast0, cast1, cast2, cast3, not_true_eq_false, not_false_eq_true, eL, Option.map_some, Option.map_none, dSlL, slk, doNone, doSome, sortedTD, dLenSet, lsk, g.g, onIns, gf_houses, gf_ties, gf_shy, gf_fond, gf_longings, gfm_see_house, gfm_see_two, gfm_size, gfm_neighbours, gfm_has_way, gfm_lay_way, gfm_lift_way, gfm_like, gfm_liking, gfm_shun, gfm_shunned, gfm_see_road, gfm_wish, gfm_wishes, gfm_rank_of, gp_houses, gp_ties, gp_shy, gp_fond, gp_longings]
    refine ⟨A, s, m, _, l, rfl, g, hr, hl, fun h => wish_of (q1 h), fun h h' => wish_of (q2 h h'), fun h => ?_⟩
    first | simp only [g.g, onIns, gf_houses, gf_ties, gf_shy, gf_fond, gf_longings, gfm_see_house, gfm_see_two, gfm_size, gfm_neighbours, gfm_has_way, gfm_lay_way, gfm_lift_way, gfm_like, gfm_liking, gfm_shun, gfm_shunned, gfm_see_road, gfm_wish, gfm_wishes, gfm_rank_of, gp_houses, gp_ties, gp_shy, gp_fond, gp_longings, dSeq, dIfS, dB, dOp, dVar, dCB, dCons, dNil, dRet, dRetN, dNext, dC, dAsg, dgN, dgT, dgSeq, dDrop, dCont, dAndT, dOrT, dNotT, dAndV, dOrV, dNotV, dIf, dIsN, dNotN, dNeg, dLst, dTup, dNewI, dCall, dMeth, dMake, dRaise, dFrz, dIsi, isiK, tyS, inst_NoneType_bool, inst_NoneType_int, inst_NoneType_str, inst_NoneType_list, inst_NoneType_tuple, inst_bool_bool, inst_bool_int, inst_bool_str, inst_bool_list, inst_bool_tuple, inst_int_bool, inst_int_int, inst_int_str, inst_int_list, inst_int_tuple, inst_str_bool, inst_str_int, inst_str_str, inst_str_list, inst_str_tuple, inst_list_bool, inst_list_int, inst_list_str, inst_list_list, inst_list_tuple, inst_tuple_bool, inst_tuple_int, inst_tuple_str, inst_tuple_list, inst_tuple_tuple, iiD, iiD0, subD, mulD, fdivD, modD, shrD, pow_10_6, pow_10_60, ltI, leI, gtI, geI, addI, addD, catD, scatD, lenD, lenS, ixD, ixL, ixLK, ixK, vl, vm, newL, i2D, absD, tupleD, dLM, dLM0, dFld, getF, dGet1, dGet2, getK, dSetIx, rng1, rng2, dFor1, dFor2, dFor, dForK, eqR, rs, dstart, List.map_cons, List.map_nil, List.length_cons, List.length_nil, List.cons_append, List.nil_append, List.replicate, List.getElem?_cons_zero, List.getElem?_cons_succ, List.set_cons_zero, List.set_cons_succ, Option.isSome_some, Option.isNone_some, Option.isNone_none, Nat.add_one_sub_one, Nat.reduceAdd, Nat.reduceSub, Nat.sub_self, Nat.sub_zero, Bool.not_true, Bool.not_false, ↓reduceIte, Bool.false_eq_true, Bool.true_eq_false, okD_int, okD_bl, okD_non, dEq_int, dEq_bl, Bool.true_xor, Bool.false_xor, Bool.not_eq_true', decide_eq_true_eq, decide_eq_false_iff_not, true_and, Bool.and_true, Bool.and_false, Bool.true_and, Bool.false_and, at_0, at_1, at_2, cast0, cast1, cast2, cast3, not_true_eq_false, not_false_eq_true, eL, Option.map_some, Option.map_none, dSlL, slk, doNone, doSome, sortedTD, dLenSet, lsk, er] | simp only [g.g, onIns, gf_houses, gf_ties, gf_shy, gf_fond, gf_longings, gfm_see_house, gfm_see_two, gfm_size, gfm_neighbours, gfm_has_way, gfm_lay_way, gfm_lift_way, gfm_like, gfm_liking, gfm_shun, gfm_shunned, gfm_see_road, gfm_wish, gfm_wishes, gfm_rank_of, gp_houses, gp_ties, gp_shy, gp_fond, gp_longings, dSeq, dIfS, dB, dOp, dVar, dCB, dCons, dNil, dRet, dRetN, dNext, dC, dAsg, dgN, dgT, dgSeq, dDrop, dCont, dAndT, dOrT, dNotT, dAndV, dOrV, dNotV, dIf, dIsN, dNotN, dNeg, dLst, dTup, dNewI, dCall, dMeth, dMake, dRaise, dFrz, dIsi, isiK, tyS, inst_NoneType_bool, inst_NoneType_int, inst_NoneType_str, inst_NoneType_list, inst_NoneType_tuple, inst_bool_bool, inst_bool_int, inst_bool_str, inst_bool_list, inst_bool_tuple, inst_int_bool, inst_int_int, inst_int_str, inst_int_list, inst_int_tuple, inst_str_bool, inst_str_int, inst_str_str, inst_str_list, inst_str_tuple, inst_list_bool, inst_list_int, inst_list_str, inst_list_list, inst_list_tuple, inst_tuple_bool, inst_tuple_int, inst_tuple_str, inst_tuple_list, inst_tuple_tuple, iiD, iiD0, subD, mulD, fdivD, modD, shrD, pow_10_6, pow_10_60, ltI, leI, gtI, geI, addI, addD, catD, scatD, lenD, lenS, ixD, ixL, ixLK, ixK, vl, vm, newL, i2D, absD, tupleD, dLM, dLM0, dFld, getF, dGet1, dGet2, getK, dSetIx, rng1, rng2, dFor1, dFor2, dFor, dForK, eqR, rs, dstart, List.map_cons, List.map_nil, List.length_cons, List.length_nil, List.cons_append, List.nil_append, List.replicate, List.getElem?_cons_zero, List.getElem?_cons_succ, List.set_cons_zero, List.set_cons_succ, Option.isSome_some, Option.isNone_some, Option.isNone_none, Nat.add_one_sub_one, Nat.reduceAdd, Nat.reduceSub, Nat.sub_self, Nat.sub_zero, Bool.not_true, Bool.not_false, ↓reduceIte, Bool.false_eq_true, Bool.true_eq_false, okD_int, okD_bl, okD_non, dEq_int, dEq_bl, Bool.true_xor, Bool.false_xor, Bool.not_eq_true', decide_eq_true_eq, decide_eq_false_iff_not, true_and, Bool.and_true, Bool.and_false, Bool.true_and, Bool.false_and, at_0, at_1, at_2, cast0, cast1, cast2, cast3, not_true_eq_false, not_false_eq_true, eL, Option.map_some, Option.map_none, dSlL, slk, doNone, doSome, sortedTD, dLenSet, lsk]
    exact main h _ hr

end DL
namespace DL
open PySem L2
def t_law_cell_at (K : PySem.W.Frag) (a : CA) (W : WD) : TDS :=
  (dSeq (dIfS (dB (dOp ltI (dVar 1) (dCB lenD (dCons (dVar 0) dNil))))
    (dRet (dOp ixD (dVar 0) (dVar 1)))
    dNext)
  (dRet (dC (.int 0))))
abbrev N_law_cell_at : List Str := ["script", "k"]
def cellAt (ns : List Int) (k : Int) : Int := ns.getD k.toNat 0
def sp_law_cell_at (a : CA) : DSp := fun ds S P E => ∃ ns k, ds = [.scr ns, .int k] ∧ 0 ≤ k ∧ P (.int (cellAt ns k)) S
theorem len_law_cell_at (a : CA) (ds : List D) (S : Sto) (Q : D → Sto → Prop) (E : Addr → Sto → Prop) (h : sp_law_cell_at a ds S Q E) : ds.length = ["script", "k"].length := by
  obtain ⟨ns, k, rfl, _⟩ := h; rfl
theorem read_law_cell_at (K : PySem.W.Frag) (a : CA) (ds : List D) (S : Sto) (Q : D → Sto → Prop) (E : Addr → Sto → Prop) (h : sp_law_cell_at a ds S Q E) : t_law_cell_at K a (wishOf E) (endsOf Q) (dstart N_law_cell_at ds) S := by
  obtain ⟨ns, k, rfl, hk, q⟩ := h
  simp only [t_law_cell_at, N_law_cell_at, dSeq, dIfS, dB, dOp, dVar, dCB, dCons, dNil, dRet, dRetN, dNext, dC, dAsg, dgN, dgT, dgSeq, dDrop, dCont, dAndT, dOrT, dNotT, dAndV, dOrV, dNotV, dIf, dIsN, dNotN, dNeg, dLst, dTup, dNewI, dCall, dMeth, dMake, dRaise, dFrz, dIsi, isiK, tyS, inst_NoneType_bool, inst_NoneType_int, inst_NoneType_str, inst_NoneType_list, inst_NoneType_tuple, inst_bool_bool, inst_bool_int, inst_bool_str, inst_bool_list, inst_bool_tuple, inst_int_bool, inst_int_int, inst_int_str, inst_int_list, inst_int_tuple, inst_str_bool, inst_str_int, inst_str_str, inst_str_list, inst_str_tuple, inst_list_bool, inst_list_int, inst_list_str, inst_list_list, inst_list_tuple, inst_tuple_bool, inst_tuple_int, inst_tuple_str, inst_tuple_list, inst_tuple_tuple, iiD, iiD0, subD, mulD, fdivD, modD, shrD, pow_10_6, pow_10_60, ltI, leI, gtI, geI, addI, addD, catD, scatD, lenD, lenS, ixD, ixL, ixLK, ixK, vl, vm, newL, i2D, absD, tupleD, dLM, dLM0, dFld, getF, dGet1, dGet2, getK, dSetIx, rng1, rng2, dFor1, dFor2, dFor, dForK, eqR, rs, dstart, List.map_cons, List.map_nil, List.length_cons, List.length_nil, List.cons_append, List.nil_append, List.replicate, List.getElem?_cons_zero, List.getElem?_cons_succ, List.set_cons_zero, List.set_cons_succ, Option.isSome_some, Option.isNone_some, Option.isNone_none, Nat.add_one_sub_one, Nat.reduceAdd, Nat.reduceSub, Nat.sub_self, Nat.sub_zero, Bool.not_true, Bool.not_false, ↓reduceIte, Bool.false_eq_true, Bool.true_eq_false, okD_int, okD_bl, okD_non, dEq_int, dEq_bl, Bool.true_xor, Bool.false_xor, Bool.not_eq_true', decide_eq_true_eq, decide_eq_false_iff_not, true_and, Bool.and_true, Bool.and_false, Bool.true_and, Bool.false_and, at_0, at_1, at_2, cast0, cast1, cast2, cast3, not_true_eq_false, not_false_eq_true, eL, Option.map_some, Option.map_none, dSlL, slk, doNone, doSome, sortedTD, dLenSet, lsk, endsOf]
  by_cases c : k < ns.length
  · rw [if_pos (by simpa using c), atI_map, atI_pos hk c]
    refine ⟨S, SLe.refl S, ?_⟩
    unfold cellAt at q
    rw [List.getD_eq_getElem?_getD, List.getElem?_eq_getElem (by omega)] at q
    exact q
  · rw [if_neg (by simpa using c)]
    refine ⟨S, SLe.refl S, ?_⟩
    unfold cellAt at q
    rw [List.getD_eq_getElem?_getD, List.getElem?_eq_none (by omega)] at q
    exact q
theorem x_law_cell_at {a : CA} {ns : List Int} {k : Int} {S : Sto} {P : D → Sto → Prop} {E : Addr → Sto → Prop} (h : 0 ≤ k) : sp_law_cell_at a [.scr ns, .int k] S P E = P (.int (cellAt ns k)) S := by
  refine propext ⟨fun ⟨ns', k', e, _, q⟩ => ?_, fun q => ⟨ns, k, rfl, h, q⟩⟩
  injection e with e1 e2; injection e1 with e1; injection e2 with e2 e3; injection e2 with e2
  rw [e1, e2]; exact q

end DL
namespace DL
open PySem L2
def t_law_whole (K : PySem.W.Frag) (a : CA) (W : WD) : TDS :=
  (dRet (dAndV (dIsi "int" (dVar 0)) (dNotV (dIsi "bool" (dVar 0)))))
abbrev N_law_whole : List Str := ["found"]
def sp_law_whole (a : CA) : DSp := fun ds S P E => ∃ d T, ds = [d] ∧ tyS S d = some T ∧ P (.bl (instB T "int" && !instB T "bool")) S
theorem len_law_whole (a : CA) (ds : List D) (S : Sto) (Q : D → Sto → Prop) (E : Addr → Sto → Prop) (h : sp_law_whole a ds S Q E) : ds.length = ["found"].length := by
  obtain ⟨d, T, rfl, _⟩ := h; rfl
theorem read_law_whole (K : PySem.W.Frag) (a : CA) (ds : List D) (S : Sto) (Q : D → Sto → Prop) (E : Addr → Sto → Prop) (h : sp_law_whole a ds S Q E) : t_law_whole K a (wishOf E) (endsOf Q) (dstart N_law_whole ds) S := by
  obtain ⟨d, T, rfl, hT, q⟩ := h
  simp only [t_law_whole, N_law_whole, dSeq, dIfS, dB, dOp, dVar, dCB, dCons, dNil, dRet, dAndV, dNotV, dIsi, isiK, hT, dstart, endsOf, List.map_cons, List.map_nil, List.length_cons, List.length_nil, List.cons_append, List.nil_append, List.getElem?_cons_zero]
  by_cases c : instB T "int" = true
  · rw [if_pos c]
    rw [c, Bool.true_and] at q
    exact ⟨S, SLe.refl S, q⟩
  · rw [if_neg c]
    rw [Bool.eq_false_iff.mpr c, Bool.false_and] at q
    exact ⟨S, SLe.refl S, q⟩
theorem whole_go {a : CA} {W : WD} {still : Sto → Prop} {E : DEnds} {S : Sto} {k : Nat} (hs : still S) : ∀ (l : List Int) (ρ : Env'), k < ρ.length → (∀ ρ', (ρ' = ρ ∨ ∃ i, ρ' = ρ.set k (some (.int i))) → E.nx ρ' S) →
    dGo still (dgN k) (dIfS (dNotT (dB (dCall (sp_law_whole a) W (dCons (dVar k) dNil)))) (dRet (dC (D.bl false))) dNext) E (l.map .int) ρ S
  | [], ρ, _, h => ⟨hs, h ρ (.inl rfl)⟩
  | i :: l, ρ, hk, h => by
    refine ⟨hs, ?_⟩
    have e : (ρ.set k (some (D.int i)))[k]? = some (some (.int i)) := by rw [List.getElem?_set_self hk]
    simp only [dgN, dIfS, dNotT, dB, dCall, dCons, dVar, dNil, dNext, e]
    refine ⟨.int i, "int", rfl, rfl, ?_⟩
    simp only [inst_int_int, inst_int_bool, Bool.not_false, Bool.and_self, Bool.not_true, Bool.false_eq_true, ↓reduceIte]
    refine whole_go hs l _ (by rw [List.length_set]; exact hk) fun ρ' hρ => h ρ' ?_
    rcases hρ with rfl | ⟨j, rfl⟩
    · exact .inr ⟨i, rfl⟩
    · exact .inr ⟨j, by rw [List.set_set]⟩
theorem x_law_whole {a : CA} {i : Int} {S : Sto} {P : D → Sto → Prop} {E : Addr → Sto → Prop} (h : P (.bl true) S) : sp_law_whole a [.int i] S P E := ⟨.int i, "int", rfl, rfl, h⟩

end DL
namespace DL
open PySem L2
def t_law_same_road (K : PySem.W.Frag) (a : CA) (W : WD) : TDS :=
  (dSeq (dIfS (dB (dIsN (dVar 1)))
    (dRet (dIsN (dVar 0)))
    dNext)
  (dSeq (dIfS (dOrT (dNotT (dB (dIsi "list" (dVar 0)))) (dB (dOp (eqR true) (dCB lenD (dCons (dVar 0) dNil)) (dCB lenD (dCons (dVar 1) dNil)))))
    (dRet (dC (.bl false)))
    dNext)
  (dSeq (dFor (dVar 0) (dgN 2)
    (dIfS (dNotT (dB (dCall (sp_law_whole a) W (dCons (dVar 2) dNil))))
      (dRet (dC (.bl false)))
      dNext))
  (dRet (dOp (eqR false) (dVar 0) (dVar 1))))))
abbrev N_law_same_road : List Str := ["found", "due", "house"]
def sp_law_same_road (a : CA) : DSp := fun ds S P E => ∃ x y r r', ds = [x, y] ∧ RdAt S x r ∧ RdAt S y r' ∧ P (.bl (decide (r = r'))) S
theorem len_law_same_road (a : CA) (ds : List D) (S : Sto) (Q : D → Sto → Prop) (E : Addr → Sto → Prop) (h : sp_law_same_road a ds S Q E) : ds.length = ["found", "due"].length := by
  obtain ⟨x, y, r, r', rfl, _⟩ := h; rfl
theorem same_road_go {a : CA} {W : WD} {still : Sto → Prop} {E : DEnds} {S : Sto} (hs : still S) (x y : D) : ∀ (l : List Int) (o : Option D), (∀ o, E.nx [some x, some y, o] S) → 
    dGo still (dgN 2) (dIfS (dNotT (dB (dCall (sp_law_whole a) W (dCons (dVar 2) dNil)))) (dRet (dC (D.bl false))) dNext) E (l.map .int) [some x, some y, o] S
  | [], o, h => ⟨hs, h o⟩
  | i :: l, o, h => by
    refine ⟨hs, ?_⟩
    simp only [dSeq, dIfS, dB, dOp, dVar, dCB, dCons, dNil, dRet, dRetN, dNext, dC, dAsg, dgN, dgT, dgSeq, dDrop, dCont, dAndT, dOrT, dNotT, dAndV, dOrV, dNotV, dIf, dIsN, dNotN, dNeg, dLst, dTup, dNewI, dCall, dMeth, dMake, dRaise, dFrz, dIsi, isiK, tyS, inst_NoneType_bool, inst_NoneType_int, inst_NoneType_str, inst_NoneType_list, inst_NoneType_tuple, inst_bool_bool, inst_bool_int, inst_bool_str, inst_bool_list, inst_bool_tuple, inst_int_bool, inst_int_int, inst_int_str, inst_int_list, inst_int_tuple, inst_str_bool, inst_str_int, inst_str_str, inst_str_list, inst_str_tuple, inst_list_bool, inst_list_int, inst_list_str, inst_list_list, inst_list_tuple, inst_tuple_bool, inst_tuple_int, inst_tuple_str, inst_tuple_list, inst_tuple_tuple, iiD, iiD0, subD, mulD, fdivD, modD, shrD, pow_10_6, pow_10_60, ltI, leI, gtI, geI, addI, addD, catD, scatD, lenD, lenS, ixD, ixL, ixLK, ixK, vl, vm, newL, i2D, absD, tupleD, dLM, dLM0, dFld, getF, dGet1, dGet2, getK, dSetIx, rng1, rng2, dFor1, dFor2, dFor, dForK, eqR, rs, dstart, List.map_cons, List.map_nil, List.length_cons, List.length_nil, List.cons_append, List.nil_append, List.replicate, List.getElem?_cons_zero, List.getElem?_cons_succ, List.set_cons_zero, List.set_cons_succ, Option.isSome_some, Option.isNone_some, Option.isNone_none, Nat.add_one_sub_one, Nat.reduceAdd, Nat.reduceSub, Nat.sub_self, Nat.sub_zero, Bool.not_true, Bool.not_false, ↓reduceIte, Bool.false_eq_true, Bool.true_eq_false, okD_int, okD_bl, okD_non, dEq_int, dEq_bl, Bool.true_xor, Bool.false_xor, Bool.not_eq_true', decide_eq_true_eq, decide_eq_false_iff_not, true_and, Bool.and_true, Bool.and_false, Bool.true_and, Bool.false_and, at_0, at_1, at_2, cast0, cast1, cast2, cast3, not_true_eq_false, not_false_eq_true, eL, Option.map_some, Option.map_none, dSlL, slk, doNone, doSome, sortedTD, dLenSet, lsk]
    exact ⟨.int i, "int", rfl, rfl, same_road_go hs x y l (some (.int i)) h⟩
theorem read_law_same_road (K : PySem.W.Frag) (a : CA) (ds : List D) (S : Sto) (Q : D → Sto → Prop) (E : Addr → Sto → Prop) (h : sp_law_same_road a ds S Q E) : t_law_same_road K a (wishOf E) (endsOf Q) (dstart N_law_same_road ds) S := by
  obtain ⟨x, y, r, r', rfl, hx, hy, q⟩ := h
  rcases rdAt_cases hy with ⟨rfl, rfl⟩ | ⟨l', rfl, rfl⟩ | ⟨p', l', rfl, ey, rfl⟩ <;> rcases rdAt_cases hx with ⟨rfl, rfl⟩ | ⟨l, rfl, rfl⟩ | ⟨p, l, rfl, ex, rfl⟩
  all_goals simp only [t_law_same_road, N_law_same_road, dSeq, dIfS, dB, dOp, dVar, dCB, dCons, dNil, dRet, dRetN, dNext, dC, dAsg, dgN, dgT, dgSeq, dDrop, dCont, dAndT, dOrT, dNotT, dAndV, dOrV, dNotV, dIf, dIsN, dNotN, dNeg, dLst, dTup, dNewI, dCall, dMeth, dMake, dRaise, dFrz, dIsi, isiK, tyS, inst_NoneType_bool, inst_NoneType_int, inst_NoneType_str, inst_NoneType_list, inst_NoneType_tuple, inst_bool_bool, inst_bool_int, inst_bool_str, inst_bool_list, inst_bool_tuple, inst_int_bool, inst_int_int, inst_int_str, inst_int_list, inst_int_tuple, inst_str_bool, inst_str_int, inst_str_str, inst_str_list, inst_str_tuple, inst_list_bool, inst_list_int, inst_list_str, inst_list_list, inst_list_tuple, inst_tuple_bool, inst_tuple_int, inst_tuple_str, inst_tuple_list, inst_tuple_tuple, iiD, iiD0, subD, mulD, fdivD, modD, shrD, pow_10_6, pow_10_60, ltI, leI, gtI, geI, addI, addD, catD, scatD, lenD, lenS, ixD, ixL, ixLK, ixK, vl, vm, newL, i2D, absD, tupleD, dLM, dLM0, dFld, getF, dGet1, dGet2, getK, dSetIx, rng1, rng2, dFor1, dFor2, dFor, dForK, eqR, rs, dstart, List.map_cons, List.map_nil, List.length_cons, List.length_nil, List.cons_append, List.nil_append, List.replicate, List.getElem?_cons_zero, List.getElem?_cons_succ, List.set_cons_zero, List.set_cons_succ, Option.isSome_some, Option.isNone_some, Option.isNone_none, Nat.add_one_sub_one, Nat.reduceAdd, Nat.reduceSub, Nat.sub_self, Nat.sub_zero, Bool.not_true, Bool.not_false, ↓reduceIte, Bool.false_eq_true, Bool.true_eq_false, okD_int, okD_bl, okD_non, dEq_int, dEq_bl, Bool.true_xor, Bool.false_xor, Bool.not_eq_true', decide_eq_true_eq, decide_eq_false_iff_not, true_and, Bool.and_true, Bool.and_false, Bool.true_and, Bool.false_and, at_0, at_1, at_2, cast0, cast1, cast2, cast3, not_true_eq_false, not_false_eq_true, eL, Option.map_some, Option.map_none, dSlL, slk, doNone, doSome, sortedTD, dLenSet, lsk, *]
  all_goals first
    | exact rt_of q
    | (by_cases c : (((l.map D.int).length : Nat) : Int) = (((l'.map D.int).length : Nat) : Int)
       · rw [if_neg (not_not_intro c)]
         refine same_road_go (by simp only [*]) _ _ l none fun o => ?_
         simp only [dSeq, dIfS, dB, dOp, dVar, dCB, dCons, dNil, dRet, dRetN, dNext, dC, dAsg, dgN, dgT, dgSeq, dDrop, dCont, dAndT, dOrT, dNotT, dAndV, dOrV, dNotV, dIf, dIsN, dNotN, dNeg, dLst, dTup, dNewI, dCall, dMeth, dMake, dRaise, dFrz, dIsi, isiK, tyS, inst_NoneType_bool, inst_NoneType_int, inst_NoneType_str, inst_NoneType_list, inst_NoneType_tuple, inst_bool_bool, inst_bool_int, inst_bool_str, inst_bool_list, inst_bool_tuple, inst_int_bool, inst_int_int, inst_int_str, inst_int_list, inst_int_tuple, inst_str_bool, inst_str_int, inst_str_str, inst_str_list, inst_str_tuple, inst_list_bool, inst_list_int, inst_list_str, inst_list_list, inst_list_tuple, inst_tuple_bool, inst_tuple_int, inst_tuple_str, inst_tuple_list, inst_tuple_tuple, iiD, iiD0, subD, mulD, fdivD, modD, shrD, pow_10_6, pow_10_60, ltI, leI, gtI, geI, addI, addD, catD, scatD, lenD, lenS, ixD, ixL, ixLK, ixK, vl, vm, newL, i2D, absD, tupleD, dLM, dLM0, dFld, getF, dGet1, dGet2, getK, dSetIx, rng1, rng2, dFor1, dFor2, dFor, dForK, eqR, rs, dstart, List.map_cons, List.map_nil, List.length_cons, List.length_nil, List.cons_append, List.nil_append, List.replicate, List.getElem?_cons_zero, List.getElem?_cons_succ, List.set_cons_zero, List.set_cons_succ, Option.isSome_some, Option.isNone_some, Option.isNone_none, Nat.add_one_sub_one, Nat.reduceAdd, Nat.reduceSub, Nat.sub_self, Nat.sub_zero, Bool.not_true, Bool.not_false, ↓reduceIte, Bool.false_eq_true, Bool.true_eq_false, okD_int, okD_bl, okD_non, dEq_int, dEq_bl, Bool.true_xor, Bool.false_xor, Bool.not_eq_true', decide_eq_true_eq, decide_eq_false_iff_not, true_and, Bool.and_true, Bool.and_false, Bool.true_and, Bool.false_and, at_0, at_1, at_2, cast0, cast1, cast2, cast3, not_true_eq_false, not_false_eq_true, eL, Option.map_some, Option.map_none, dSlL, slk, doNone, doSome, sortedTD, dLenSet, lsk, dEq_R, okD_R, *]
         refine rt_of ?_
         simpa only [Option.some.injEq] using q
       · rw [if_pos c]
         refine rt_of ?_
         rwa [decide_eq_false (fun z => c (by rw [Option.some.inj z]))] at q)

end DL
namespace DL
open PySem L2
def t_law_same_table (K : PySem.W.Frag) (a : CA) (W : WD) : TDS :=
  (dSeq (dIfS (dOrT (dNotT (dB (dIsi "list" (dVar 0)))) (dB (dOp (eqR true) (dCB lenD (dCons (dVar 0) dNil)) (dCB lenD (dCons (dVar 1) dNil)))))
    (dRet (dC (.bl false)))
    dNext)
  (dSeq (dFor1 (dCons (dCB lenD (dCons (dVar 1) dNil)) dNil) (dgN 2)
    (dIfS (dNotT (dB (dCall (sp_law_same_road a) W (dCons (dOp ixD (dVar 0) (dVar 2)) (dCons (dOp ixD (dVar 1) (dVar 2)) dNil)))))
      (dRet (dC (.bl false)))
      dNext))
  (dRet (dC (.bl true)))))
abbrev N_law_same_table : List Str := ["found", "due", "k"]
def sp_law_same_table (a : CA) : DSp := fun ds S P E => ∃ (t : Tab) (y : D), ds = [.lst (t.map (eO eR)), y] ∧ vm S y = some (t.map (eO eR)) ∧ t.length ≤ 1000 ∧ P (.bl true) S
theorem len_law_same_table (a : CA) (ds : List D) (S : Sto) (Q : D → Sto → Prop) (E : Addr → Sto → Prop) (h : sp_law_same_table a ds S Q E) : ds.length = ["found", "due"].length := by
  obtain ⟨_, _, rfl, _⟩ := h; rfl
theorem read_law_same_table (K : PySem.W.Frag) (a : CA) (ds : List D) (S : Sto) (Q : D → Sto → Prop) (E : Addr → Sto → Prop) (h : sp_law_same_table a ds S Q E) : t_law_same_table K a (wishOf E) (endsOf Q) (dstart N_law_same_table ds) S := by
  obtain ⟨t, y, rfl, hy, hl, q⟩ := h
  simp only [t_law_same_table, N_law_same_table, dstart, List.map_cons, List.map_nil, List.length_cons, List.length_nil, List.cons_append, List.nil_append, List.replicate, Nat.add_one_sub_one, Nat.reduceAdd, Nat.reduceSub, Nat.sub_self, Nat.sub_zero]
  rcases vm_cases hy with rfl | ⟨p, rfl, he⟩
  · rw [dSeq_ap]
    simp only [dIfS, dB, dOp, dVar, dCB, dCons, dNil, dRet, dRetN, dNext, dC, dAsg, dgN, dgT, dgSeq, dDrop, dCont, dAndT, dOrT, dNotT, dAndV, dOrV, dNotV, dIf, dIsN, dNotN, dNeg, dLst, dTup, dNewI, dCall, dMeth, dMake, dRaise, dFrz, dIsi, isiK, tyS, inst_NoneType_bool, inst_NoneType_int, inst_NoneType_str, inst_NoneType_list, inst_NoneType_tuple, inst_bool_bool, inst_bool_int, inst_bool_str, inst_bool_list, inst_bool_tuple, inst_int_bool, inst_int_int, inst_int_str, inst_int_list, inst_int_tuple, inst_str_bool, inst_str_int, inst_str_str, inst_str_list, inst_str_tuple, inst_list_bool, inst_list_int, inst_list_str, inst_list_list, inst_list_tuple, inst_tuple_bool, inst_tuple_int, inst_tuple_str, inst_tuple_list, inst_tuple_tuple, iiD, iiD0, subD, mulD, fdivD, modD, shrD, pow_10_6, pow_10_60, ltI, leI, gtI, geI, addI, addD, catD, scatD, lenD, lenS, ixD, ixL, ixLK, ixK, vl, vm, newL, i2D, absD, tupleD, dLM, dLM0, dFld, getF, dGet1, dGet2, getK, dSetIx, rng1, rng2, dFor1, dFor2, dFor, dForK, eqR, rs, dstart, List.map_cons, List.map_nil, List.length_cons, List.length_nil, List.cons_append, List.nil_append, List.replicate, List.getElem?_cons_zero, List.getElem?_cons_succ, List.set_cons_zero, List.set_cons_succ, Option.isSome_some, Option.isNone_some, Option.isNone_none, Nat.add_one_sub_one, Nat.reduceAdd, Nat.reduceSub, Nat.sub_self, Nat.sub_zero, Bool.not_true, Bool.not_false, ↓reduceIte, Bool.false_eq_true, Bool.true_eq_false, okD_int, okD_bl, okD_non, dEq_int, dEq_bl, Bool.true_xor, Bool.false_xor, Bool.not_eq_true', decide_eq_true_eq, decide_eq_false_iff_not, true_and, Bool.and_true, Bool.and_false, Bool.true_and, Bool.false_and, at_0, at_1, at_2, cast0, cast1, cast2, cast3, not_true_eq_false, not_false_eq_true, eL, Option.map_some, Option.map_none, dSlL, slk, doNone, doSome, sortedTD, dLenSet, lsk]
    rw [dSeq_ap]
    simp only [dFor1, dCB, dCons, dNil, dVar, List.getElem?_cons_zero, List.getElem?_cons_succ, lenD, lenS, rng1, List.length_map]
    refine ⟨by omega, ?_⟩
    have hnn : ((t.length : Nat) : Int).toNat = t.length := by omega
    rw [hnn]
    refine dGo_rng (fun k ρ S' => S' = S ∧ ∃ o, ρ = [some (.lst (t.map (eO eR))), some (.lst (t.map (eO eR))), o]) ?_ ?_ _ _ ⟨rfl, _, rfl⟩
    · rintro ρ S' ⟨rfl, o, rfl⟩
      simp only [dSeq, dIfS, dB, dOp, dVar, dCB, dCons, dNil, dRet, dRetN, dNext, dC, dAsg, dgN, dgT, dgSeq, dDrop, dCont, dAndT, dOrT, dNotT, dAndV, dOrV, dNotV, dIf, dIsN, dNotN, dNeg, dLst, dTup, dNewI, dCall, dMeth, dMake, dRaise, dFrz, dIsi, isiK, tyS, inst_NoneType_bool, inst_NoneType_int, inst_NoneType_str, inst_NoneType_list, inst_NoneType_tuple, inst_bool_bool, inst_bool_int, inst_bool_str, inst_bool_list, inst_bool_tuple, inst_int_bool, inst_int_int, inst_int_str, inst_int_list, inst_int_tuple, inst_str_bool, inst_str_int, inst_str_str, inst_str_list, inst_str_tuple, inst_list_bool, inst_list_int, inst_list_str, inst_list_list, inst_list_tuple, inst_tuple_bool, inst_tuple_int, inst_tuple_str, inst_tuple_list, inst_tuple_tuple, iiD, iiD0, subD, mulD, fdivD, modD, shrD, pow_10_6, pow_10_60, ltI, leI, gtI, geI, addI, addD, catD, scatD, lenD, lenS, ixD, ixL, ixLK, ixK, vl, vm, newL, i2D, absD, tupleD, dLM, dLM0, dFld, getF, dGet1, dGet2, getK, dSetIx, rng1, rng2, dFor1, dFor2, dFor, dForK, eqR, rs, dstart, List.map_cons, List.map_nil, List.length_cons, List.length_nil, List.cons_append, List.nil_append, List.replicate, List.getElem?_cons_zero, List.getElem?_cons_succ, List.set_cons_zero, List.set_cons_succ, Option.isSome_some, Option.isNone_some, Option.isNone_none, Nat.add_one_sub_one, Nat.reduceAdd, Nat.reduceSub, Nat.sub_self, Nat.sub_zero, Bool.not_true, Bool.not_false, ↓reduceIte, Bool.false_eq_true, Bool.true_eq_false, okD_int, okD_bl, okD_non, dEq_int, dEq_bl, Bool.true_xor, Bool.false_xor, Bool.not_eq_true', decide_eq_true_eq, decide_eq_false_iff_not, true_and, Bool.and_true, Bool.and_false, Bool.true_and, Bool.false_and, at_0, at_1, at_2, cast0, cast1, cast2, cast3, not_true_eq_false, not_false_eq_true, eL, Option.map_some, Option.map_none, dSlL, slk, doNone, doSome, sortedTD, dLenSet, lsk]
      exact rt_of q
    · rintro k ρ S' N hk ⟨rfl, o, rfl⟩ hN
      have e := tab_at (tab := t) (b := 0 + (k : Nat)) (by omega) (by omega)
      simp only [dIfS, dB, dOp, dVar, dCB, dCons, dNil, dRet, dRetN, dNext, dC, dAsg, dgN, dgT, dgSeq, dDrop, dCont, dAndT, dOrT, dNotT, dAndV, dOrV, dNotV, dIf, dIsN, dNotN, dNeg, dLst, dTup, dNewI, dCall, dMeth, dMake, dRaise, dFrz, dIsi, isiK, tyS, inst_NoneType_bool, inst_NoneType_int, inst_NoneType_str, inst_NoneType_list, inst_NoneType_tuple, inst_bool_bool, inst_bool_int, inst_bool_str, inst_bool_list, inst_bool_tuple, inst_int_bool, inst_int_int, inst_int_str, inst_int_list, inst_int_tuple, inst_str_bool, inst_str_int, inst_str_str, inst_str_list, inst_str_tuple, inst_list_bool, inst_list_int, inst_list_str, inst_list_list, inst_list_tuple, inst_tuple_bool, inst_tuple_int, inst_tuple_str, inst_tuple_list, inst_tuple_tuple, iiD, iiD0, subD, mulD, fdivD, modD, shrD, pow_10_6, pow_10_60, ltI, leI, gtI, geI, addI, addD, catD, scatD, lenD, lenS, ixD, ixL, ixLK, ixK, vl, vm, newL, i2D, absD, tupleD, dLM, dLM0, dFld, getF, dGet1, dGet2, getK, dSetIx, rng1, rng2, dFor1, dFor2, dFor, dForK, eqR, rs, dstart, List.map_cons, List.map_nil, List.length_cons, List.length_nil, List.cons_append, List.nil_append, List.replicate, List.getElem?_cons_zero, List.getElem?_cons_succ, List.set_cons_zero, List.set_cons_succ, Option.isSome_some, Option.isNone_some, Option.isNone_none, Nat.add_one_sub_one, Nat.reduceAdd, Nat.reduceSub, Nat.sub_self, Nat.sub_zero, Bool.not_true, Bool.not_false, ↓reduceIte, Bool.false_eq_true, Bool.true_eq_false, okD_int, okD_bl, okD_non, dEq_int, dEq_bl, Bool.true_xor, Bool.false_xor, Bool.not_eq_true', decide_eq_true_eq, decide_eq_false_iff_not, true_and, Bool.and_true, Bool.and_false, Bool.true_and, Bool.false_and, at_0, at_1, at_2, cast0, cast1, cast2, cast3, not_true_eq_false, not_false_eq_true, eL, Option.map_some, Option.map_none, dSlL, slk, doNone, doSome, sortedTD, dLenSet, lsk, e]
      refine ⟨_, _, _, _, rfl, rdAt_eO _ _, rdAt_eO _ _, ?_⟩
      simp only [dIfS, dB, dOp, dVar, dCB, dCons, dNil, dRet, dRetN, dNext, dC, dAsg, dgN, dgT, dgSeq, dDrop, dCont, dAndT, dOrT, dNotT, dAndV, dOrV, dNotV, dIf, dIsN, dNotN, dNeg, dLst, dTup, dNewI, dCall, dMeth, dMake, dRaise, dFrz, dIsi, isiK, tyS, inst_NoneType_bool, inst_NoneType_int, inst_NoneType_str, inst_NoneType_list, inst_NoneType_tuple, inst_bool_bool, inst_bool_int, inst_bool_str, inst_bool_list, inst_bool_tuple, inst_int_bool, inst_int_int, inst_int_str, inst_int_list, inst_int_tuple, inst_str_bool, inst_str_int, inst_str_str, inst_str_list, inst_str_tuple, inst_list_bool, inst_list_int, inst_list_str, inst_list_list, inst_list_tuple, inst_tuple_bool, inst_tuple_int, inst_tuple_str, inst_tuple_list, inst_tuple_tuple, iiD, iiD0, subD, mulD, fdivD, modD, shrD, pow_10_6, pow_10_60, ltI, leI, gtI, geI, addI, addD, catD, scatD, lenD, lenS, ixD, ixL, ixLK, ixK, vl, vm, newL, i2D, absD, tupleD, dLM, dLM0, dFld, getF, dGet1, dGet2, getK, dSetIx, rng1, rng2, dFor1, dFor2, dFor, dForK, eqR, rs, dstart, List.map_cons, List.map_nil, List.length_cons, List.length_nil, List.cons_append, List.nil_append, List.replicate, List.getElem?_cons_zero, List.getElem?_cons_succ, List.set_cons_zero, List.set_cons_succ, Option.isSome_some, Option.isNone_some, Option.isNone_none, Nat.add_one_sub_one, Nat.reduceAdd, Nat.reduceSub, Nat.sub_self, Nat.sub_zero, Bool.not_true, Bool.not_false, ↓reduceIte, Bool.false_eq_true, Bool.true_eq_false, okD_int, okD_bl, okD_non, dEq_int, dEq_bl, Bool.true_xor, Bool.false_xor, Bool.not_eq_true', decide_eq_true_eq, decide_eq_false_iff_not, true_and, Bool.and_true, Bool.and_false, Bool.true_and, Bool.false_and, at_0, at_1, at_2, cast0, cast1, cast2, cast3, not_true_eq_false, not_false_eq_true, eL, Option.map_some, Option.map_none, dSlL, slk, doNone, doSome, sortedTD, dLenSet, lsk, decide_true]
      exact hN _ _ ⟨rfl, _, rfl⟩
  · rw [dSeq_ap]
    simp only [dIfS, dB, dOp, dVar, dCB, dCons, dNil, dRet, dRetN, dNext, dC, dAsg, dgN, dgT, dgSeq, dDrop, dCont, dAndT, dOrT, dNotT, dAndV, dOrV, dNotV, dIf, dIsN, dNotN, dNeg, dLst, dTup, dNewI, dCall, dMeth, dMake, dRaise, dFrz, dIsi, isiK, tyS, inst_NoneType_bool, inst_NoneType_int, inst_NoneType_str, inst_NoneType_list, inst_NoneType_tuple, inst_bool_bool, inst_bool_int, inst_bool_str, inst_bool_list, inst_bool_tuple, inst_int_bool, inst_int_int, inst_int_str, inst_int_list, inst_int_tuple, inst_str_bool, inst_str_int, inst_str_str, inst_str_list, inst_str_tuple, inst_list_bool, inst_list_int, inst_list_str, inst_list_list, inst_list_tuple, inst_tuple_bool, inst_tuple_int, inst_tuple_str, inst_tuple_list, inst_tuple_tuple, iiD, iiD0, subD, mulD, fdivD, modD, shrD, pow_10_6, pow_10_60, ltI, leI, gtI, geI, addI, addD, catD, scatD, lenD, lenS, ixD, ixL, ixLK, ixK, vl, vm, newL, i2D, absD, tupleD, dLM, dLM0, dFld, getF, dGet1, dGet2, getK, dSetIx, rng1, rng2, dFor1, dFor2, dFor, dForK, eqR, rs, dstart, List.map_cons, List.map_nil, List.length_cons, List.length_nil, List.cons_append, List.nil_append, List.replicate, List.getElem?_cons_zero, List.getElem?_cons_succ, List.set_cons_zero, List.set_cons_succ, Option.isSome_some, Option.isNone_some, Option.isNone_none, Nat.add_one_sub_one, Nat.reduceAdd, Nat.reduceSub, Nat.sub_self, Nat.sub_zero, Bool.not_true, Bool.not_false, ↓reduceIte, Bool.false_eq_true, Bool.true_eq_false, okD_int, okD_bl, okD_non, dEq_int, dEq_bl, Bool.true_xor, Bool.false_xor, Bool.not_eq_true', decide_eq_true_eq, decide_eq_false_iff_not, true_and, Bool.and_true, Bool.and_false, Bool.true_and, Bool.false_and, at_0, at_1, at_2, cast0, cast1, cast2, cast3, not_true_eq_false, not_false_eq_true, eL, Option.map_some, Option.map_none, dSlL, slk, doNone, doSome, sortedTD, dLenSet, lsk, he]
    rw [dSeq_ap]
    simp only [dFor1, dCB, dCons, dNil, dVar, List.getElem?_cons_zero, List.getElem?_cons_succ, lenD, lenS, rng1, List.length_map, he]
    refine ⟨by omega, ?_⟩
    have hnn : ((t.length : Nat) : Int).toNat = t.length := by omega
    rw [hnn]
    refine dGo_rng (fun k ρ S' => S' = S ∧ ∃ o, ρ = [some (.lst (t.map (eO eR))), some (.ref p), o]) ?_ ?_ _ _ ⟨rfl, _, rfl⟩
    · rintro ρ S' ⟨rfl, o, rfl⟩
      simp only [dSeq, dIfS, dB, dOp, dVar, dCB, dCons, dNil, dRet, dRetN, dNext, dC, dAsg, dgN, dgT, dgSeq, dDrop, dCont, dAndT, dOrT, dNotT, dAndV, dOrV, dNotV, dIf, dIsN, dNotN, dNeg, dLst, dTup, dNewI, dCall, dMeth, dMake, dRaise, dFrz, dIsi, isiK, tyS, inst_NoneType_bool, inst_NoneType_int, inst_NoneType_str, inst_NoneType_list, inst_NoneType_tuple, inst_bool_bool, inst_bool_int, inst_bool_str, inst_bool_list, inst_bool_tuple, inst_int_bool, inst_int_int, inst_int_str, inst_int_list, inst_int_tuple, inst_str_bool, inst_str_int, inst_str_str, inst_str_list, inst_str_tuple, inst_list_bool, inst_list_int, inst_list_str, inst_list_list, inst_list_tuple, inst_tuple_bool, inst_tuple_int, inst_tuple_str, inst_tuple_list, inst_tuple_tuple, iiD, iiD0, subD, mulD, fdivD, modD, shrD, pow_10_6, pow_10_60, ltI, leI, gtI, geI, addI, addD, catD, scatD, lenD, lenS, ixD, ixL, ixLK, ixK, vl, vm, newL, i2D, absD, tupleD, dLM, dLM0, dFld, getF, dGet1, dGet2, getK, dSetIx, rng1, rng2, dFor1, dFor2, dFor, dForK, eqR, rs, dstart, List.map_cons, List.map_nil, List.length_cons, List.length_nil, List.cons_append, List.nil_append, List.replicate, List.getElem?_cons_zero, List.getElem?_cons_succ, List.set_cons_zero, List.set_cons_succ, Option.isSome_some, Option.isNone_some, Option.isNone_none, Nat.add_one_sub_one, Nat.reduceAdd, Nat.reduceSub, Nat.sub_self, Nat.sub_zero, Bool.not_true, Bool.not_false, ↓reduceIte, Bool.false_eq_true, Bool.true_eq_false, okD_int, okD_bl, okD_non, dEq_int, dEq_bl, Bool.true_xor, Bool.false_xor, Bool.not_eq_true', decide_eq_true_eq, decide_eq_false_iff_not, true_and, Bool.and_true, Bool.and_false, Bool.true_and, Bool.false_and, at_0, at_1, at_2, cast0, cast1, cast2, cast3, not_true_eq_false, not_false_eq_true, eL, Option.map_some, Option.map_none, dSlL, slk, doNone, doSome, sortedTD, dLenSet, lsk]
      exact rt_of q
    · rintro k ρ S' N hk ⟨rfl, o, rfl⟩ hN
      have e := tab_at (tab := t) (b := 0 + (k : Nat)) (by omega) (by omega)
      simp only [dIfS, dB, dOp, dVar, dCB, dCons, dNil, dRet, dRetN, dNext, dC, dAsg, dgN, dgT, dgSeq, dDrop, dCont, dAndT, dOrT, dNotT, dAndV, dOrV, dNotV, dIf, dIsN, dNotN, dNeg, dLst, dTup, dNewI, dCall, dMeth, dMake, dRaise, dFrz, dIsi, isiK, tyS, inst_NoneType_bool, inst_NoneType_int, inst_NoneType_str, inst_NoneType_list, inst_NoneType_tuple, inst_bool_bool, inst_bool_int, inst_bool_str, inst_bool_list, inst_bool_tuple, inst_int_bool, inst_int_int, inst_int_str, inst_int_list, inst_int_tuple, inst_str_bool, inst_str_int, inst_str_str, inst_str_list, inst_str_tuple, inst_list_bool, inst_list_int, inst_list_str, inst_list_list, inst_list_tuple, inst_tuple_bool, inst_tuple_int, inst_tuple_str, inst_tuple_list, inst_tuple_tuple, iiD, iiD0, subD, mulD, fdivD, modD, shrD, pow_10_6, pow_10_60, ltI, leI, gtI, geI, addI, addD, catD, scatD, lenD, lenS, ixD, ixL, ixLK, ixK, vl, vm, newL, i2D, absD, tupleD, dLM, dLM0, dFld, getF, dGet1, dGet2, getK, dSetIx, rng1, rng2, dFor1, dFor2, dFor, dForK, eqR, rs, dstart, List.map_cons, List.map_nil, List.length_cons, List.length_nil, List.cons_append, List.nil_append, List.replicate, List.getElem?_cons_zero, List.getElem?_cons_succ, List.set_cons_zero, List.set_cons_succ, Option.isSome_some, Option.isNone_some, Option.isNone_none, Nat.add_one_sub_one, Nat.reduceAdd, Nat.reduceSub, Nat.sub_self, Nat.sub_zero, Bool.not_true, Bool.not_false, ↓reduceIte, Bool.false_eq_true, Bool.true_eq_false, okD_int, okD_bl, okD_non, dEq_int, dEq_bl, Bool.true_xor, Bool.false_xor, Bool.not_eq_true', decide_eq_true_eq, decide_eq_false_iff_not, true_and, Bool.and_true, Bool.and_false, Bool.true_and, Bool.false_and, at_0, at_1, at_2, cast0, cast1, cast2, cast3, not_true_eq_false, not_false_eq_true, eL, Option.map_some, Option.map_none, dSlL, slk, doNone, doSome, sortedTD, dLenSet, lsk, e, he]
      refine ⟨_, _, _, _, rfl, rdAt_eO _ _, rdAt_eO _ _, ?_⟩
      simp only [dIfS, dB, dOp, dVar, dCB, dCons, dNil, dRet, dRetN, dNext, dC, dAsg, dgN, dgT, dgSeq, dDrop, dCont, dAndT, dOrT, dNotT, dAndV, dOrV, dNotV, dIf, dIsN, dNotN, dNeg, dLst, dTup, dNewI, dCall, dMeth, dMake, dRaise, dFrz, dIsi, isiK, tyS, inst_NoneType_bool, inst_NoneType_int, inst_NoneType_str, inst_NoneType_list, inst_NoneType_tuple, inst_bool_bool, inst_bool_int, inst_bool_str, inst_bool_list, inst_bool_tuple, inst_int_bool, inst_int_int, inst_int_str, inst_int_list, inst_int_tuple, inst_str_bool, inst_str_int, inst_str_str, inst_str_list, inst_str_tuple, inst_list_bool, inst_list_int, inst_list_str, inst_list_list, inst_list_tuple, inst_tuple_bool, inst_tuple_int, inst_tuple_str, inst_tuple_list, inst_tuple_tuple, iiD, iiD0, subD, mulD, fdivD, modD, shrD, pow_10_6, pow_10_60, ltI, leI, gtI, geI, addI, addD, catD, scatD, lenD, lenS, ixD, ixL, ixLK, ixK, vl, vm, newL, i2D, absD, tupleD, dLM, dLM0, dFld, getF, dGet1, dGet2, getK, dSetIx, rng1, rng2, dFor1, dFor2, dFor, dForK, eqR, rs, dstart, List.map_cons, List.map_nil, List.length_cons, List.length_nil, List.cons_append, List.nil_append, List.replicate, List.getElem?_cons_zero, List.getElem?_cons_succ, List.set_cons_zero, List.set_cons_succ, Option.isSome_some, Option.isNone_some, Option.isNone_none, Nat.add_one_sub_one, Nat.reduceAdd, Nat.reduceSub, Nat.sub_self, Nat.sub_zero, Bool.not_true, Bool.not_false, ↓reduceIte, Bool.false_eq_true, Bool.true_eq_false, okD_int, okD_bl, okD_non, dEq_int, dEq_bl, Bool.true_xor, Bool.false_xor, Bool.not_eq_true', decide_eq_true_eq, decide_eq_false_iff_not, true_and, Bool.and_true, Bool.and_false, Bool.true_and, Bool.false_and, at_0, at_1, at_2, cast0, cast1, cast2, cast3, not_true_eq_false, not_false_eq_true, eL, Option.map_some, Option.map_none, dSlL, slk, doNone, doSome, sortedTD, dLenSet, lsk, decide_true]
      exact hN _ _ ⟨rfl, _, rfl⟩
theorem x_law_same_table {a : CA} {t : Tab} {S : Sto} {P : D → Sto → Prop} {E : Addr → Sto → Prop} (hl : t.length ≤ 1000) (q : P (.bl true) S) : sp_law_same_table a [.lst (t.map (eO eR)), .lst (t.map (eO eR))] S P E := ⟨t, _, rfl, rfl, hl, q⟩
theorem x_law_same_table_vm {a : CA} {t : Tab} {y : D} {S : Sto} {P : D → Sto → Prop} {E : Addr → Sto → Prop} (hy : vm S y = some (t.map (eO eR))) (hl : t.length ≤ 1000) (q : P (.bl true) S) : sp_law_same_table a [.lst (t.map (eO eR)), y] S P E := ⟨t, y, rfl, hy, hl, q⟩

end DL
namespace DL
open PySem L2
def t_law_order (K : PySem.W.Frag) (a : CA) (W : WD) : TDS :=
  (dSeq (dAsg (dLc true (diR2 (dCons (dC (.int 1)) (dCons (dOp (addD false) (dVar 1) (dC (.int 1))) dNil))) (dgN 3) dYes (dVar 3) [3]) (dgN 2))
  (dSeq (dAsg (dLst true dNil) (dgN 4))
  (dSeq (dWhile (dB (dOp gtI (dCB lenD (dCons (dVar 2) dNil)) (dC (.int 0))))
    (dSeq (dAsg (dOp modD (dOp (addD false) (dOp mulD (dVar 0) (dC (.int 48271))) (dC (.int 29))) (dC (.int 2147483647))) (dgN 0))
    (dDrop (dLM appendD (dVar 4) (dCons (dLM popAtD (dVar 2) (dCons (dOp modD (dOp fdivD (dVar 0) (dC (.int 3))) (dCB lenD (dCons (dVar 2) dNil))) dNil)) dNil)))))
  (dRet (dFrz (dVar 4))))))
abbrev N_law_order : List Str := ["cell", "many", "rest", "house", "out"]
theorem cons_erase_perm : ∀ (l : List Int) (i : Nat) (h : i < l.length), (l[i] :: l.eraseIdx i).Perm l
  | [], _, h => absurd h (Nat.not_lt_zero _)
  | x :: l, 0, _ => List.Perm.refl _
  | x :: l, i + 1, h => ((List.Perm.swap x _ _).trans (List.Perm.cons x (cons_erase_perm l i (Nat.lt_of_succ_lt_succ h))))
def sp_law_order (a : CA) : DSp := fun ds S P E => ∃ (cell : Int) (m : Nat), ds = [.int cell, .int m] ∧ m ≤ 1000 ∧ ∀ R : List Int, R.length = m → R.Nodup → (∀ x ∈ R, 1 ≤ x ∧ x ≤ m) → P (eR R) S
theorem len_law_order (a : CA) (ds : List D) (S : Sto) (Q : D → Sto → Prop) (E : Addr → Sto → Prop) (h : sp_law_order a ds S Q E) : ds.length = ["cell", "many"].length := by
  obtain ⟨_, _, rfl, _⟩ := h; rfl
theorem read_law_order (K : PySem.W.Frag) (a : CA) (ds : List D) (S : Sto) (Q : D → Sto → Prop) (E : Addr → Sto → Prop) (h : sp_law_order a ds S Q E) : t_law_order K a (wishOf E) (endsOf Q) (dstart N_law_order ds) S := by
  obtain ⟨cell, m, rfl, hm, q⟩ := h
  have hs : sizeLine = 2 ^ 24 := rfl
  simp only [t_law_order, N_law_order, dSeq, dIfS, dB, dOp, dVar, dCB, dCons, dNil, dRet, dRetN, dNext, dC, dAsg, dgN, dgT, dgSeq, dDrop, dCont, dAndT, dOrT, dNotT, dAndV, dOrV, dNotV, dIf, dIsN, dNotN, dNeg, dLst, dTup, dNewI, dCall, dMeth, dMake, dRaise, dFrz, dIsi, isiK, tyS, inst_NoneType_bool, inst_NoneType_int, inst_NoneType_str, inst_NoneType_list, inst_NoneType_tuple, inst_bool_bool, inst_bool_int, inst_bool_str, inst_bool_list, inst_bool_tuple, inst_int_bool, inst_int_int, inst_int_str, inst_int_list, inst_int_tuple, inst_str_bool, inst_str_int, inst_str_str, inst_str_list, inst_str_tuple, inst_list_bool, inst_list_int, inst_list_str, inst_list_list, inst_list_tuple, inst_tuple_bool, inst_tuple_int, inst_tuple_str, inst_tuple_list, inst_tuple_tuple, iiD, iiD0, subD, mulD, fdivD, modD, shrD, pow_10_6, pow_10_60, ltI, leI, gtI, geI, addI, addD, catD, scatD, lenD, lenS, ixD, ixL, ixLK, ixK, vl, vm, newL, i2D, absD, tupleD, dLM, dLM0, dFld, getF, dGet1, dGet2, getK, dSetIx, rng1, rng2, dFor1, dFor2, dFor, dForK, eqR, rs, dstart, List.map_cons, List.map_nil, List.length_cons, List.length_nil, List.cons_append, List.nil_append, List.replicate, List.getElem?_cons_zero, List.getElem?_cons_succ, List.set_cons_zero, List.set_cons_succ, Option.isSome_some, Option.isNone_some, Option.isNone_none, Nat.add_one_sub_one, Nat.reduceAdd, Nat.reduceSub, Nat.sub_self, Nat.sub_zero, Bool.not_true, Bool.not_false, ↓reduceIte, Bool.false_eq_true, Bool.true_eq_false, okD_int, okD_bl, okD_non, dEq_int, dEq_bl, Bool.true_xor, Bool.false_xor, Bool.not_eq_true', decide_eq_true_eq, decide_eq_false_iff_not, true_and, Bool.and_true, Bool.and_false, Bool.true_and, Bool.false_and, at_0, at_1, at_2, cast0, cast1, cast2, cast3, not_true_eq_false, not_false_eq_true, eL, Option.map_some, Option.map_none, dSlL, slk, doNone, doSome, sortedTD, dLenSet, lsk, dLc, diR2]
  refine ⟨by omega, fun p1 h1 => ?_⟩
  unfold intsD
  refine lc_all (P := _) (fun i : Nat => D.int (1 + (i : Nat))) (fun i => D.int (1 + (i : Nat))) (by simp [sizeLine]; omega) (fun _ _ => trivial) ?_ ?_ p1 h1
  · intro i _ S' Y _ y
    simp only [dSeq, dIfS, dB, dOp, dVar, dCB, dCons, dNil, dRet, dRetN, dNext, dC, dAsg, dgN, dgT, dgSeq, dDrop, dCont, dAndT, dOrT, dNotT, dAndV, dOrV, dNotV, dIf, dIsN, dNotN, dNeg, dLst, dTup, dNewI, dCall, dMeth, dMake, dRaise, dFrz, dIsi, isiK, tyS, inst_NoneType_bool, inst_NoneType_int, inst_NoneType_str, inst_NoneType_list, inst_NoneType_tuple, inst_bool_bool, inst_bool_int, inst_bool_str, inst_bool_list, inst_bool_tuple, inst_int_bool, inst_int_int, inst_int_str, inst_int_list, inst_int_tuple, inst_str_bool, inst_str_int, inst_str_str, inst_str_list, inst_str_tuple, inst_list_bool, inst_list_int, inst_list_str, inst_list_list, inst_list_tuple, inst_tuple_bool, inst_tuple_int, inst_tuple_str, inst_tuple_list, inst_tuple_tuple, iiD, iiD0, subD, mulD, fdivD, modD, shrD, pow_10_6, pow_10_60, ltI, leI, gtI, geI, addI, addD, catD, scatD, lenD, lenS, ixD, ixL, ixLK, ixK, vl, vm, newL, i2D, absD, tupleD, dLM, dLM0, dFld, getF, dGet1, dGet2, getK, dSetIx, rng1, rng2, dFor1, dFor2, dFor, dForK, eqR, rs, dstart, List.map_cons, List.map_nil, List.length_cons, List.length_nil, List.cons_append, List.nil_append, List.replicate, List.getElem?_cons_zero, List.getElem?_cons_succ, List.set_cons_zero, List.set_cons_succ, Option.isSome_some, Option.isNone_some, Option.isNone_none, Nat.add_one_sub_one, Nat.reduceAdd, Nat.reduceSub, Nat.sub_self, Nat.sub_zero, Bool.not_true, Bool.not_false, ↓reduceIte, Bool.false_eq_true, Bool.true_eq_false, okD_int, okD_bl, okD_non, dEq_int, dEq_bl, Bool.true_xor, Bool.false_xor, Bool.not_eq_true', decide_eq_true_eq, decide_eq_false_iff_not, true_and, Bool.and_true, Bool.and_false, Bool.true_and, Bool.false_and, at_0, at_1, at_2, cast0, cast1, cast2, cast3, not_true_eq_false, not_false_eq_true, eL, Option.map_some, Option.map_none, dSlL, slk, doNone, doSome, sortedTD, dLenSet, lsk, wipeD]
    exact y
  · obtain ⟨L0, eL0, hL0⟩ : ∃ L0 : List Int, L0 = (List.range m).map (fun i : Nat => (1 + (i : Nat) : Int)) ∧ True := ⟨_, rfl, trivial⟩
    have len0 : L0.length = m := by rw [eL0, List.length_map, List.length_range]
    have nd0 : L0.Nodup := by
      rw [eL0]
      unfold List.Nodup
      rw [List.pairwise_map]
      exact (List.nodup_range (n := m)).imp fun {x y} h z => h (by omega)
    have mem0 : ∀ x ∈ L0, 1 ≤ x ∧ x ≤ (m : Int) := fun x hx => by
      rw [eL0] at hx
      obtain ⟨i, hi, rfl⟩ := List.mem_map.mp hx
      have := List.mem_range.mp hi
      omega
    have e1 : (List.range ((m : Int) + 1 - 1).toNat).map (fun i : Nat => D.int (1 + (i : Nat))) = L0.map .int := by
      rw [eL0, List.map_map, show ((m : Int) + 1 - 1).toNat = m by omega]; rfl
    rw [e1]
    intro p1 h1
    refine ⟨by decide, fun p2 h2 => ?_⟩
    have hn : p2 ≠ p1 := fun z => by rw [z, su_same] at h2; cases h2
    rw [su_ne hn] at h2
    refine dWh_ind (fun ρ S' => ∃ (c : Int) (rest acc : List Int), ρ = [some (.int c), some (.int m), some (.ref p1), none, some (.ref p2)] ∧ S' = su (su S p1 (.ml (rest.map .int))) p2 (.ml (acc.map .int)) ∧ (acc ++ rest).Perm L0) (fun _ S' => ((cellL S' (.ref p1)).map (·.2.length)).getD 0) ?_ _ _ ⟨cell, L0, [], rfl, rfl, List.Perm.refl _⟩
    rintro ρ S' N ⟨c, rest, acc, rfl, rfl, hp⟩ hN
    have g1 : su (su S p1 (.ml (rest.map .int))) p2 (.ml (acc.map .int)) p1 = some (.ml (rest.map .int)) := by rw [su_ne (Ne.symm hn), su_same]
    have g2 : su (su S p1 (.ml (rest.map .int))) p2 (.ml (acc.map .int)) p2 = some (.ml (acc.map .int)) := su_same
    have hlen := hp.length_eq
    rw [List.length_append, len0] at hlen
    simp only [dSeq, dIfS, dB, dOp, dVar, dCB, dCons, dNil, dRet, dRetN, dNext, dC, dAsg, dgN, dgT, dgSeq, dDrop, dCont, dAndT, dOrT, dNotT, dAndV, dOrV, dNotV, dIf, dIsN, dNotN, dNeg, dLst, dTup, dNewI, dCall, dMeth, dMake, dRaise, dFrz, dIsi, isiK, tyS, inst_NoneType_bool, inst_NoneType_int, inst_NoneType_str, inst_NoneType_list, inst_NoneType_tuple, inst_bool_bool, inst_bool_int, inst_bool_str, inst_bool_list, inst_bool_tuple, inst_int_bool, inst_int_int, inst_int_str, inst_int_list, inst_int_tuple, inst_str_bool, inst_str_int, inst_str_str, inst_str_list, inst_str_tuple, inst_list_bool, inst_list_int, inst_list_str, inst_list_list, inst_list_tuple, inst_tuple_bool, inst_tuple_int, inst_tuple_str, inst_tuple_list, inst_tuple_tuple, iiD, iiD0, subD, mulD, fdivD, modD, shrD, pow_10_6, pow_10_60, ltI, leI, gtI, geI, addI, addD, catD, scatD, lenD, lenS, ixD, ixL, ixLK, ixK, vl, vm, newL, i2D, absD, tupleD, dLM, dLM0, dFld, getF, dGet1, dGet2, getK, dSetIx, rng1, rng2, dFor1, dFor2, dFor, dForK, eqR, rs, dstart, List.map_cons, List.map_nil, List.length_cons, List.length_nil, List.cons_append, List.nil_append, List.replicate, List.getElem?_cons_zero, List.getElem?_cons_succ, List.set_cons_zero, List.set_cons_succ, Option.isSome_some, Option.isNone_some, Option.isNone_none, Nat.add_one_sub_one, Nat.reduceAdd, Nat.reduceSub, Nat.sub_self, Nat.sub_zero, Bool.not_true, Bool.not_false, ↓reduceIte, Bool.false_eq_true, Bool.true_eq_false, okD_int, okD_bl, okD_non, dEq_int, dEq_bl, Bool.true_xor, Bool.false_xor, Bool.not_eq_true', decide_eq_true_eq, decide_eq_false_iff_not, true_and, Bool.and_true, Bool.and_false, Bool.true_and, Bool.false_and, at_0, at_1, at_2, cast0, cast1, cast2, cast3, not_true_eq_false, not_false_eq_true, eL, Option.map_some, Option.map_none, dSlL, slk, doNone, doSome, sortedTD, dLenSet, lsk, g1, g2]
    by_cases c2 : 0 < rest.length
    · rw [if_pos (by rw [List.length_map]; omega)]
      refine ⟨.inr ⟨by decide, by decide⟩, by decide, ⟨by decide, by decide⟩, by rw [List.length_map]; omega, ?_⟩
      rw [List.length_map]
      generalize (c * 48271 + 29) % 2147483647 = c'
      have b0 : 0 ≤ c' / 3 % (rest.length : Int) := Int.emod_nonneg _ (by omega)
      have b1 : c' / 3 % (rest.length : Int) < rest.length := Int.emod_lt_of_pos _ (by omega)
      refine popAt_at g1 b0 b1 (by omega) ?_
      refine append_at (xs := acc.map .int) (by rw [su_ne hn]; exact g2) (by rw [List.length_map]; omega) (hN _ _ ⟨c', rest.eraseIdx (c' / 3 % (rest.length : Int)).toNat, acc ++ [rest[(c' / 3 % (rest.length : Int)).toNat]'(by omega)], rfl, ?_, ?_⟩ ?_)
      · rw [su_two (Ne.symm hn), su_su, List.map_append]; rfl
      · rw [List.append_assoc]
        exact ((cons_erase_perm rest _ (by omega)).append_left acc).trans hp
      · simp only [cellL]
        rw [su_ne (Ne.symm hn), su_two (Ne.symm hn), su_ne (Ne.symm hn), su_same, su_ne (Ne.symm hn), su_same]
        simp only [Option.map_some, Option.getD_some, List.length_map]
        rw [List.length_eraseIdx_of_lt (by omega)]; omega
    · rw [if_neg (by rw [List.length_map]; omega)]
      have : rest = [] := List.length_eq_zero_iff.mp (by omega)
      subst this
      rw [List.append_nil] at hp
      refine rt_le ?_ (q acc (by rw [hp.length_eq]; exact len0) (hp.nodup_iff.mpr nd0) fun x hx => mem0 x (hp.mem_iff.mp hx))
      rw [sd_su (by rw [su_ne hn]; exact h2)]
      exact SLe.su h1
theorem x_law_order {a : CA} {cell : Int} {m : Nat} {S : Sto} {P : D → Sto → Prop} {E : Addr → Sto → Prop} (hm : m ≤ 1000) (q : ∀ R : List Int, R.length = m → R.Nodup → (∀ x ∈ R, 1 ≤ x ∧ x ≤ m) → P (eR R) S) : sp_law_order a [.int cell, .int m] S P E := ⟨cell, m, rfl, hm, q⟩

end DL
namespace DL
open PySem L2
def rg (R : List Int) (k : Nat) : Int := R.getD (k % R.length) 0
theorem rg_get {R : List Int} {k : Nat} (h : 0 < R.length) : rg R k = R[k % R.length]'(Nat.mod_lt _ h) := by
  unfold rg
  rw [List.getD_eq_getElem?_getD, List.getElem?_eq_getElem (Nat.mod_lt _ h)]; rfl
theorem rg_mem {R : List Int} (h : 0 < R.length) (k : Nat) : rg R k ∈ R := by rw [rg_get h]; exact List.getElem_mem _
theorem rg_inj {R : List Int} (h : 0 < R.length) (hd : R.Nodup) {j k : Nat} (e : rg R j = rg R k) : j % R.length = k % R.length := by
  rw [rg_get h, rg_get h] at e
  exact nodup_inj hd _ _ e
theorem rg_mod (R : List Int) (k : Nat) : rg R (k % R.length) = rg R k := by unfold rg; rw [Nat.mod_mod]
structure RingOk (s : GS) (R : List Int) : Prop where
  m : 2 ≤ R.length
  d : R.Nodup
  k : ∀ x ∈ R, 1 ≤ x ∧ x < (s.n : Int)
  sy : ∀ x y, s.T x y = s.T y x
  t0 : ∀ j, s.T (rg R j) 0 = true
  t1 : ∀ j, s.T (rg R j) (rg R (j + 1)) = true
  F : ∀ x y, s.F x y = 0
  H : ∀ x y, s.H x y = false
  Lk : ∀ key v, kget s.L key = some v → 0 < v ∧ ∃ j, key = [rg R j, rg R (j + 1), 0]
  Lw : ∀ j, ∃ v, kget s.L [rg R j, rg R (j + 1), 0] = some v
theorem fold_top {s : GS} {x : Int} {c : List Int} : ∀ (tl : Tab) (b : Option (List Int)), (∀ r, some r ∈ tl → takeQ (nb s.n s.H x) x (some r) = true → x :: r = c ∨ (s.better c (x :: r) = true ∧ s.better (x :: r) c = false)) →
    (∀ b', b = some b' → b' = c ∨ (s.better c b' = true ∧ s.better b' c = false)) → (b = some c ∨ ∃ r, some r ∈ tl ∧ takeQ (nb s.n s.H x) x (some r) = true ∧ x :: r = c) → tl.foldl (s.look x) b = some c
  | [], b, _, _, h => by
    rcases h with h | ⟨r, h, _⟩
    · exact h
    · cases h
  | o :: tl, b, h1, h2, h3 => by
    rw [List.foldl_cons]
    have h1' : ∀ r, some r ∈ tl → takeQ (nb s.n s.H x) x (some r) = true → x :: r = c ∨ (s.better c (x :: r) = true ∧ s.better (x :: r) c = false) := fun r hr => h1 r (List.mem_cons_of_mem _ hr)
    by_cases t : takeQ (nb s.n s.H x) x o = true
    · obtain ⟨r, rfl, _, _⟩ := takeQ_some t
      have hr := h1 r List.mem_cons_self t
      cases b with
      | none =>
        have el : s.look x none (some r) = some (x :: r) := by unfold GS.look; rw [if_pos t]
        rw [el]
        refine fold_top tl _ h1' (fun b' e => by cases e; exact hr) ?_
        rcases h3 with h3 | ⟨r', h3, t', e'⟩
        · cases h3
        · rcases List.mem_cons.mp h3 with h3 | h3
          · cases h3; exact .inl (by rw [e'])
          · exact .inr ⟨r', h3, t', e'⟩
      | some b' =>
        have el : s.look x (some b') (some r) = if s.better (x :: r) b' then some (x :: r) else some b' := by unfold GS.look; rw [if_pos t]
        rw [el]
        have hb := h2 b' rfl
        by_cases c1 : s.better (x :: r) b' = true
        · rw [if_pos c1]
          refine fold_top tl _ h1' (fun b' e => by cases e; exact hr) ?_
          rcases h3 with h3 | ⟨r', h3, t', e'⟩
          · cases h3
            rcases hr with hr | hr
            · exact .inl (by rw [hr])
            · rw [hr.2] at c1; cases c1
          · rcases List.mem_cons.mp h3 with h3 | h3
            · cases h3; exact .inl (by rw [e'])
            · exact .inr ⟨r', h3, t', e'⟩
        · rw [if_neg c1]
          refine fold_top tl _ h1' (fun b'' e => by cases e; exact hb) ?_
          rcases h3 with h3 | ⟨r', h3, t', e'⟩
          · exact .inl h3
          · rcases List.mem_cons.mp h3 with h3 | h3
            · cases h3
              rcases hb with hb | hb
              · exact .inl (by rw [hb])
              · rw [← e'] at hb; exact absurd hb.1 c1
            · exact .inr ⟨r', h3, t', e'⟩
    · have el : s.look x b o = b := by unfold GS.look; rw [if_neg t]
      rw [el]
      refine fold_top tl _ h1' h2 ?_
      rcases h3 with h3 | ⟨r', h3, t', e'⟩
      · exact .inl h3
      · rcases List.mem_cons.mp h3 with h3 | h3
        · rw [← h3] at t; exact absurd t' t
        · exact .inr ⟨r', h3, t', e'⟩
theorem chosen_top {s : GS} {x : Int} {c : List Int} {tl : Tab} (x0 : x ≠ 0) (h1 : ∀ r, some r ∈ tl → takeQ (nb s.n s.H x) x (some r) = true → x :: r = c ∨ (s.better c (x :: r) = true ∧ s.better (x :: r) c = false)) (h3 : ∃ r, some r ∈ tl ∧ takeQ (nb s.n s.H x) x (some r) = true ∧ x :: r = c) : s.chosen x tl = some c := by
  unfold GS.chosen
  rw [if_neg x0]
  exact fold_top tl none h1 (fun b' e => by cases e) (.inr h3)
theorem RingOk.take {s : GS} {R : List Int} (h : RingOk s R) {x : Int} {r : List Int} (hx : x ∉ r) : takeQ (nb s.n s.H x) x (some r) = true := by
  have e : nb s.n s.H x = [] := by
    unfold nb
    rw [List.filter_eq_nil_iff]
    intro y _
    rw [h.H]; decide
  unfold takeQ
  rw [e]; simp [hx]
theorem RingOk.rank0 {s : GS} {R : List Int} (h : RingOk s R) (j : Nat) {r : List Int} (hr : r ≠ [rg R (j + 1), 0]) : s.rank (rg R j :: r) = 0 := by
  unfold GS.rank
  cases e : kget s.L (rg R j :: r) with
  | none => dsimp only; rw [h.F]
  | some v =>
    obtain ⟨_, i, hi⟩ := h.Lk _ _ e
    injection hi with h1 h2
    have hm : 0 < R.length := by have := h.m; omega
    have hm2 := rg_inj hm h.d h1
    exfalso
    apply hr
    rw [h2]
    congr 1
    rw [← rg_mod R (i + 1), ← rg_mod R (j + 1), Nat.add_mod, ← hm2, ← Nat.add_mod]
theorem RingOk.rank1 {s : GS} {R : List Int} (h : RingOk s R) (j : Nat) : 0 < s.rank [rg R j, rg R (j + 1), 0] := by
  obtain ⟨v, hv⟩ := h.Lw j
  unfold GS.rank
  rw [hv]
  exact (h.Lk _ _ hv).1
theorem better_rank {s : GS} {x y : List Int} (h : s.rank y < s.rank x) : s.better x y = true ∧ s.better y x = false := by
  unfold GS.better
  rw [if_pos (show s.rank x ≠ s.rank y by omega), if_pos (show s.rank y ≠ s.rank x by omega)]
  exact ⟨decide_eq_true h, decide_eq_false (by omega)⟩
theorem better_short {s : GS} {x y : List Int} (h : s.rank y = s.rank x) (hl : x.length < y.length) : s.better x y = true ∧ s.better y x = false := by
  unfold GS.better
  rw [if_neg (show ¬ (s.rank x ≠ s.rank y) by omega), if_neg (show ¬ (s.rank y ≠ s.rank x) by omega), if_pos (show x.length ≠ y.length by omega), if_pos (show y.length ≠ x.length by omega)]
  exact ⟨decide_eq_true hl, decide_eq_false (by omega)⟩
theorem RingOk.step {s : GS} {R : List Int} (h : RingOk s R) {tab : Tab} (st : Settled s tab) (j : Nat) : tab.getD (rg R j).toNat none = some (if tab.getD (rg R (j + 1)).toNat none = some [rg R (j + 1), 0] then [rg R j, rg R (j + 1), 0] else [rg R j, 0]) := by
  have hm : 0 < R.length := by have := h.m; omega
  have b0 := h.k _ (rg_mem hm j)
  have b1 := h.k _ (rg_mem hm (j + 1))
  have n1 : 1 ≤ s.n := by omega
  have ok0 : s.ok 0 := ⟨Int.le_refl _, by omega⟩
  have okx : s.ok (rg R j) := ⟨by omega, by omega⟩
  have e0 : tab.getD (0 : Int).toNat none = some [0] := by
    rw [st.e 0 ok0]; unfold GS.chosen; rw [if_pos rfl]
  have ne : rg R j ≠ rg R (j + 1) := fun z => by
    have := rg_inj hm h.d z
    have h2 := h.m
    have b := Nat.mod_lt j hm
    rw [Nat.add_mod, Nat.mod_eq_of_lt (show 1 < R.length by omega)] at this
    by_cases c : j % R.length + 1 < R.length
    · rw [Nat.mod_eq_of_lt c] at this; omega
    · rw [show j % R.length + 1 = R.length by omega, Nat.mod_self] at this; omega
  have tells : ∀ r, some r ∈ s.row tab (rg R j) → ∃ y, s.ok y ∧ tab.getD y.toNat none = some r := fun r hr => by
    obtain ⟨y, hy, e⟩ := List.mem_map.mp hr
    exact ⟨y, (nb_mem.mp hy).1, e⟩
  have has : ∀ y, s.ok y → s.T (rg R j) y = true → ∀ r, tab.getD y.toNat none = some r → some r ∈ s.row tab (rg R j) := fun y hy t r e => List.mem_map.mpr ⟨y, nb_mem.mpr ⟨hy, t⟩, e⟩
  rw [st.e _ okx]
  split
  · rename_i c
    refine chosen_top (by omega) (fun r hr t => ?_) ⟨[rg R (j + 1), 0], has _ ⟨by omega, by omega⟩ (h.t1 j) _ c, h.take ?_, rfl⟩
    · by_cases e : r = [rg R (j + 1), 0]
      · exact .inl (by rw [e])
      · refine .inr (better_rank ?_)
        rw [h.rank0 j e]; exact h.rank1 j
    · simp only [List.mem_cons, List.not_mem_nil, or_false, not_or]
      exact ⟨ne, by omega⟩
  · rename_i c
    have hne : ∀ r, some r ∈ s.row tab (rg R j) → r ≠ [rg R (j + 1), 0] := fun r hr z => by
      obtain ⟨y, hy, e⟩ := tells r hr
      have := (st.head hy e).2
      rw [z] at this
      injection this with this
      rw [← this, z] at e
      exact c e
    refine chosen_top (by omega) (fun r hr t => ?_) ⟨[0], has 0 ok0 (h.t0 j) _ e0, h.take ?_, rfl⟩
    · by_cases e : r = [0]
      · exact .inl (by rw [e])
      · refine .inr (better_short ?_ ?_)
        · rw [h.rank0 j (hne r hr), h.rank0 j (by simp)]
        · obtain ⟨y, hy, e2⟩ := tells r hr
          obtain ⟨t1, t2⟩ := st.head hy e2
          match r, e, t1, t2 with
          | [], _, _, t2 => cases t2
          | [z], e, t1, _ =>
            have h9 : some z = some (0 : Int) := t1.2.1
            rw [Option.some.inj h9] at e; exact absurd rfl e
          | _ :: _ :: _, _, _, _ => simp
    · simp only [List.mem_cons, List.not_mem_nil, or_false]
      omega
theorem RingOk.odd {s : GS} {R : List Int} (h : RingOk s R) (ho : R.length % 2 = 1) {tab : Tab} (st : Settled s tab) : False := by
  have hm : 0 < R.length := by have := h.m; omega
  have flip : ∀ j, (tab.getD (rg R j).toNat none = some [rg R j, 0]) ↔ ¬ (tab.getD (rg R (j + 1)).toNat none = some [rg R (j + 1), 0]) := fun j => by
    have e := h.step st j
    constructor
    · intro z z2
      rw [if_pos z2, z] at e
      injection e with e
      injection e with _ e
      injection e with _ e
      cases e
    · intro z
      rw [if_neg z] at e
      exact e
  have all : ∀ i : Nat, (tab.getD (rg R 0).toNat none = some [rg R 0, 0]) ↔ (if i % 2 = 0 then (tab.getD (rg R i).toNat none = some [rg R i, 0]) else ¬ (tab.getD (rg R i).toNat none = some [rg R i, 0])) := by
    intro i
    induction i with
    | zero => exact Iff.rfl
    | succ i ih =>
      rw [ih]
      by_cases c : i % 2 = 0
      · rw [if_pos c, if_neg (by omega)]; exact flip i
      · rw [if_neg c, if_pos (by omega), flip i, Classical.not_not]
  have h1 := all R.length
  rw [if_neg (by omega)] at h1
  have : rg R R.length = rg R 0 := by unfold rg; rw [Nat.mod_self, Nat.zero_mod]
  rw [this] at h1
  by_cases c : tab.getD (rg R 0).toNat none = some [rg R 0, 0]
  · exact h1.mp c c
  · exact c (h1.mpr c)

end DL
namespace DL
open PySem L2
structure RingAt (s : GS) (R : List Int) (n k : Nat) : Prop where
  hn : s.n = n
  T : ∀ x y, s.T x y = true ↔ ∃ j, j < k ∧ ((x = rg R j ∧ (y = 0 ∨ y = rg R (j + 1))) ∨ (y = rg R j ∧ (x = 0 ∨ x = rg R (j + 1))))
  F : ∀ x y, s.F x y = 0
  H : ∀ x y, s.H x y = false
  Lk : ∀ key v, kget s.L key = some v → 0 < v ∧ ∃ j, key = [rg R j, rg R (j + 1), 0]
  Lw : ∀ j, j < k → ∃ v, kget s.L [rg R j, rg R (j + 1), 0] = some v
  lok : ∀ p ∈ s.L, (GS.new n).rok p.1
  lnd : (s.L.map (·.1)).Nodup
structure RingL (R : List Int) (n : Nat) : Prop where
  m : 2 ≤ R.length
  d : R.Nodup
  k : ∀ x ∈ R, 1 ≤ x ∧ x < (n : Int)
theorem RingL.pos {R : List Int} {n : Nat} (h : RingL R n) : 0 < R.length := by have := h.m; omega
theorem RingL.at {R : List Int} {n : Nat} (h : RingL R n) (j : Nat) : 1 ≤ rg R j ∧ rg R j < (n : Int) := h.k _ (rg_mem h.pos j)
theorem RingL.inj {R : List Int} {n : Nat} (h : RingL R n) {j k : Nat} (hj : j < R.length) (hk : k < R.length) (e : rg R j = rg R k) : j = k := by
  have := rg_inj h.pos h.d e
  rwa [Nat.mod_eq_of_lt hj, Nat.mod_eq_of_lt hk] at this
theorem RingL.ne {R : List Int} {n : Nat} (h : RingL R n) (j : Nat) : rg R j ≠ rg R (j + 1) := fun z => by
  have := rg_inj h.pos h.d z
  have h2 := h.m
  have b := Nat.mod_lt j h.pos
  rw [Nat.add_mod, Nat.mod_eq_of_lt (show 1 < R.length by omega)] at this
  by_cases c : j % R.length + 1 < R.length
  · rw [Nat.mod_eq_of_lt c] at this; omega
  · rw [show j % R.length + 1 = R.length by omega, Nat.mod_self] at this; omega
theorem RingL.road {R : List Int} {n : Nat} (h : RingL R n) (j : Nat) : (GS.new n).rok [rg R j, rg R (j + 1), 0] := by
  have a := h.at j
  have b := h.at (j + 1)
  have c := h.ne j
  have n1 : 1 ≤ n := by omega
  refine ⟨fun x hx => ?_, by simp, rfl, ?_⟩
  · simp only [List.mem_cons, List.not_mem_nil, or_false] at hx
    show 0 ≤ x ∧ x < ((n : Nat) : Int)
    omega
  · simp only [List.nodup_cons, List.mem_cons, List.not_mem_nil, or_false, not_or, List.nodup_nil, and_true, not_false_eq_true]
    exact ⟨⟨c, by omega⟩, by omega⟩
theorem RingAt.start {R : List Int} {n : Nat} : RingAt (GS.new n) R n 0 :=
  ⟨rfl, fun x y => ⟨(fun z => by cases z), fun ⟨j, h, _⟩ => absurd h (Nat.not_lt_zero _)⟩, fun _ _ => rfl, fun _ _ => rfl, (fun _ _ z => by cases z), fun j h => absurd h (Nat.not_lt_zero _), (fun _ z => by cases z), List.nodup_nil⟩
theorem RingAt.sy {s : GS} {R : List Int} {n k : Nat} (h : RingAt s R n k) (x y : Int) : s.T x y = s.T y x := by
  rw [Bool.eq_iff_iff, h.T, h.T]
  constructor
  · rintro ⟨j, hj, e⟩; exact ⟨j, hj, e.symm⟩
  · rintro ⟨j, hj, e⟩; exact ⟨j, hj, e.symm⟩
theorem RingAt.no0 {s : GS} {R : List Int} {n k : Nat} (L : RingL R n) (h : RingAt s R n k) (hk : k < R.length) : s.T (rg R k) 0 = false := by
  cases c : s.T (rg R k) 0 with
  | false => rfl
  | true =>
    obtain ⟨j, hj, ⟨e, _⟩ | ⟨e, _⟩⟩ := (h.T _ _).mp c
    · have := L.inj hk (by omega) e; omega
    · have := L.at j; omega
theorem RingAt.no1 {s : GS} {R : List Int} {n k : Nat} (L : RingL R n) (h3 : 3 ≤ R.length) (h : RingAt s R n k) (hk : k < R.length) : (s.lay (rg R k) 0).T (rg R k) (rg R (k + 1)) = false := by
  have a1 := L.at (k + 1)
  have a0 := L.at k
  cases c : (s.lay (rg R k) 0).T (rg R k) (rg R (k + 1)) with
  | false => rfl
  | true =>
    rcases (lay_T _ _ _ _ _).mp c with c | ⟨_, e⟩ | ⟨e, _⟩
    · obtain ⟨j, hj, ⟨e, _⟩ | ⟨e, e2⟩⟩ := (h.T _ _).mp c
      · have := L.inj hk (by omega) e; omega
      · rcases e2 with e2 | e2
        · omega
        · by_cases c2 : k + 1 < R.length
          · have := L.inj c2 (by omega) e; omega
          · have e3 : rg R (k + 1) = rg R 0 := by rw [← rg_mod R (k + 1), show k + 1 = R.length by omega, Nat.mod_self]
            have := L.inj (by omega) (by omega) (e3.symm.trans e)
            subst this
            have := L.inj hk (by omega) e2
            omega
    · omega
    · omega
theorem RingAt.step {s : GS} {R : List Int} {n k : Nat} (L : RingL R n) (h : RingAt s R n k) {v : Int} (hv : 0 < v) : RingAt (((s.lay (rg R k) 0).lay (rg R k) (rg R (k + 1))).wish [rg R k, rg R (k + 1), 0] v) R n (k + 1) := by
  have eL : (((s.lay (rg R k) 0).lay (rg R k) (rg R (k + 1))).wish [rg R k, rg R (k + 1), 0] v).L = kput s.L [rg R k, rg R (k + 1), 0] v := rfl
  refine ⟨h.hn, fun x y => ?_, h.F, h.H, fun key w e => ?_, fun j hj => ?_, fun p hp => ?_, ?_⟩
  · show ((s.lay (rg R k) 0).lay (rg R k) (rg R (k + 1))).T x y = true ↔ _
    rw [lay_T, lay_T, h.T]
    constructor
    · rintro ((⟨j, hj, e⟩ | e) | e)
      · exact ⟨j, by omega, e⟩
      · exact ⟨k, by omega, by rcases e with e | e <;> simp [e.1, e.2]⟩
      · exact ⟨k, by omega, by rcases e with e | e <;> simp [e.1, e.2]⟩
    · rintro ⟨j, hj, e⟩
      by_cases c : j = k
      · subst c
        rcases e with ⟨e1, e2 | e2⟩ | ⟨e1, e2 | e2⟩
        · exact .inl (.inr (.inl ⟨e1, e2⟩))
        · exact .inr (.inl ⟨e1, e2⟩)
        · exact .inl (.inr (.inr ⟨e2, e1⟩))
        · exact .inr (.inr ⟨e2, e1⟩)
      · exact .inl (.inl ⟨j, by omega, e⟩)
  · rw [eL, kget_put] at e
    split at e
    · rename_i c
      injection e with e
      exact ⟨by omega, k, c⟩
    · exact h.Lk key w e
  · rw [eL, kget_put]
    split
    · exact ⟨v, rfl⟩
    · rename_i c
      exact h.Lw j (by
        have : j ≠ k := fun z => c (by rw [z])
        omega)
  · rw [eL] at hp
    rcases kput_mem hp with e | ⟨u, e⟩
    · rw [e]; exact L.road k
    · exact h.lok (p.1, u) e
  · rw [eL]; exact kput_nodup _ _ h.lnd
theorem RingAt.ok {s : GS} {R : List Int} {n : Nat} (L : RingL R n) (h : RingAt s R n R.length) : RingOk s R := by
  have md : ∀ j, rg R (j % R.length + 1) = rg R (j + 1) := fun j => by
    rw [← rg_mod R (j % R.length + 1), ← rg_mod R (j + 1), Nat.add_mod, Nat.mod_mod, ← Nat.add_mod]
  refine ⟨L.m, L.d, by rw [h.hn]; exact L.k, h.sy, fun j => ?_, fun j => ?_, h.F, h.H, h.Lk, fun j => ?_⟩
  · exact (h.T _ _).mpr ⟨j % R.length, Nat.mod_lt _ L.pos, .inl ⟨(rg_mod R j).symm, .inl rfl⟩⟩
  · exact (h.T _ _).mpr ⟨j % R.length, Nat.mod_lt _ L.pos, .inl ⟨(rg_mod R j).symm, .inr (md j).symm⟩⟩
  · have := h.Lw (j % R.length) (Nat.mod_lt _ L.pos)
    rwa [rg_mod, md] at this
theorem RingAt.wf {s : GS} {R : List Int} {n k : Nat} (L : RingL R n) (h : RingAt s R n k) : GWf s := by
  refine ⟨fun x y _ _ _ _ => h.sy x y, fun x _ _ => ?_, fun x _ _ => h.H x x, fun p hp => (rok_n (by rw [h.hn]; rfl)).mpr (h.lok p hp), h.lnd⟩
  cases c : s.T x x with
  | false => rfl
  | true =>
    obtain ⟨j, _, e⟩ := (h.T _ _).mp c
    have a := L.at j
    have b := L.ne j
    rcases e with ⟨e1, e2 | e2⟩ | ⟨e1, e2 | e2⟩
    · omega
    · exact absurd (e1.symm.trans e2) b
    · omega
    · exact absurd (e1.symm.trans e2) b
structure LeafAt (s : GS) (R : List Int) (n i : Nat) : Prop where
  hn : s.n = n
  r : RingOk s R
  w : GWf s
  b : ∀ x y, s.T x y = true → x ≤ R.length + i ∧ y ≤ R.length + i
theorem RingAt.leaf {s : GS} {R : List Int} {n : Nat} (L : RingL R n) (hm : ∀ x ∈ R, x ≤ R.length) (h : RingAt s R n R.length) : LeafAt s R n 0 := by
  refine ⟨h.hn, h.ok L, h.wf L, fun x y c => ?_⟩
  obtain ⟨j, _, e⟩ := (h.T _ _).mp c
  have a := hm _ (rg_mem L.pos j)
  have b := hm _ (rg_mem L.pos (j + 1))
  have := L.m
  omega
theorem LeafAt.no {s : GS} {R : List Int} {n i : Nat} (h : LeafAt s R n i) (y : Int) : s.T ((R.length : Int) + 1 + i) y = false := by
  cases c : s.T ((R.length : Int) + 1 + i) y with
  | false => rfl
  | true => have := (h.b _ _ c).1; omega
theorem LeafAt.step {s : GS} {R : List Int} {n i : Nat} (h : LeafAt s R n i) {y : Int} (hy : y ∈ R) (hm : ∀ x ∈ R, x ≤ R.length) : LeafAt (s.lay ((R.length : Int) + 1 + i) y) R n (i + 1) := by
  have ym := hm y hy
  refine ⟨h.hn, ⟨h.r.m, h.r.d, h.r.k, fun x y => ?_, fun j => ?_, fun j => ?_, h.r.F, h.r.H, h.r.Lk, h.r.Lw⟩, ⟨fun x y h0 h1 h2 h3 => ?_, fun x h0 h1 => ?_, h.w.hir, h.w.lok, h.w.lnd⟩, fun x z c => ?_⟩
  · rw [Bool.eq_iff_iff, lay_T, lay_T, h.r.sy x y]
    constructor
    · rintro (c | c | c)
      · exact .inl c
      · exact .inr (.inr ⟨c.2, c.1⟩)
      · exact .inr (.inl ⟨c.2, c.1⟩)
    · rintro (c | c | c)
      · exact .inl c
      · exact .inr (.inr ⟨c.2, c.1⟩)
      · exact .inr (.inl ⟨c.2, c.1⟩)
  · exact (lay_T _ _ _ _ _).mpr (.inl (h.r.t0 j))
  · exact (lay_T _ _ _ _ _).mpr (.inl (h.r.t1 j))
  · rw [Bool.eq_iff_iff, lay_T, lay_T, h.r.sy x y]
    constructor
    · rintro (c | c | c)
      · exact .inl c
      · exact .inr (.inr ⟨c.2, c.1⟩)
      · exact .inr (.inl ⟨c.2, c.1⟩)
    · rintro (c | c | c)
      · exact .inl c
      · exact .inr (.inr ⟨c.2, c.1⟩)
      · exact .inr (.inl ⟨c.2, c.1⟩)
  · cases c : (s.lay ((R.length : Int) + 1 + i) y).T x x with
    | false => rfl
    | true =>
      rcases (lay_T _ _ _ _ _).mp c with c | c | c
      · rw [h.w.irr x h0 h1] at c; cases c
      · omega
      · omega
  · rcases (lay_T _ _ _ _ _).mp c with c | c | c
    · have := h.b _ _ c; omega
    · omega
    · omega
theorem RingOk.copy {s : GS} {R : List Int} (h : RingOk s R) (w : GWf s) : RingOk s.copy R := by
  have e : ∀ k, kget s.copy.L k = kget s.L k := fun k => wishes_get w.lnd k
  refine ⟨h.m, h.d, h.k, h.sy, h.t0, h.t1, fun x y => ?_, h.H, fun key v z => h.Lk key v (by rw [← e]; exact z), fun j => by rw [e]; exact h.Lw j⟩
  show (if (0 ≤ x ∧ x < (s.n : Int)) ∧ (0 ≤ y ∧ y < (s.n : Int)) then s.F x y else 0) = 0
  split
  · exact h.F x y
  · rfl

end DL
namespace DL
open PySem L2
theorem RingOk.choose {s : GS} {R : List Int} (h : RingOk s R) {tab : Tab} (e0 : tab.getD (0 : Int).toNat none = some [0]) (hh : ∀ y r, s.ok y → tab.getD y.toNat none = some r → s.told r ∧ r.head? = some y) (j : Nat) :
    s.chosen (rg R j) (s.row tab (rg R j)) = some (if tab.getD (rg R (j + 1)).toNat none = some [rg R (j + 1), 0] then [rg R j, rg R (j + 1), 0] else [rg R j, 0]) := by
  have hm : 0 < R.length := by have := h.m; omega
  have b0 := h.k _ (rg_mem hm j)
  have b1 := h.k _ (rg_mem hm (j + 1))
  have n1 : 1 ≤ s.n := by omega
  have ok0 : s.ok 0 := ⟨Int.le_refl _, by omega⟩
  have okx : s.ok (rg R j) := ⟨by omega, by omega⟩
  have ne : rg R j ≠ rg R (j + 1) := fun z => by
    have := rg_inj hm h.d z
    have h2 := h.m
    have b := Nat.mod_lt j hm
    rw [Nat.add_mod, Nat.mod_eq_of_lt (show 1 < R.length by omega)] at this
    by_cases c : j % R.length + 1 < R.length
    · rw [Nat.mod_eq_of_lt c] at this; omega
    · rw [show j % R.length + 1 = R.length by omega, Nat.mod_self] at this; omega
  have tells : ∀ r, some r ∈ s.row tab (rg R j) → ∃ y, s.ok y ∧ tab.getD y.toNat none = some r := fun r hr => by
    obtain ⟨y, hy, e⟩ := List.mem_map.mp hr
    exact ⟨y, (nb_mem.mp hy).1, e⟩
  have has : ∀ y, s.ok y → s.T (rg R j) y = true → ∀ r, tab.getD y.toNat none = some r → some r ∈ s.row tab (rg R j) := fun y hy t r e => List.mem_map.mpr ⟨y, nb_mem.mpr ⟨hy, t⟩, e⟩
  split
  · rename_i c
    refine chosen_top (by omega) (fun r hr t => ?_) ⟨[rg R (j + 1), 0], has _ ⟨by omega, by omega⟩ (h.t1 j) _ c, h.take ?_, rfl⟩
    · by_cases e : r = [rg R (j + 1), 0]
      · exact .inl (by rw [e])
      · refine .inr (better_rank ?_)
        rw [h.rank0 j e]; exact h.rank1 j
    · simp only [List.mem_cons, List.not_mem_nil, or_false, not_or]
      exact ⟨ne, by omega⟩
  · rename_i c
    have hne : ∀ r, some r ∈ s.row tab (rg R j) → r ≠ [rg R (j + 1), 0] := fun r hr z => by
      obtain ⟨y, hy, e⟩ := tells r hr
      have := (hh y r hy e).2
      rw [z] at this
      injection this with this
      rw [← this, z] at e
      exact c e
    refine chosen_top (by omega) (fun r hr t => ?_) ⟨[0], has 0 ok0 (h.t0 j) _ e0, h.take ?_, rfl⟩
    · by_cases e : r = [0]
      · exact .inl (by rw [e])
      · refine .inr (better_short ?_ ?_)
        · rw [h.rank0 j (hne r hr), h.rank0 j (by simp)]
        · obtain ⟨y, hy, e2⟩ := tells r hr
          obtain ⟨t1, t2⟩ := hh y r hy e2
          match r, e, t1, t2 with
          | [], _, _, t2 => cases t2
          | [z], e, t1, _ =>
            have h9 : some z = some (0 : Int) := t1.2.1
            rw [Option.some.inj h9] at e; exact absurd rfl e
          | _ :: _ :: _, _, _, _ => simp
    · simp only [List.mem_cons, List.not_mem_nil, or_false]
      omega
def altR (R : List Int) (b j : Nat) : List Int := if j % 2 = b then [rg R j, 0] else [rg R j, rg R (j + 1), 0]
def tabGo (R : List Int) (b : Nat) (k : Nat) : Tab := (List.range k).foldl (fun t j => t.set (rg R j).toNat (some (altR R b j))) (some [0] :: List.replicate R.length none)
def tabB (R : List Int) (b : Nat) : Tab := tabGo R b R.length
theorem tabGo_succ (R : List Int) (b k : Nat) : tabGo R b (k + 1) = (tabGo R b k).set (rg R k).toNat (some (altR R b k)) := by
  unfold tabGo
  rw [List.range_succ, List.foldl_append]; rfl
theorem tabGo_len (R : List Int) (b : Nat) : ∀ k, (tabGo R b k).length = 1 + R.length
  | 0 => by unfold tabGo; simp; omega
  | k + 1 => by rw [tabGo_succ, List.length_set, tabGo_len R b k]
structure RingAll (R : List Int) : Prop where
  m : 2 ≤ R.length
  d : R.Nodup
  k : ∀ x ∈ R, 1 ≤ x ∧ x ≤ (R.length : Int)
theorem RingAll.has {R : List Int} (h : RingAll R) {x : Int} (h1 : 1 ≤ x) (h2 : x ≤ (R.length : Int)) : ∃ j, j < R.length ∧ x = rg R j := by
  have hm : x ∈ R := by
    refine Classical.byContradiction fun hx => ?_
    have hd : ((x :: R).map fun y => y - 1).Nodup := by
      unfold List.Nodup
      rw [List.pairwise_map]
      exact (List.nodup_cons.mpr ⟨hx, h.d⟩).imp fun {a b} hab z => hab (by omega)
    have := nodup_le R.length _ hd fun g hg => by
      obtain ⟨y, hy, rfl⟩ := List.mem_map.mp hg
      rcases List.mem_cons.mp hy with rfl | hy
      · omega
      · have := h.k y hy; omega
    rw [List.length_map, List.length_cons] at this
    omega
  obtain ⟨j, hj, e⟩ := List.getElem_of_mem hm
  refine ⟨j, hj, ?_⟩
  have hp : 0 < R.length := by omega
  rw [rg_get hp, ← e]
  congr 1
  exact (Nat.mod_eq_of_lt hj).symm
theorem tabGo_get {R : List Int} (h : RingAll R) (b : Nat) : ∀ k, k ≤ R.length → (tabGo R b k).getD 0 none = some [0] ∧ ∀ j, j < k → (tabGo R b k).getD (rg R j).toNat none = some (altR R b j)
  | 0, _ => ⟨rfl, fun j hj => absurd hj (Nat.not_lt_zero _)⟩
  | k + 1, hk => by
    obtain ⟨h1, h2⟩ := tabGo_get h b k (by omega)
    have hp : 0 < R.length := by have := h.m; omega
    have gt : ∀ j, 1 ≤ rg R j ∧ rg R j ≤ R.length := fun j => h.k _ (rg_mem hp j)
    rw [tabGo_succ]
    refine ⟨?_, fun j hj => ?_⟩
    · rw [List.getD_eq_getElem?_getD, List.getElem?_set_ne (by have := gt k; omega), ← List.getD_eq_getElem?_getD]; exact h1
    · by_cases c : j = k
      · subst c
        rw [List.getD_eq_getElem?_getD, List.getElem?_set_self (by rw [tabGo_len]; have := gt j; omega)]; rfl
      · have ne : (rg R k).toNat ≠ (rg R j).toNat := fun z => by
          have a := gt j
          have b := gt k
          have e : rg R j = rg R k := by omega
          have := rg_inj hp h.d e
          rw [Nat.mod_eq_of_lt (by omega), Nat.mod_eq_of_lt (by omega)] at this
          exact c this
        rw [List.getD_eq_getElem?_getD, List.getElem?_set_ne ne, ← List.getD_eq_getElem?_getD]
        exact h2 j (by omega)
theorem tabB_get {R : List Int} (h : RingAll R) (he : R.length % 2 = 0) (b j : Nat) : (tabB R b).getD (rg R j).toNat none = some (altR R b j) := by
  have hp : 0 < R.length := by have := h.m; omega
  have := (tabGo_get h b R.length (Nat.le_refl _)).2 (j % R.length) (Nat.mod_lt _ hp)
  rw [rg_mod] at this
  show (tabGo R b R.length).getD _ _ = _
  rw [this]
  unfold altR
  have e1 : j % R.length % 2 = j % 2 := Nat.mod_mod_of_dvd j (Nat.dvd_of_mod_eq_zero he)
  have e2 : rg R (j % R.length + 1) = rg R (j + 1) := by
    rw [← rg_mod R (j % R.length + 1), ← rg_mod R (j + 1), Nat.add_mod, Nat.mod_mod, ← Nat.add_mod]
  rw [e1, e2, rg_mod]
theorem tabB_zero {R : List Int} (h : RingAll R) (b : Nat) : (tabB R b).getD 0 none = some [0] := (tabGo_get h b R.length (Nat.le_refl _)).1
theorem tabB_len (R : List Int) (b : Nat) : (tabB R b).length = 1 + R.length := tabGo_len R b _
theorem tab_ext {R : List Int} (h : RingAll R) {t t' : Tab} (l : t.length = 1 + R.length) (l' : t'.length = 1 + R.length) (e0 : t.getD 0 none = t'.getD 0 none) (e : ∀ j, j < R.length → t.getD (rg R j).toNat none = t'.getD (rg R j).toNat none) : t = t' := by
  refine List.ext_getElem (by rw [l, l']) fun i h1 h2 => ?_
  have key : t.getD i none = t'.getD i none := by
    by_cases c : i = 0
    · rw [c]; exact e0
    · obtain ⟨j, hj, ej⟩ := h.has (x := (i : Int)) (by omega) (by omega)
      have := e j hj
      rw [← ej] at this
      exact this
  rw [List.getD_eq_getElem?_getD, List.getD_eq_getElem?_getD, List.getElem?_eq_getElem h1, List.getElem?_eq_getElem h2] at key
  exact key
theorem altR_ok {s : GS} {R : List Int} (h : RingOk s R) (b j : Nat) : s.told (altR R b j) ∧ (altR R b j).head? = some (rg R j) := by
  have hm : 0 < R.length := by have := h.m; omega
  have L : RingL R s.n := ⟨h.m, h.d, h.k⟩
  have b0 := h.k _ (rg_mem hm j)
  unfold altR
  split
  · refine ⟨⟨fun x hx => ?_, rfl, ?_⟩, rfl⟩
    · simp only [List.mem_cons, List.not_mem_nil, or_false] at hx
      exact ⟨by omega, by omega⟩
    · simp only [List.nodup_cons, List.mem_cons, List.not_mem_nil, or_false, List.nodup_nil, and_true, not_false_eq_true]
      omega
  · have := (rok_n (s := s) (s' := GS.new s.n) rfl).mpr (L.road j)
    exact ⟨⟨this.1, this.2.2.1, this.2.2.2⟩, rfl⟩
theorem RingOk.two {s : GS} {R : List Int} (h : RingOk s R) (ha : RingAll R) (hn : s.n = 1 + R.length) (he : R.length % 2 = 0) {tab : Tab} : Settled s tab ↔ tab = tabB R 0 ∨ tab = tabB R 1 := by
  have hp : 0 < R.length := by have := ha.m; omega
  have n1 : 1 ≤ s.n := by omega
  constructor
  · intro st
    have flip : ∀ j, (tab.getD (rg R j).toNat none = some [rg R j, 0]) ↔ ¬ (tab.getD (rg R (j + 1)).toNat none = some [rg R (j + 1), 0]) := fun j => by
      have e := h.step st j
      constructor
      · intro z z2
        rw [if_pos z2, z] at e
        injection e with e
        injection e with _ e
        injection e with _ e
        cases e
      · intro z
        rw [if_neg z] at e
        exact e
    have all : ∀ i : Nat, (tab.getD (rg R 0).toNat none = some [rg R 0, 0]) ↔ (if i % 2 = 0 then (tab.getD (rg R i).toNat none = some [rg R i, 0]) else ¬ (tab.getD (rg R i).toNat none = some [rg R i, 0])) := by
      intro i
      induction i with
      | zero => exact Iff.rfl
      | succ i ih =>
        rw [ih]
        by_cases c : i % 2 = 0
        · rw [if_pos c, if_neg (by omega)]; exact flip i
        · rw [if_neg c, if_pos (by omega), flip i, Classical.not_not]
    have zero : tab.getD 0 none = some [0] := by
      have := st.e 0 ⟨Int.le_refl _, by omega⟩
      unfold GS.chosen at this
      rw [if_pos rfl] at this
      exact this
    by_cases c0 : tab.getD (rg R 0).toNat none = some [rg R 0, 0]
    · refine .inl (tab_ext ha (by rw [st.len, hn]) (tabB_len R 0) (by rw [zero, tabB_zero ha]) fun j _ => ?_)
      rw [tabB_get ha he]
      unfold altR
      have hj := (all j).mp c0
      by_cases cj : j % 2 = 0
      · rw [if_pos cj] at hj ⊢; exact hj
      · rw [if_neg cj] at hj ⊢
        have hj1 := (all (j + 1)).mp c0
        rw [if_pos (by omega)] at hj1
        rw [h.step st j, if_pos hj1]
    · refine .inr (tab_ext ha (by rw [st.len, hn]) (tabB_len R 1) (by rw [zero, tabB_zero ha]) fun j _ => ?_)
      rw [tabB_get ha he]
      unfold altR
      have nall : ∀ i, ¬ (if i % 2 = 0 then (tab.getD (rg R i).toNat none = some [rg R i, 0]) else ¬ (tab.getD (rg R i).toNat none = some [rg R i, 0])) := fun i z => c0 ((all i).mpr z)
      have hj := nall j
      by_cases cj : j % 2 = 1
      · rw [if_neg (by omega), Classical.not_not] at hj
        rw [if_pos cj]; exact hj
      · rw [if_pos (by omega)] at hj
        rw [if_neg cj]
        have hj1 := nall (j + 1)
        rw [if_neg (by omega), Classical.not_not] at hj1
        rw [h.step st j, if_pos hj1]
  · have key : ∀ b, b = 0 ∨ b = 1 → Settled s (tabB R b) := fun b hb => by
      have get : ∀ x r, s.ok x → (tabB R b).getD x.toNat none = some r → s.told r ∧ r.head? = some x := fun x r hx e => by
        by_cases c : x = 0
        · subst c
          rw [show (0 : Int).toNat = 0 from rfl, tabB_zero ha] at e
          cases e
          exact ⟨⟨fun y hy => by rw [List.mem_singleton.mp hy]; exact hx, rfl, nodup_one 0⟩, rfl⟩
        · obtain ⟨j, _, rfl⟩ := ha.has (x := x) (by have := hx.1; omega) (by have := hx.2; omega)
          rw [tabB_get ha he] at e
          cases e
          exact altR_ok h b j
      refine ⟨by rw [tabB_len, hn], fun x hx => ?_, fun r hr => ?_⟩
      · by_cases c : x = 0
        · subst c
          unfold GS.chosen
          rw [if_pos rfl]
          exact tabB_zero ha b
        · obtain ⟨j, _, rfl⟩ := ha.has (x := x) (by have := hx.1; omega) (by have := hx.2; omega)
          rw [h.choose (tabB_zero ha b) (fun y r hy e => get y r hy e) j, tabB_get ha he, tabB_get ha he]
          unfold altR
          congr 1
          by_cases cj : j % 2 = b
          · rw [if_pos cj, if_neg (show ¬ ((j + 1) % 2 = b) by omega)]
            rw [if_neg]
            intro z
            injection z with z
            injection z with _ z
            injection z with _ z
            cases z
          · rw [if_neg cj, if_pos (show (j + 1) % 2 = b by omega), if_pos rfl]
      · obtain ⟨i, hi, e⟩ := List.getElem_of_mem hr
        rw [tabB_len] at hi
        refine (get (i : Nat) r ⟨by omega, by omega⟩ ?_).1
        rw [Int.toNat_natCast, List.getD_eq_getElem?_getD, List.getElem?_eq_getElem (by rw [tabB_len]; exact hi), e]; rfl
    rintro (rfl | rfl)
    · exact key 0 (.inl rfl)
    · exact key 1 (.inr rfl)
theorem sorted_two {α : Type} {f : α → List Int} {l : List α} {x y : α} (hp : l.Pairwise fun a b => f a < f b) (hm : ∀ a, a ∈ l ↔ a = x ∨ a = y) (hxy : x ≠ y) : l = if f y < f x then [y, x] else [x, y] := by
  have irr : ∀ a b : α, f a < f b → a ≠ b := fun a b h z => by rw [z] at h; exact List.lt_irrefl _ h
  match l, hp, hm with
  | [], _, hm => exact absurd ((hm x).mpr (.inl rfl)) (by simp)
  | [a], _, hm =>
    have h1 := (hm x).mpr (.inl rfl)
    have h2 := (hm y).mpr (.inr rfl)
    rw [List.mem_singleton] at h1 h2
    exact absurd (h1.trans h2.symm) hxy
  | [a, b], hp, hm =>
    rw [List.pairwise_cons] at hp
    have hab := hp.1 b (by simp)
    have ne := irr _ _ hab
    rcases (hm a).mp (by simp) with rfl | rfl
    · rcases (hm b).mp (by simp) with rfl | rfl
      · exact absurd rfl ne
      · rw [if_neg (List.lt_asymm hab)]
    · rcases (hm b).mp (by simp) with rfl | rfl
      · rw [if_pos hab]
      · exact absurd rfl ne
  | a :: b :: c :: t, hp, hm =>
    rw [List.pairwise_cons, List.pairwise_cons] at hp
    have n1 := irr _ _ (hp.1 b (by simp))
    have n2 := irr _ _ (hp.1 c (by simp))
    have n3 := irr _ _ (hp.2.1 c (by simp))
    rcases (hm a).mp (by simp) with rfl | rfl <;> rcases (hm b).mp (by simp) with rfl | rfl <;> rcases (hm c).mp (by simp) with rfl | rfl <;> first | exact absurd rfl n1 | exact absurd rfl n2 | exact absurd rfl n3

end DL
namespace DL
open PySem L2
def t_k21_law_guild_of (K : PySem.W.Frag) (a : CA) (W : WD) : TDS :=
  (dSeq (dAsg (dCB lenD (dCons (dVar 0) dNil)) (dgN 2))
  (dSeq (dAsg (dMake a.Guild (sp_Guild_init a) W (dCons (dOp (addD false) (dC (.int 1)) (dVar 2)) dNil)) (dgN 3))
  (dSeq (dFor1 (dCons (dVar 2) dNil) (dgN 4)
    (dSeq (dAsg (dOp ixD (dVar 0) (dOp modD (dOp (addD false) (dVar 4) (dC (.int 1))) (dVar 2))) (dgN 5))
    (dSeq (dDrop (dMeth a.Guild "lay_way" (sp_Guild_lay_way a) W (dVar 3) (dCons (dOp ixD (dVar 0) (dVar 4)) (dCons (dC (.int 0)) dNil))))
    (dSeq (dIfS (dNotT (dB (dMeth a.Guild "has_way" (sp_Guild_has_way a) W (dVar 3) (dCons (dOp ixD (dVar 0) (dVar 4)) (dCons (dVar 5) dNil)))))
      (dDrop (dMeth a.Guild "lay_way" (sp_Guild_lay_way a) W (dVar 3) (dCons (dOp ixD (dVar 0) (dVar 4)) (dCons (dVar 5) dNil))))
      dNext)
    (dDrop (dMeth a.Guild "wish" (sp_Guild_wish a) W (dVar 3) (dCons (dLst false (dCons (dOp ixD (dVar 0) (dVar 4)) (dCons (dVar 5) (dCons (dC (.int 0)) dNil)))) (dCons (dOp (addD false) (dC (.int 1)) (dOp modD (dOp (addD false) (dVar 1) (dOp mulD (dVar 4) (dVar 4))) (dOp powD (dC (.int 10)) (dC (.int 30))))) dNil))))))))
  (dRet (dVar 3)))))
abbrev N_k21_law_guild_of : List Str := ["ring", "cell", "many", "guild", "k", "far"]
def sp_k21_law_guild_of (a : CA) : DSp := fun ds S P E => ∃ (R : List Int) (cell : Int), ds = [.lst (R.map .int), .int cell] ∧ RingAll R ∧ R.length ≤ 40 ∧
  ∀ (A : GA) (s : GS) (S' : Sto), GAt a S' A s R.length → RingOk s R → s.n = 1 + R.length → FreshG S S' A → P (.ref A.g) S'
theorem len_k21_law_guild_of (a : CA) (ds : List D) (S : Sto) (Q : D → Sto → Prop) (E : Addr → Sto → Prop) (h : sp_k21_law_guild_of a ds S Q E) : ds.length = ["ring", "cell"].length := by
  obtain ⟨_, _, rfl, _⟩ := h; rfl
theorem read_k21_law_guild_of (K : PySem.W.Frag) (a : CA) (ds : List D) (S : Sto) (Q : D → Sto → Prop) (E : Addr → Sto → Prop) (h : sp_k21_law_guild_of a ds S Q E) : t_k21_law_guild_of K a (wishOf E) (endsOf Q) (dstart N_k21_law_guild_of ds) S := by
  obtain ⟨R, cell, rfl, ha, hle, q⟩ := h
  have hs : sizeLine = 2 ^ 24 := rfl
  obtain ⟨n, en⟩ : ∃ n : Nat, n = 1 + R.length := ⟨_, rfl⟩
  have h2 := ha.m
  have L : RingL R n := ⟨ha.m, ha.d, fun x hx => by have := ha.k x hx; omega⟩
  have hat : ∀ j : Nat, j < R.length → atI (R.map D.int) (0 + (j : Nat)) = some (.int (rg R j)) := fun j hj => by
    rw [atI_tab D.int R (by omega) (by omega), rg_get L.pos]
    congr 2
    have : (0 + (j : Nat) : Int).toNat = j % R.length := by rw [Nat.mod_eq_of_lt hj]; omega
    simp only [this]
  have hat1 : ∀ j : Nat, j < R.length → atI (R.map D.int) ((0 + (j : Nat) + 1) % (R.length : Int)) = some (.int (rg R (j + 1))) := fun j hj => by
    have e1 : (0 + (j : Nat) + 1 : Int) % (R.length : Int) = (((j + 1) % R.length : Nat) : Int) := by rw [Int.natCast_emod]; congr 1; omega
    have := Nat.mod_lt (j + 1) L.pos
    rw [e1, atI_tab D.int R (by omega) (by omega), rg_get L.pos]
    congr 2
  simp only [t_k21_law_guild_of, N_k21_law_guild_of, dstart, List.map_cons, List.map_nil, List.length_cons, List.length_nil, List.cons_append, List.nil_append, List.replicate, Nat.add_one_sub_one, Nat.reduceAdd, Nat.reduceSub, Nat.sub_self, Nat.sub_zero]
  obtain ⟨T7, hT7⟩ : ∃ T, T = dMeth a.Guild "wish" (sp_Guild_wish a) (wishOf E) (dVar 3) (dCons (dLst false (dCons (dOp ixD (dVar 0) (dVar 4)) (dCons (dVar 5) (dCons (dC (.int 0)) dNil)))) (dCons (dOp (addD false) (dC (.int 1)) (dOp modD (dOp (addD false) (dVar 1) (dOp mulD (dVar 4) (dVar 4))) (dOp powD (dC (.int 10)) (dC (.int 30))))) dNil)) := ⟨_, rfl⟩
  rw [← hT7]
  rw [dSeq_ap]
  simp only [dIfS, dB, dOp, dVar, dCB, dCons, dNil, dRet, dRetN, dNext, dC, dAsg, dgN, dgT, dgSeq, dDrop, dCont, dAndT, dOrT, dNotT, dAndV, dOrV, dNotV, dIf, dIsN, dNotN, dNeg, dLst, dTup, dNewI, dCall, dMeth, dMake, dRaise, dFrz, dIsi, isiK, tyS, inst_NoneType_bool, inst_NoneType_int, inst_NoneType_str, inst_NoneType_list, inst_NoneType_tuple, inst_bool_bool, inst_bool_int, inst_bool_str, inst_bool_list, inst_bool_tuple, inst_int_bool, inst_int_int, inst_int_str, inst_int_list, inst_int_tuple, inst_str_bool, inst_str_int, inst_str_str, inst_str_list, inst_str_tuple, inst_list_bool, inst_list_int, inst_list_str, inst_list_list, inst_list_tuple, inst_tuple_bool, inst_tuple_int, inst_tuple_str, inst_tuple_list, inst_tuple_tuple, iiD, iiD0, subD, mulD, fdivD, modD, shrD, pow_10_6, pow_10_60, ltI, leI, gtI, geI, addI, addD, catD, scatD, lenD, lenS, ixD, ixL, ixLK, ixK, vl, vm, newL, i2D, absD, tupleD, dLM, dLM0, dFld, getF, dGet1, dGet2, getK, dSetIx, rng1, rng2, dFor1, dFor2, dFor, dForK, dstart, List.map_cons, List.map_nil, List.length_cons, List.length_nil, List.cons_append, List.nil_append, List.replicate, List.getElem?_cons_zero, List.getElem?_cons_succ, List.set_cons_zero, List.set_cons_succ, Option.isSome_some, Option.isNone_some, Option.isNone_none, Nat.add_one_sub_one, Nat.reduceAdd, Nat.reduceSub, Nat.sub_self, Nat.sub_zero, Bool.not_true, Bool.not_false, ↓reduceIte, Bool.false_eq_true, Bool.true_eq_false, okD_int, okD_bl, okD_non, dEq_int, dEq_bl, Bool.true_xor, Bool.false_xor, Bool.not_eq_true', decide_eq_true_eq, decide_eq_false_iff_not, true_and, Bool.and_true, Bool.and_false, Bool.true_and, Bool.false_and, at_0, at_1, at_2, cast0, cast1, cast2, cast3, not_true_eq_false, not_false_eq_true, eL, Option.map_some, Option.map_none, dSlL, slk, doNone, doSome, sortedTD, dLenSet, lsk, List.length_map]
  rw [dSeq_ap]
  simp only [dIfS, dB, dOp, dVar, dCB, dCons, dNil, dRet, dRetN, dNext, dC, dAsg, dgN, dgT, dgSeq, dDrop, dCont, dAndT, dOrT, dNotT, dAndV, dOrV, dNotV, dIf, dIsN, dNotN, dNeg, dLst, dTup, dNewI, dCall, dMeth, dMake, dRaise, dFrz, dIsi, isiK, tyS, inst_NoneType_bool, inst_NoneType_int, inst_NoneType_str, inst_NoneType_list, inst_NoneType_tuple, inst_bool_bool, inst_bool_int, inst_bool_str, inst_bool_list, inst_bool_tuple, inst_int_bool, inst_int_int, inst_int_str, inst_int_list, inst_int_tuple, inst_str_bool, inst_str_int, inst_str_str, inst_str_list, inst_str_tuple, inst_list_bool, inst_list_int, inst_list_str, inst_list_list, inst_list_tuple, inst_tuple_bool, inst_tuple_int, inst_tuple_str, inst_tuple_list, inst_tuple_tuple, iiD, iiD0, subD, mulD, fdivD, modD, shrD, pow_10_6, pow_10_60, ltI, leI, gtI, geI, addI, addD, catD, scatD, lenD, lenS, ixD, ixL, ixLK, ixK, vl, vm, newL, i2D, absD, tupleD, dLM, dLM0, dFld, getF, dGet1, dGet2, getK, dSetIx, rng1, rng2, dFor1, dFor2, dFor, dForK, dstart, List.map_cons, List.map_nil, List.length_cons, List.length_nil, List.cons_append, List.nil_append, List.replicate, List.getElem?_cons_zero, List.getElem?_cons_succ, List.set_cons_zero, List.set_cons_succ, Option.isSome_some, Option.isNone_some, Option.isNone_none, Nat.add_one_sub_one, Nat.reduceAdd, Nat.reduceSub, Nat.sub_self, Nat.sub_zero, Bool.not_true, Bool.not_false, ↓reduceIte, Bool.false_eq_true, Bool.true_eq_false, okD_int, okD_bl, okD_non, dEq_int, dEq_bl, Bool.true_xor, Bool.false_xor, Bool.not_eq_true', decide_eq_true_eq, decide_eq_false_iff_not, true_and, Bool.and_true, Bool.and_false, Bool.true_and, Bool.false_and, at_0, at_1, at_2, cast0, cast1, cast2, cast3, not_true_eq_false, not_false_eq_true, eL, Option.map_some, Option.map_none, dSlL, slk, doNone, doSome, sortedTD, dLenSet, lsk, List.length_map]
  intro x hx
  refine ⟨x, 1 + (R.length : Int), rfl, su_same, fun _ => fun A S2 e g f1 f2 => ⟨rfl, ?_⟩, fun z => absurd ⟨by omega, by omega⟩ z⟩
  rw [show (1 + (R.length : Int)).toNat = n by omega] at g
  have fr : FreshG S S2 A := ⟨fun b hb => by rw [f1 b hb, su_ne fun z => hb (by rw [z, ← e]; simp [GA.all])], fun b hb => by
    by_cases c : b = x
    · rw [c]; exact hx
    · have := f2 b hb c; rw [su_ne c] at this; exact this⟩
  subst e
  (try dsimp only)
  rw [dSeq_ap]
  simp only [dFor1, dCons, dNil, dVar, List.getElem?_cons_zero, List.getElem?_cons_succ, rng1]
  refine ⟨by omega, ?_⟩
  rw [show ((R.length : Nat) : Int).toNat = R.length by omega]
  refine dGo_rng (fun k ρ S' => ∃ (s : GS) (o4 o5 : Option D), ρ = [some (.lst (R.map .int)), some (.int cell), some (.int R.length), some (.ref A.g), o4, o5] ∧ GAt a S' A s k ∧ RingAt s R n k ∧ FreshG S S' A) ?_ ?_ _ _ ⟨_, _, _, rfl, g, RingAt.start, fr⟩
  · rintro ρ S' ⟨s, o4, o5, rfl, g, ra, fr⟩
    (try dsimp only)
    simp only [dIfS, dB, dOp, dVar, dCB, dCons, dNil, dRet, dRetN, dNext, dC, dAsg, dgN, dgT, dgSeq, dDrop, dCont, dAndT, dOrT, dNotT, dAndV, dOrV, dNotV, dIf, dIsN, dNotN, dNeg, dLst, dTup, dNewI, dCall, dMeth, dMake, dRaise, dFrz, dIsi, isiK, tyS, inst_NoneType_bool, inst_NoneType_int, inst_NoneType_str, inst_NoneType_list, inst_NoneType_tuple, inst_bool_bool, inst_bool_int, inst_bool_str, inst_bool_list, inst_bool_tuple, inst_int_bool, inst_int_int, inst_int_str, inst_int_list, inst_int_tuple, inst_str_bool, inst_str_int, inst_str_str, inst_str_list, inst_str_tuple, inst_list_bool, inst_list_int, inst_list_str, inst_list_list, inst_list_tuple, inst_tuple_bool, inst_tuple_int, inst_tuple_str, inst_tuple_list, inst_tuple_tuple, iiD, iiD0, subD, mulD, fdivD, modD, shrD, pow_10_6, pow_10_60, ltI, leI, gtI, geI, addI, addD, catD, scatD, lenD, lenS, ixD, ixL, ixLK, ixK, vl, vm, newL, i2D, absD, tupleD, dLM, dLM0, dFld, getF, dGet1, dGet2, getK, dSetIx, rng1, rng2, dFor1, dFor2, dFor, dForK, dstart, List.map_cons, List.map_nil, List.length_cons, List.length_nil, List.cons_append, List.nil_append, List.replicate, List.getElem?_cons_zero, List.getElem?_cons_succ, List.set_cons_zero, List.set_cons_succ, Option.isSome_some, Option.isNone_some, Option.isNone_none, Nat.add_one_sub_one, Nat.reduceAdd, Nat.reduceSub, Nat.sub_self, Nat.sub_zero, Bool.not_true, Bool.not_false, ↓reduceIte, Bool.false_eq_true, Bool.true_eq_false, okD_int, okD_bl, okD_non, dEq_int, dEq_bl, Bool.true_xor, Bool.false_xor, Bool.not_eq_true', decide_eq_true_eq, decide_eq_false_iff_not, true_and, Bool.and_true, Bool.and_false, Bool.true_and, Bool.false_and, at_0, at_1, at_2, cast0, cast1, cast2, cast3, not_true_eq_false, not_false_eq_true, eL, Option.map_some, Option.map_none, dSlL, slk, doNone, doSome, sortedTD, dLenSet, lsk]
    exact rt_of (q A s S' g (ra.ok L) (by rw [ra.hn, en]) fr)
  · rintro k ρ S' N hk ⟨s, o4, o5, rfl, g, ra, fr⟩ hN
    have a0 := L.at k
    have a1 := L.at (k + 1)
    have ne := L.ne k
    have t0 := ra.no0 L hk
    simp only [dgN, List.set_cons_zero, List.set_cons_succ]
    rw [dSeq_ap]
    simp only [dIfS, dB, dOp, dVar, dCB, dCons, dNil, dRet, dRetN, dNext, dC, dAsg, dgN, dgT, dgSeq, dDrop, dCont, dAndT, dOrT, dNotT, dAndV, dOrV, dNotV, dIf, dIsN, dNotN, dNeg, dLst, dTup, dNewI, dCall, dMeth, dMake, dRaise, dFrz, dIsi, isiK, tyS, inst_NoneType_bool, inst_NoneType_int, inst_NoneType_str, inst_NoneType_list, inst_NoneType_tuple, inst_bool_bool, inst_bool_int, inst_bool_str, inst_bool_list, inst_bool_tuple, inst_int_bool, inst_int_int, inst_int_str, inst_int_list, inst_int_tuple, inst_str_bool, inst_str_int, inst_str_str, inst_str_list, inst_str_tuple, inst_list_bool, inst_list_int, inst_list_str, inst_list_list, inst_list_tuple, inst_tuple_bool, inst_tuple_int, inst_tuple_str, inst_tuple_list, inst_tuple_tuple, iiD, iiD0, subD, mulD, fdivD, modD, shrD, pow_10_6, pow_10_60, ltI, leI, gtI, geI, addI, addD, catD, scatD, lenD, lenS, ixD, ixL, ixLK, ixK, vl, vm, newL, i2D, absD, tupleD, dLM, dLM0, dFld, getF, dGet1, dGet2, getK, dSetIx, rng1, rng2, dFor1, dFor2, dFor, dForK, dstart, List.map_cons, List.map_nil, List.length_cons, List.length_nil, List.cons_append, List.nil_append, List.replicate, List.getElem?_cons_zero, List.getElem?_cons_succ, List.set_cons_zero, List.set_cons_succ, Option.isSome_some, Option.isNone_some, Option.isNone_none, Nat.add_one_sub_one, Nat.reduceAdd, Nat.reduceSub, Nat.sub_self, Nat.sub_zero, Bool.not_true, Bool.not_false, ↓reduceIte, Bool.false_eq_true, Bool.true_eq_false, okD_int, okD_bl, okD_non, dEq_int, dEq_bl, Bool.true_xor, Bool.false_xor, Bool.not_eq_true', decide_eq_true_eq, decide_eq_false_iff_not, true_and, Bool.and_true, Bool.and_false, Bool.true_and, Bool.false_and, at_0, at_1, at_2, cast0, cast1, cast2, cast3, not_true_eq_false, not_false_eq_true, eL, Option.map_some, Option.map_none, dSlL, slk, doNone, doSome, sortedTD, dLenSet, lsk, hat1 k hk]
    refine ⟨by omega, ?_⟩
    rw [dSeq_ap]
    simp only [dIfS, dB, dOp, dVar, dCB, dCons, dNil, dRet, dRetN, dNext, dC, dAsg, dgN, dgT, dgSeq, dDrop, dCont, dAndT, dOrT, dNotT, dAndV, dOrV, dNotV, dIf, dIsN, dNotN, dNeg, dLst, dTup, dNewI, dCall, dMeth, dMake, dRaise, dFrz, dIsi, isiK, tyS, inst_NoneType_bool, inst_NoneType_int, inst_NoneType_str, inst_NoneType_list, inst_NoneType_tuple, inst_bool_bool, inst_bool_int, inst_bool_str, inst_bool_list, inst_bool_tuple, inst_int_bool, inst_int_int, inst_int_str, inst_int_list, inst_int_tuple, inst_str_bool, inst_str_int, inst_str_str, inst_str_list, inst_str_tuple, inst_list_bool, inst_list_int, inst_list_str, inst_list_list, inst_list_tuple, inst_tuple_bool, inst_tuple_int, inst_tuple_str, inst_tuple_list, inst_tuple_tuple, iiD, iiD0, subD, mulD, fdivD, modD, shrD, pow_10_6, pow_10_60, ltI, leI, gtI, geI, addI, addD, catD, scatD, lenD, lenS, ixD, ixL, ixLK, ixK, vl, vm, newL, i2D, absD, tupleD, dLM, dLM0, dFld, getF, dGet1, dGet2, getK, dSetIx, rng1, rng2, dFor1, dFor2, dFor, dForK, dstart, List.map_cons, List.map_nil, List.length_cons, List.length_nil, List.cons_append, List.nil_append, List.replicate, List.getElem?_cons_zero, List.getElem?_cons_succ, List.set_cons_zero, List.set_cons_succ, Option.isSome_some, Option.isNone_some, Option.isNone_none, Nat.add_one_sub_one, Nat.reduceAdd, Nat.reduceSub, Nat.sub_self, Nat.sub_zero, Bool.not_true, Bool.not_false, ↓reduceIte, Bool.false_eq_true, Bool.true_eq_false, okD_int, okD_bl, okD_non, dEq_int, dEq_bl, Bool.true_xor, Bool.false_xor, Bool.not_eq_true', decide_eq_true_eq, decide_eq_false_iff_not, true_and, Bool.and_true, Bool.and_false, Bool.true_and, Bool.false_and, at_0, at_1, at_2, cast0, cast1, cast2, cast3, not_true_eq_false, not_false_eq_true, eL, Option.map_some, Option.map_none, dSlL, slk, doNone, doSome, sortedTD, dLenSet, lsk, g.g, onIns, gf_houses, gf_ties, gf_shy, gf_fond, gf_longings, gfm_see_house, gfm_see_two, gfm_size, gfm_neighbours, gfm_has_way, gfm_lay_way, gfm_lift_way, gfm_like, gfm_liking, gfm_shun, gfm_shunned, gfm_see_road, gfm_wish, gfm_wishes, gfm_rank_of, gp_houses, gp_ties, gp_shy, gp_fond, gp_longings, hat k hk]
    refine ⟨A, s, k, rg R k, 0, rfl, g, fun z => absurd ⟨⟨by omega, by rw [ra.hn]; omega⟩, ⟨by omega, by rw [ra.hn]; omega⟩, by omega⟩ z, fun _ z => (by rw [t0] at z; cases z), fun _ _ => ⟨by rw [← ra.sy]; exact t0, fun S2 g2 f2 => ?_⟩⟩
    (try dsimp only)
    have okk : (s.lay (rg R k) 0).ok (rg R k) := ⟨by omega, by show rg R k < (s.n : Int); rw [ra.hn]; omega⟩
    have okk1 : (s.lay (rg R k) 0).ok (rg R (k + 1)) := ⟨by omega, by show rg R (k + 1) < (s.n : Int); rw [ra.hn]; omega⟩
    have sy1 : ∀ u v, (s.lay (rg R k) 0).T u v = (s.lay (rg R k) 0).T v u := fun u v => by
      rw [Bool.eq_iff_iff, lay_T, lay_T, ra.sy]
      constructor
      · rintro (z | z | z)
        · exact .inl z
        · exact .inr (.inr ⟨z.2, z.1⟩)
        · exact .inr (.inl ⟨z.2, z.1⟩)
      · rintro (z | z | z)
        · exact .inl z
        · exact .inr (.inr ⟨z.2, z.1⟩)
        · exact .inr (.inl ⟨z.2, z.1⟩)
    have fin : ∀ S3, GAt a S3 A ((s.lay (rg R k) 0).lay (rg R k) (rg R (k + 1))) k → FreshG S S3 A →
        dDrop T7 { nx := N, ct := N, bk := dRet (dVar 3) (endsOf Q), rt := (endsOf Q).rt } [some (.lst (R.map .int)), some (.int cell), some (.int R.length), some (.ref A.g), some (.int (0 + (k : Nat))), some (.int (rg R (k + 1)))] S3 := by
      intro S3 g3 fr3
      rw [hT7]
      simp only [dIfS, dB, dOp, dVar, dCB, dCons, dNil, dRet, dRetN, dNext, dC, dAsg, dgN, dgT, dgSeq, dDrop, dCont, dAndT, dOrT, dNotT, dAndV, dOrV, dNotV, dIf, dIsN, dNotN, dNeg, dLst, dTup, dNewI, dCall, dMeth, dMake, dRaise, dFrz, dIsi, isiK, tyS, inst_NoneType_bool, inst_NoneType_int, inst_NoneType_str, inst_NoneType_list, inst_NoneType_tuple, inst_bool_bool, inst_bool_int, inst_bool_str, inst_bool_list, inst_bool_tuple, inst_int_bool, inst_int_int, inst_int_str, inst_int_list, inst_int_tuple, inst_str_bool, inst_str_int, inst_str_str, inst_str_list, inst_str_tuple, inst_list_bool, inst_list_int, inst_list_str, inst_list_list, inst_list_tuple, inst_tuple_bool, inst_tuple_int, inst_tuple_str, inst_tuple_list, inst_tuple_tuple, iiD, iiD0, subD, mulD, fdivD, modD, shrD, pow_10_6, pow_10_60, ltI, leI, gtI, geI, addI, addD, catD, scatD, lenD, lenS, ixD, ixL, ixLK, ixK, vl, vm, newL, i2D, absD, tupleD, dLM, dLM0, dFld, getF, dGet1, dGet2, getK, dSetIx, rng1, rng2, dFor1, dFor2, dFor, dForK, dstart, List.map_cons, List.map_nil, List.length_cons, List.length_nil, List.cons_append, List.nil_append, List.replicate, List.getElem?_cons_zero, List.getElem?_cons_succ, List.set_cons_zero, List.set_cons_succ, Option.isSome_some, Option.isNone_some, Option.isNone_none, Nat.add_one_sub_one, Nat.reduceAdd, Nat.reduceSub, Nat.sub_self, Nat.sub_zero, Bool.not_true, Bool.not_false, ↓reduceIte, Bool.false_eq_true, Bool.true_eq_false, okD_int, okD_bl, okD_non, dEq_int, dEq_bl, Bool.true_xor, Bool.false_xor, Bool.not_eq_true', decide_eq_true_eq, decide_eq_false_iff_not, true_and, Bool.and_true, Bool.and_false, Bool.true_and, Bool.false_and, at_0, at_1, at_2, cast0, cast1, cast2, cast3, not_true_eq_false, not_false_eq_true, eL, Option.map_some, Option.map_none, dSlL, slk, doNone, doSome, sortedTD, dLenSet, lsk, g3.g, onIns, gf_houses, gf_ties, gf_shy, gf_fond, gf_longings, gfm_see_house, gfm_see_two, gfm_size, gfm_neighbours, gfm_has_way, gfm_lay_way, gfm_lift_way, gfm_like, gfm_liking, gfm_shun, gfm_shunned, gfm_see_road, gfm_wish, gfm_wishes, gfm_rank_of, gp_houses, gp_ties, gp_shy, gp_fond, gp_longings, hat k hk]
      refine ⟨by simp [sizeLine], .inl ⟨by omega, by omega⟩, ?_⟩
      simp only [powD, iiD]
      refine ⟨⟨by decide, by decide, by decide⟩, by decide, ?_⟩
      have v0 : 0 ≤ (cell + (0 + (k : Nat)) * (0 + (k : Nat))) % ((10 : Int) ^ (30 : Int).toNat) := Int.emod_nonneg _ (by decide)
      generalize (cell + (0 + (k : Nat)) * (0 + (k : Nat))) % ((10 : Int) ^ (30 : Int).toNat) = v at v0 ⊢
      have rk := (rok_n (s := ((s.lay (rg R k) 0).lay (rg R k) (rg R (k + 1)))) (s' := GS.new n) ra.hn).mpr (L.road k)
      refine ⟨A, _, k, _, [rg R k, rg R (k + 1), 0], 1 + v, rfl, g3, rfl, by simp, by omega, fun z => absurd rk.1 z, fun _ z => absurd rk.2 z, fun _ S4 g4 f4 => ?_⟩
      exact hN _ _ ⟨_, _, _, rfl, g4, ra.step L (by omega), fr3.step f4⟩
    rw [dSeq_ap]
    simp only [dIfS, dNotT, dB, dMeth, dCons, dNil, dVar, List.getElem?_cons_zero, List.getElem?_cons_succ, g2.g, onIns, gf_houses, gf_ties, gf_shy, gf_fond, gf_longings, gfm_see_house, gfm_see_two, gfm_size, gfm_neighbours, gfm_has_way, gfm_lay_way, gfm_lift_way, gfm_like, gfm_liking, gfm_shun, gfm_shunned, gfm_see_road, gfm_wish, gfm_wishes, gfm_rank_of, gp_houses, gp_ties, gp_shy, gp_fond, gp_longings, true_and, dOp, ixD, ixLK, vl, vm, ixL, hat k hk]
    refine ⟨A, _, k, rg R k, rg R (k + 1), rfl, g2, fun _ => ?_, fun z => absurd ⟨okk, okk1⟩ z⟩
    cases t1 : (s.lay (rg R k) 0).T (rg R k) (rg R (k + 1)) with
    | true =>
      simp only [Bool.not_true, Bool.false_eq_true, ↓reduceIte, dNext]
      have e9 : (s.lay (rg R k) 0).lay (rg R k) (rg R (k + 1)) = s.lay (rg R k) 0 := by
        have : ((s.lay (rg R k) 0).lay (rg R k) (rg R (k + 1))).T = (s.lay (rg R k) 0).T := by
          funext u v
          rw [Bool.eq_iff_iff, lay_T]
          constructor
          · rintro (z | ⟨rfl, rfl⟩ | ⟨rfl, rfl⟩)
            · exact z
            · exact t1
            · rw [sy1]; exact t1
          · exact fun z => .inl z
        show ({ (s.lay (rg R k) 0) with T := ((s.lay (rg R k) 0).lay (rg R k) (rg R (k + 1))).T } : GS) = s.lay (rg R k) 0
        rw [this]
      exact fin S2 (by rw [e9]; exact g2) (fr.step f2)
    | false =>
      simp only [Bool.not_false, ↓reduceIte]
      simp only [dIfS, dB, dOp, dVar, dCB, dCons, dNil, dRet, dRetN, dNext, dC, dAsg, dgN, dgT, dgSeq, dDrop, dCont, dAndT, dOrT, dNotT, dAndV, dOrV, dNotV, dIf, dIsN, dNotN, dNeg, dLst, dTup, dNewI, dCall, dMeth, dMake, dRaise, dFrz, dIsi, isiK, tyS, inst_NoneType_bool, inst_NoneType_int, inst_NoneType_str, inst_NoneType_list, inst_NoneType_tuple, inst_bool_bool, inst_bool_int, inst_bool_str, inst_bool_list, inst_bool_tuple, inst_int_bool, inst_int_int, inst_int_str, inst_int_list, inst_int_tuple, inst_str_bool, inst_str_int, inst_str_str, inst_str_list, inst_str_tuple, inst_list_bool, inst_list_int, inst_list_str, inst_list_list, inst_list_tuple, inst_tuple_bool, inst_tuple_int, inst_tuple_str, inst_tuple_list, inst_tuple_tuple, iiD, iiD0, subD, mulD, fdivD, modD, shrD, pow_10_6, pow_10_60, ltI, leI, gtI, geI, addI, addD, catD, scatD, lenD, lenS, ixD, ixL, ixLK, ixK, vl, vm, newL, i2D, absD, tupleD, dLM, dLM0, dFld, getF, dGet1, dGet2, getK, dSetIx, rng1, rng2, dFor1, dFor2, dFor, dForK, dstart, List.map_cons, List.map_nil, List.length_cons, List.length_nil, List.cons_append, List.nil_append, List.replicate, List.getElem?_cons_zero, List.getElem?_cons_succ, List.set_cons_zero, List.set_cons_succ, Option.isSome_some, Option.isNone_some, Option.isNone_none, Nat.add_one_sub_one, Nat.reduceAdd, Nat.reduceSub, Nat.sub_self, Nat.sub_zero, Bool.not_true, Bool.not_false, ↓reduceIte, Bool.false_eq_true, Bool.true_eq_false, okD_int, okD_bl, okD_non, dEq_int, dEq_bl, Bool.true_xor, Bool.false_xor, Bool.not_eq_true', decide_eq_true_eq, decide_eq_false_iff_not, true_and, Bool.and_true, Bool.and_false, Bool.true_and, Bool.false_and, at_0, at_1, at_2, cast0, cast1, cast2, cast3, not_true_eq_false, not_false_eq_true, eL, Option.map_some, Option.map_none, dSlL, slk, doNone, doSome, sortedTD, dLenSet, lsk, g2.g, onIns, gf_houses, gf_ties, gf_shy, gf_fond, gf_longings, gfm_see_house, gfm_see_two, gfm_size, gfm_neighbours, gfm_has_way, gfm_lay_way, gfm_lift_way, gfm_like, gfm_liking, gfm_shun, gfm_shunned, gfm_see_road, gfm_wish, gfm_wishes, gfm_rank_of, gp_houses, gp_ties, gp_shy, gp_fond, gp_longings, true_and, hat k hk]
      refine ⟨A, _, k, rg R k, rg R (k + 1), rfl, g2, fun z => absurd ⟨okk, okk1, ne⟩ z, fun _ z => (by rw [t1] at z; cases z), fun _ _ => ⟨by rw [sy1]; exact t1, fun S3 g3 f3 => ?_⟩⟩
      exact fin S3 g3 ((fr.step f2).step f3)
theorem x_k21_law_guild_of {a : CA} {R : List Int} {cell : Int} {S : Sto} {P : D → Sto → Prop} {E : Addr → Sto → Prop} (ha : RingAll R) (hle : R.length ≤ 40) (q : ∀ (A : GA) (s : GS) (S' : Sto), GAt a S' A s R.length → RingOk s R → s.n = 1 + R.length → FreshG S S' A → P (.ref A.g) S') : sp_k21_law_guild_of a [.lst (R.map .int), .int cell] S P E := ⟨R, cell, rfl, ha, hle, q⟩

end DL
namespace DL
open PySem L2
def t_law_table_of (K : PySem.W.Frag) (a : CA) (W : WD) : TDS :=
  (dSeq (dAsg (dOp (addD true) (dLst false (dCons (dLst false (dCons (dC (.int 0)) dNil)) dNil)) (dLc false (diL (dVar 0)) (dgN 3) dYes (dC .non) [3])) (dgN 2))
  (dSeq (dFor1 (dCons (dCB lenD (dCons (dVar 0) dNil)) dNil) (dgN 4)
    (dSeq (dSetIx (dVar 2) (dOp ixD (dVar 0) (dVar 4)) (dLst false (dCons (dOp ixD (dVar 0) (dVar 4)) (dCons (dC (.int 0)) dNil))))
    (dIfS (dB (dOp (eqR true) (dOp modD (dVar 4) (dC (.int 2))) (dVar 1)))
      (dSetIx (dVar 2) (dOp ixD (dVar 0) (dVar 4)) (dLst false (dCons (dOp ixD (dVar 0) (dVar 4)) (dCons (dOp ixD (dVar 0) (dOp modD (dOp (addD false) (dVar 4) (dC (.int 1))) (dCB lenD (dCons (dVar 0) dNil)))) (dCons (dC (.int 0)) dNil)))))
      dNext)))
  (dRet (dFrz (dVar 2)))))
abbrev N_law_table_of : List Str := ["ring", "start", "table", "house", "k"]
def sp_law_table_of (a : CA) : DSp := fun ds S P E => ∃ (R : List Int) (b : Nat), ds = [.lst (R.map .int), .int b] ∧ RingAll R ∧ R.length ≤ 40 ∧ b < 2 ∧ P (.lst ((tabB R b).map (eO eR))) S
theorem len_law_table_of (a : CA) (ds : List D) (S : Sto) (Q : D → Sto → Prop) (E : Addr → Sto → Prop) (h : sp_law_table_of a ds S Q E) : ds.length = ["ring", "start"].length := by
  obtain ⟨_, _, rfl, _⟩ := h; rfl
theorem read_law_table_of (K : PySem.W.Frag) (a : CA) (ds : List D) (S : Sto) (Q : D → Sto → Prop) (E : Addr → Sto → Prop) (h : sp_law_table_of a ds S Q E) : t_law_table_of K a (wishOf E) (endsOf Q) (dstart N_law_table_of ds) S := by
  obtain ⟨R, b, rfl, ha, hle, hb, q⟩ := h
  have hs : sizeLine = 2 ^ 24 := rfl
  have h2 := ha.m
  have hp : 0 < R.length := by omega
  have gt : ∀ j, 1 ≤ rg R j ∧ rg R j ≤ R.length := fun j => ha.k _ (rg_mem hp j)
  have hat : ∀ j : Nat, j < R.length → atI (R.map D.int) (0 + (j : Nat)) = some (.int (rg R j)) := fun j hj => by
    rw [atI_tab D.int R (by omega) (by omega), rg_get hp]
    congr 2
    have : (0 + (j : Nat) : Int).toNat = j % R.length := by rw [Nat.mod_eq_of_lt hj]; omega
    simp only [this]
  have hat1 : ∀ j : Nat, j < R.length → atI (R.map D.int) ((0 + (j : Nat) + 1) % (R.length : Int)) = some (.int (rg R (j + 1))) := fun j hj => by
    have e1 : (0 + (j : Nat) + 1 : Int) % (R.length : Int) = (((j + 1) % R.length : Nat) : Int) := by rw [Int.natCast_emod]; congr 1; omega
    have := Nat.mod_lt (j + 1) hp
    rw [e1, atI_tab D.int R (by omega) (by omega), rg_get hp]
    congr 2
  simp only [t_law_table_of, N_law_table_of, dstart, List.map_cons, List.map_nil, List.length_cons, List.length_nil, List.cons_append, List.nil_append, List.replicate, Nat.add_one_sub_one, Nat.reduceAdd, Nat.reduceSub, Nat.sub_self, Nat.sub_zero]
  rw [dSeq_ap]
  simp only [dIfS, dB, dOp, dVar, dCB, dCons, dNil, dRet, dRetN, dNext, dC, dAsg, dgN, dgT, dgSeq, dDrop, dCont, dAndT, dOrT, dNotT, dAndV, dOrV, dNotV, dIf, dIsN, dNotN, dNeg, dLst, dTup, dNewI, dCall, dMeth, dMake, dRaise, dFrz, dIsi, isiK, tyS, inst_NoneType_bool, inst_NoneType_int, inst_NoneType_str, inst_NoneType_list, inst_NoneType_tuple, inst_bool_bool, inst_bool_int, inst_bool_str, inst_bool_list, inst_bool_tuple, inst_int_bool, inst_int_int, inst_int_str, inst_int_list, inst_int_tuple, inst_str_bool, inst_str_int, inst_str_str, inst_str_list, inst_str_tuple, inst_list_bool, inst_list_int, inst_list_str, inst_list_list, inst_list_tuple, inst_tuple_bool, inst_tuple_int, inst_tuple_str, inst_tuple_list, inst_tuple_tuple, iiD, iiD0, subD, mulD, fdivD, modD, shrD, pow_10_6, pow_10_60, ltI, leI, gtI, geI, addI, addD, catD, scatD, lenD, lenS, ixD, ixL, ixLK, ixK, vl, vm, newL, i2D, absD, tupleD, dLM, dLM0, dFld, getF, dGet1, dGet2, getK, dSetIx, rng1, rng2, dFor1, dFor2, dFor, dForK, dstart, List.map_cons, List.map_nil, List.length_cons, List.length_nil, List.cons_append, List.nil_append, List.replicate, List.getElem?_cons_zero, List.getElem?_cons_succ, List.set_cons_zero, List.set_cons_succ, Option.isSome_some, Option.isNone_some, Option.isNone_none, Nat.add_one_sub_one, Nat.reduceAdd, Nat.reduceSub, Nat.sub_self, Nat.sub_zero, Bool.not_true, Bool.not_false, ↓reduceIte, Bool.false_eq_true, Bool.true_eq_false, okD_int, okD_bl, okD_non, dEq_int, dEq_bl, Bool.true_xor, Bool.false_xor, Bool.not_eq_true', decide_eq_true_eq, decide_eq_false_iff_not, true_and, Bool.and_true, Bool.and_false, Bool.true_and, Bool.false_and, at_0, at_1, at_2, cast0, cast1, cast2, cast3, not_true_eq_false, not_false_eq_true, eL, Option.map_some, Option.map_none, dSlL, slk, doNone, doSome, sortedTD, dLenSet, lsk, dLc]
  refine ⟨by decide, by decide, ?_⟩
  refine lc_all (m := false) (P := _) D.int (fun _ => D.non) (by omega) (fun _ _ => by first | trivial | rfl) (fun _ _ S' Y _ y => by simp only [dgN]; exact y) ?_
  simp only [newL, catD, vm, addD, Bool.false_eq_true, ↓reduceIte, vl]
  refine ⟨by simp [sizeLine]; omega, fun p hp0 => ?_⟩
  (try dsimp only)
  rw [dSeq_ap]
  simp only [dFor1, dCons, dNil, dCB, dVar, List.getElem?_cons_zero, List.getElem?_cons_succ, lenD, lenS, vm, Option.map, rng1]
  rw [List.length_map]
  refine ⟨by omega, ?_⟩
  rw [show ((R.length : Nat) : Int).toNat = R.length by omega]
  have e0 : [D.lst [D.int 0]] ++ R.map (fun _ => D.non) = (tabGo R b 0).map (eO eR) := by
    show _ = ([some ([0] : List Int)] ++ List.replicate R.length none).map (eO eR)
    rw [List.map_append, List.map_replicate, List.map_const']; first | done | rfl
  refine dGo_rng (fun k ρ S' => ∃ (o3 o4 : Option D), ρ = [some (.lst (R.map .int)), some (.int b), some (.ref p), o3, o4] ∧ S' = su S p (.ml ((tabGo R b k).map (eO eR)))) ?_ ?_ _ _ ⟨_, _, rfl, by rw [← e0]⟩
  · rintro ρ S' ⟨o3, o4, rfl, rfl⟩
    simp only [dIfS, dB, dOp, dVar, dCB, dCons, dNil, dRet, dRetN, dNext, dC, dAsg, dgN, dgT, dgSeq, dDrop, dCont, dAndT, dOrT, dNotT, dAndV, dOrV, dNotV, dIf, dIsN, dNotN, dNeg, dLst, dTup, dNewI, dCall, dMeth, dMake, dRaise, dFrz, dIsi, isiK, tyS, inst_NoneType_bool, inst_NoneType_int, inst_NoneType_str, inst_NoneType_list, inst_NoneType_tuple, inst_bool_bool, inst_bool_int, inst_bool_str, inst_bool_list, inst_bool_tuple, inst_int_bool, inst_int_int, inst_int_str, inst_int_list, inst_int_tuple, inst_str_bool, inst_str_int, inst_str_str, inst_str_list, inst_str_tuple, inst_list_bool, inst_list_int, inst_list_str, inst_list_list, inst_list_tuple, inst_tuple_bool, inst_tuple_int, inst_tuple_str, inst_tuple_list, inst_tuple_tuple, iiD, iiD0, subD, mulD, fdivD, modD, shrD, pow_10_6, pow_10_60, ltI, leI, gtI, geI, addI, addD, catD, scatD, lenD, lenS, ixD, ixL, ixLK, ixK, vl, vm, newL, i2D, absD, tupleD, dLM, dLM0, dFld, getF, dGet1, dGet2, getK, dSetIx, rng1, rng2, dFor1, dFor2, dFor, dForK, dstart, List.map_cons, List.map_nil, List.length_cons, List.length_nil, List.cons_append, List.nil_append, List.replicate, List.getElem?_cons_zero, List.getElem?_cons_succ, List.set_cons_zero, List.set_cons_succ, Option.isSome_some, Option.isNone_some, Option.isNone_none, Nat.add_one_sub_one, Nat.reduceAdd, Nat.reduceSub, Nat.sub_self, Nat.sub_zero, Bool.not_true, Bool.not_false, ↓reduceIte, Bool.false_eq_true, Bool.true_eq_false, okD_int, okD_bl, okD_non, dEq_int, dEq_bl, Bool.true_xor, Bool.false_xor, Bool.not_eq_true', decide_eq_true_eq, decide_eq_false_iff_not, true_and, Bool.and_true, Bool.and_false, Bool.true_and, Bool.false_and, at_0, at_1, at_2, cast0, cast1, cast2, cast3, not_true_eq_false, not_false_eq_true, eL, Option.map_some, Option.map_none, dSlL, slk, doNone, doSome, sortedTD, dLenSet, lsk, su_same]
    rw [sd_su hp0]
    exact rt_of q
  · rintro k ρ S' N hk ⟨o3, o4, rfl, rfl⟩ hN
    have a0 := gt k
    simp only [dgN, List.set_cons_zero, List.set_cons_succ]
    rw [dSeq_ap]
    simp only [dIfS, dB, dOp, dVar, dCB, dCons, dNil, dRet, dRetN, dNext, dC, dAsg, dgN, dgT, dgSeq, dDrop, dCont, dAndT, dOrT, dNotT, dAndV, dOrV, dNotV, dIf, dIsN, dNotN, dNeg, dLst, dTup, dNewI, dCall, dMeth, dMake, dRaise, dFrz, dIsi, isiK, tyS, inst_NoneType_bool, inst_NoneType_int, inst_NoneType_str, inst_NoneType_list, inst_NoneType_tuple, inst_bool_bool, inst_bool_int, inst_bool_str, inst_bool_list, inst_bool_tuple, inst_int_bool, inst_int_int, inst_int_str, inst_int_list, inst_int_tuple, inst_str_bool, inst_str_int, inst_str_str, inst_str_list, inst_str_tuple, inst_list_bool, inst_list_int, inst_list_str, inst_list_list, inst_list_tuple, inst_tuple_bool, inst_tuple_int, inst_tuple_str, inst_tuple_list, inst_tuple_tuple, iiD, iiD0, subD, mulD, fdivD, modD, shrD, pow_10_6, pow_10_60, ltI, leI, gtI, geI, addI, addD, catD, scatD, lenD, lenS, ixD, ixL, ixLK, ixK, vl, vm, newL, i2D, absD, tupleD, dLM, dLM0, dFld, getF, dGet1, dGet2, getK, dSetIx, rng1, rng2, dFor1, dFor2, dFor, dForK, dstart, List.map_cons, List.map_nil, List.length_cons, List.length_nil, List.cons_append, List.nil_append, List.replicate, List.getElem?_cons_zero, List.getElem?_cons_succ, List.set_cons_zero, List.set_cons_succ, Option.isSome_some, Option.isNone_some, Option.isNone_none, Nat.add_one_sub_one, Nat.reduceAdd, Nat.reduceSub, Nat.sub_self, Nat.sub_zero, Bool.not_true, Bool.not_false, ↓reduceIte, Bool.false_eq_true, Bool.true_eq_false, okD_int, okD_bl, okD_non, dEq_int, dEq_bl, Bool.true_xor, Bool.false_xor, Bool.not_eq_true', decide_eq_true_eq, decide_eq_false_iff_not, true_and, Bool.and_true, Bool.and_false, Bool.true_and, Bool.false_and, at_0, at_1, at_2, cast0, cast1, cast2, cast3, not_true_eq_false, not_false_eq_true, eL, Option.map_some, Option.map_none, dSlL, slk, doNone, doSome, sortedTD, dLenSet, lsk, hat k hk]
    refine ⟨by decide, setD_at su_same (by omega) (by rw [List.length_map, tabGo_len]; omega) ?_⟩
    rw [su_su, show D.lst [D.int (rg R k), D.int 0] = eO eR (some [rg R k, 0]) from rfl, map_set']
    simp only [dIfS, dB, dOp, dVar, dCB, dCons, dNil, dRet, dRetN, dNext, dC, dAsg, dgN, dgT, dgSeq, dDrop, dCont, dAndT, dOrT, dNotT, dAndV, dOrV, dNotV, dIf, dIsN, dNotN, dNeg, dLst, dTup, dNewI, dCall, dMeth, dMake, dRaise, dFrz, dIsi, isiK, tyS, inst_NoneType_bool, inst_NoneType_int, inst_NoneType_str, inst_NoneType_list, inst_NoneType_tuple, inst_bool_bool, inst_bool_int, inst_bool_str, inst_bool_list, inst_bool_tuple, inst_int_bool, inst_int_int, inst_int_str, inst_int_list, inst_int_tuple, inst_str_bool, inst_str_int, inst_str_str, inst_str_list, inst_str_tuple, inst_list_bool, inst_list_int, inst_list_str, inst_list_list, inst_list_tuple, inst_tuple_bool, inst_tuple_int, inst_tuple_str, inst_tuple_list, inst_tuple_tuple, iiD, iiD0, subD, mulD, fdivD, modD, shrD, pow_10_6, pow_10_60, ltI, leI, gtI, geI, addI, addD, catD, scatD, lenD, lenS, ixD, ixL, ixLK, ixK, vl, vm, newL, i2D, absD, tupleD, dLM, dLM0, dFld, getF, dGet1, dGet2, getK, dSetIx, rng1, rng2, dFor1, dFor2, dFor, dForK, eqR, rs, dstart, List.map_cons, List.map_nil, List.length_cons, List.length_nil, List.cons_append, List.nil_append, List.replicate, List.getElem?_cons_zero, List.getElem?_cons_succ, List.set_cons_zero, List.set_cons_succ, Option.isSome_some, Option.isNone_some, Option.isNone_none, Nat.add_one_sub_one, Nat.reduceAdd, Nat.reduceSub, Nat.sub_self, Nat.sub_zero, Bool.not_true, Bool.not_false, ↓reduceIte, Bool.false_eq_true, Bool.true_eq_false, okD_int, okD_bl, okD_non, dEq_int, dEq_bl, Bool.true_xor, Bool.false_xor, Bool.not_eq_true', decide_eq_true_eq, decide_eq_false_iff_not, true_and, Bool.and_true, Bool.and_false, Bool.true_and, Bool.false_and, at_0, at_1, at_2, cast0, cast1, cast2, cast3, not_true_eq_false, not_false_eq_true, eL, Option.map_some, Option.map_none, dSlL, slk, doNone, doSome, sortedTD, dLenSet, lsk, List.length_map]
    refine ⟨by decide, ?_⟩
    by_cases c : k % 2 = b
    · rw [if_neg (by omega)]
      refine hN _ _ ⟨_, _, rfl, ?_⟩
      rw [tabGo_succ, altR, if_pos c]
    · rw [if_pos (by omega)]
      simp only [dIfS, dB, dOp, dVar, dCB, dCons, dNil, dRet, dRetN, dNext, dC, dAsg, dgN, dgT, dgSeq, dDrop, dCont, dAndT, dOrT, dNotT, dAndV, dOrV, dNotV, dIf, dIsN, dNotN, dNeg, dLst, dTup, dNewI, dCall, dMeth, dMake, dRaise, dFrz, dIsi, isiK, tyS, inst_NoneType_bool, inst_NoneType_int, inst_NoneType_str, inst_NoneType_list, inst_NoneType_tuple, inst_bool_bool, inst_bool_int, inst_bool_str, inst_bool_list, inst_bool_tuple, inst_int_bool, inst_int_int, inst_int_str, inst_int_list, inst_int_tuple, inst_str_bool, inst_str_int, inst_str_str, inst_str_list, inst_str_tuple, inst_list_bool, inst_list_int, inst_list_str, inst_list_list, inst_list_tuple, inst_tuple_bool, inst_tuple_int, inst_tuple_str, inst_tuple_list, inst_tuple_tuple, iiD, iiD0, subD, mulD, fdivD, modD, shrD, pow_10_6, pow_10_60, ltI, leI, gtI, geI, addI, addD, catD, scatD, lenD, lenS, ixD, ixL, ixLK, ixK, vl, vm, newL, i2D, absD, tupleD, dLM, dLM0, dFld, getF, dGet1, dGet2, getK, dSetIx, rng1, rng2, dFor1, dFor2, dFor, dForK, dstart, List.map_cons, List.map_nil, List.length_cons, List.length_nil, List.cons_append, List.nil_append, List.replicate, List.getElem?_cons_zero, List.getElem?_cons_succ, List.set_cons_zero, List.set_cons_succ, Option.isSome_some, Option.isNone_some, Option.isNone_none, Nat.add_one_sub_one, Nat.reduceAdd, Nat.reduceSub, Nat.sub_self, Nat.sub_zero, Bool.not_true, Bool.not_false, ↓reduceIte, Bool.false_eq_true, Bool.true_eq_false, okD_int, okD_bl, okD_non, dEq_int, dEq_bl, Bool.true_xor, Bool.false_xor, Bool.not_eq_true', decide_eq_true_eq, decide_eq_false_iff_not, true_and, Bool.and_true, Bool.and_false, Bool.true_and, Bool.false_and, at_0, at_1, at_2, cast0, cast1, cast2, cast3, not_true_eq_false, not_false_eq_true, eL, Option.map_some, Option.map_none, dSlL, slk, doNone, doSome, sortedTD, dLenSet, lsk, List.length_map, hat k hk, hat1 k hk]
      refine ⟨by omega, by simp [sizeLine], setD_at su_same (by omega) (by rw [List.length_map, List.length_set, tabGo_len]; omega) ?_⟩
      rw [su_su, show D.lst [D.int (rg R k), D.int (rg R (k + 1)), D.int 0] = eO eR (some [rg R k, rg R (k + 1), 0]) from rfl, map_set', List.set_set]
      refine hN _ _ ⟨_, _, rfl, ?_⟩
      rw [tabGo_succ, altR, if_neg c]
theorem x_law_table_of {a : CA} {R : List Int} {b : Nat} {S : Sto} {P : D → Sto → Prop} {E : Addr → Sto → Prop} (ha : RingAll R) (hle : R.length ≤ 40) (hb : b < 2) (q : P (.lst ((tabB R b).map (eO eR))) S) : sp_law_table_of a [.lst (R.map .int), .int b] S P E := ⟨R, b, rfl, ha, hle, hb, q⟩

end DL
namespace DL
open PySem L2
theorem ne_i {i j : Int} {S : Sto} {P : D → Sto → Prop} (h : i = j) (q : P (.bl false) S) : eqR true (.int i) (.int j) S P := ⟨rfl, rfl, by simp only [rs, vm, dEq_int, h, decide_true]; exact q⟩
theorem eq_i {i j : Int} {S : Sto} {P : D → Sto → Prop} (h : i = j) (q : P (.bl true) S) : eqR false (.int i) (.int j) S P := ⟨rfl, rfl, by simp only [rs, vm, dEq_int, h, decide_true]; exact q⟩
theorem ne_R {x y : List Int} {S : Sto} {P : D → Sto → Prop} (h : x = y) (q : P (.bl false) S) : eqR true (.lst (x.map .int)) (.lst (y.map .int)) S P := ⟨okD_R x, okD_R y, by simp only [rs, vm, dEq_R, h, decide_true]; exact q⟩
theorem eq_R {x y : List Int} {S : Sto} {P : D → Sto → Prop} (h : x = y) (q : P (.bl true) S) : eqR false (.lst (x.map .int)) (.lst (y.map .int)) S P := ⟨okD_R x, okD_R y, by simp only [rs, vm, dEq_R, h, decide_true]; exact q⟩
theorem ne_s {x : Str} {S : Sto} {P : D → Sto → Prop} (o : PyData.strOk x = true) (q : P (.bl false) S) : eqR true (.str x) (.str x) S P := ⟨okD_str o, okD_str o, by simp only [rs, vm, dEq_str, decide_true]; exact q⟩
theorem eqR_i {neg : Bool} {i j : Int} {S : Sto} {P : D → Sto → Prop} (q : P (.bl (neg ^^ decide (i = j))) S) : eqR neg (.int i) (.int j) S P := ⟨rfl, rfl, by simp only [rs, vm, dEq_int]; exact q⟩
theorem eqR_R {neg : Bool} {x y : List Int} {S : Sto} {P : D → Sto → Prop} (q : P (.bl (neg ^^ decide (x = y))) S) : eqR neg (.lst (x.map .int)) (.lst (y.map .int)) S P := ⟨okD_R x, okD_R y, by simp only [rs, vm, dEq_R]; exact q⟩

end DL
namespace DL
open PySem L2
def t_k21_law_8 (K : PySem.W.Frag) (a : CA) (W : WD) : TDS :=
  (dRet (dAndV (dOp (eqR false) (dCB lenD (dCons (dVar 3) dNil)) (dC (.int 2))) (dAndV (dCall (sp_law_same_table a) W (dCons (dOp ixD (dVar 3) (dC (.int 0))) (dCons (dVar 4) dNil))) (dCall (sp_law_same_table a) W (dCons (dOp ixD (dVar 3) (dC (.int 1))) (dCons (dVar 5) dNil))))))
def t_k21_law_7 (K : PySem.W.Frag) (a : CA) (W : WD) : TDS :=
  (dSeq (dIfS (dB (dOp ltD (dLc false (diL (dSlL false (dVar 5) (doSome (dC (.int 1))) doNone)) (dgN 6) dYes (dOp ixD (dVar 6) (dC (.int 1))) [6]) (dLc false (diL (dSlL false (dVar 4) (doSome (dC (.int 1))) doNone)) (dgN 6) dYes (dOp ixD (dVar 6) (dC (.int 1))) [6])))
    (dSeq (dAsg (dCall (sp_law_table_of a) W (dCons (dVar 2) (dCons (dC (.int 1)) dNil))) (dgN 4))
    (dAsg (dCall (sp_law_table_of a) W (dCons (dVar 2) (dCons (dC (.int 0)) dNil))) (dgN 5)))
    dNext)
  (t_k21_law_8 K a W))
def t_k21_law_5 (K : PySem.W.Frag) (a : CA) (W : WD) : TDS :=
  (dSeq (dAsg (dCall (sp_law_table_of a) W (dCons (dVar 2) (dCons (dC (.int 0)) dNil))) (dgN 4))
  (dSeq (dAsg (dCall (sp_law_table_of a) W (dCons (dVar 2) (dCons (dC (.int 1)) dNil))) (dgN 5))
  (t_k21_law_7 K a W)))
def t_k21_law_4 (K : PySem.W.Frag) (a : CA) (W : WD) : TDS :=
  (dSeq (dIfS (dB (dOp (eqR false) (dVar 1) (dC (.int 3))))
    (dRet (dOp (eqR false) (dCB lenD (dCons (dVar 3) dNil)) (dC (.int 0))))
    dNext)
  (t_k21_law_5 K a W))
def t_k21_law_3 (K : PySem.W.Frag) (a : CA) (W : WD) : TDS :=
  (dSeq (dIfS (dNotT (dB (dIsi "list" (dVar 3))))
    (dRet (dC (.bl false)))
    dNext)
  (t_k21_law_4 K a W))
def t_k21_law (K : PySem.W.Frag) (a : CA) (W : WD) : TDS :=
  (dSeq (dAsg (dOp (addD false) (dC (.int 2)) (dOp modD (dCall (sp_law_cell_at a) W (dCons (dVar 0) (dCons (dC (.int 0)) dNil))) (dC (.int 3)))) (dgN 1))
  (dSeq (dAsg (dCall (sp_law_order a) W (dCons (dCall (sp_law_cell_at a) W (dCons (dVar 0) (dCons (dC (.int 1)) dNil))) (dCons (dVar 1) dNil))) (dgN 2))
  (dSeq (dAsg (dCall (sp_settled_tables a) W (dCons (dCall (sp_k21_law_guild_of a) W (dCons (dVar 2) (dCons (dCall (sp_law_cell_at a) W (dCons (dVar 0) (dCons (dC (.int 2)) dNil))) dNil))) dNil)) (dgN 3))
  (t_k21_law_3 K a W))))
abbrev N_k21_law : List Str := ["script", "many", "ring", "found", "one", "other", "road"]
def tails2 (t : List (Option (List Int))) : Prop := ∀ o ∈ t.tail, ∃ r : List Int, o = some r ∧ 2 ≤ r.length
theorem tabB_tails {R : List Int} (ha : RingAll R) (he : R.length % 2 = 0) (b : Nat) : tails2 (tabB R b) := fun o ho => by
  rw [← List.drop_one] at ho
  obtain ⟨i, hi, e⟩ := List.getElem_of_mem ho
  rw [List.length_drop, tabB_len] at hi
  rw [List.getElem_drop] at e
  obtain ⟨j, _, ej⟩ := ha.has (x := ((1 + i : Nat) : Int)) (by omega) (by omega)
  have := tabB_get ha he b j
  rw [← ej, Int.toNat_natCast, List.getD_eq_getElem?_getD, List.getElem?_eq_getElem (by rw [tabB_len]; omega)] at this
  have e2 : o = some (altR R b j) := by rw [← e]; exact this
  refine ⟨_, e2, ?_⟩
  unfold altR
  split <;> simp
theorem tabB_ne {R : List Int} (ha : RingAll R) (he : R.length % 2 = 0) : tabB R 0 ≠ tabB R 1 := fun z => by
  have h0 := tabB_get ha he 0 0
  have h1 := tabB_get ha he 1 0
  rw [z, h1] at h0
  injection h0 with h0
  have : (altR R 1 0).length = (altR R 0 0).length := by rw [h0]
  simp [altR] at this
def sp_k21_law (a : CA) : DSp := fun ds S P E => ∃ ns : List Int, ds = [.scr ns] ∧ ns.length ≤ 63 ∧ P (.bl true) S
theorem len_k21_law (a : CA) (ds : List D) (S : Sto) (Q : D → Sto → Prop) (E : Addr → Sto → Prop) (h : sp_k21_law a ds S Q E) : ds.length = ["script"].length := by
  obtain ⟨_, rfl, _⟩ := h; rfl
theorem top_k21_law (a : CA) (ns : List Int) (hl : ns.length ≤ 63) (P : D → Sto → Prop) (E : Addr → Sto → Prop) (h : P (.bl true) (fun _ => none)) : sp_k21_law a [.scr ns] (fun _ => none) P E := ⟨ns, rfl, hl, h⟩
theorem k21_8 (K : PySem.W.Frag) (a : CA) (S0 S : Sto) (hS : SLe S0 S) (Q : D → Sto → Prop) (E : Addr → Sto → Prop) (q : Q (.bl true) S0) (t u : Tab) (o0 o1 o2 : Option D) (lt : t.length ≤ 1000) (lu : u.length ≤ 1000) :
    t_k21_law_8 K a (wishOf E) (endsOf Q) [o0, o1, o2, some (.lst [eTab t, eTab u]), some (.lst (t.map (eO eR))), some (.lst (u.map (eO eR))), none] S := by
  simp only [t_k21_law_8]
  simp only [dIfS, dB, dOp, dVar, dCB, dCons, dNil, dRet, dRetN, dNext, dC, dAsg, dgN, dgT, dgSeq, dDrop, dCont, dAndT, dOrT, dNotT, dAndV, dOrV, dNotV, dIf, dIsN, dNotN, dNeg, dLst, dTup, dNewI, dCall, dMeth, dMake, dRaise, dFrz, dIsi, isiK, tyS, inst_NoneType_bool, inst_NoneType_int, inst_NoneType_str, inst_NoneType_list, inst_NoneType_tuple, inst_bool_bool, inst_bool_int, inst_bool_str, inst_bool_list, inst_bool_tuple, inst_int_bool, inst_int_int, inst_int_str, inst_int_list, inst_int_tuple, inst_str_bool, inst_str_int, inst_str_str, inst_str_list, inst_str_tuple, inst_list_bool, inst_list_int, inst_list_str, inst_list_list, inst_list_tuple, inst_tuple_bool, inst_tuple_int, inst_tuple_str, inst_tuple_list, inst_tuple_tuple, iiD, iiD0, subD, mulD, fdivD, modD, shrD, pow_10_6, pow_10_60, ltI, leI, gtI, geI, addI, addD, catD, scatD, lenD, lenS, ixD, ixL, ixLK, ixK, vl, vm, newL, i2D, absD, tupleD, dLM, dLM0, dFld, getF, dGet1, dGet2, getK, dSetIx, rng1, rng2, dFor1, dFor2, dFor, dForK, eqR, rs, dstart, List.map_cons, List.map_nil, List.length_cons, List.length_nil, List.cons_append, List.nil_append, List.replicate, List.getElem?_cons_zero, List.getElem?_cons_succ, List.set_cons_zero, List.set_cons_succ, Option.isSome_some, Option.isNone_some, Option.isNone_none, Nat.add_one_sub_one, Nat.reduceAdd, Nat.reduceSub, Nat.sub_self, Nat.sub_zero, Bool.not_true, Bool.not_false, ↓reduceIte, Bool.false_eq_true, Bool.true_eq_false, okD_int, okD_bl, okD_non, dEq_int, dEq_bl, Bool.true_xor, Bool.false_xor, Bool.not_eq_true', decide_eq_true_eq, decide_eq_false_iff_not, true_and, Bool.and_true, Bool.and_false, Bool.true_and, Bool.false_and, at_0, at_1, at_2, cast0, cast1, cast2, cast3, not_true_eq_false, not_false_eq_true, eL, Option.map_some, Option.map_none, dSlL, slk, doNone, doSome, sortedTD, dLenSet, lsk]
  refine x_law_same_table lt ?_
  (try dsimp only)
  (try rw [if_pos (by decide)])
  refine x_law_same_table lu ?_
  exact rt_le hS q
theorem nexts_one {R : List Int} (ha : RingAll R) (he : R.length % 2 = 0) (b : Nat) (S : Sto) (g : TDG) (X : List (Option D)) (P : D → Sto → Prop) (hP : P (.lst ((nextsOf (tabB R b)).map .int)) S) (hs : R.length ≤ 40)
    (hg : g = dgN 6) (hX : X.length = 7) : ∀ p, S p = none → lcGo (fun _ => True) g dYes (dOp ixD (dVar 6) (dC (.int 1))) (wipeD X [6]) p (lcFin false p P) (cutD ((tabB R b).map (eO eR)) (some 1) none) (su S p (.ml [])) := by
  have hsz : sizeLine = 2 ^ 24 := rfl
  rw [cut1, ← List.map_drop, List.drop_one]
  subst hg
  have lt : (tabB R b).tail.length = R.length := by rw [List.length_tail, tabB_len]; omega
  have e1 : (tabB R b).tail.map (fun o => D.int (match o with | none => -1 | some r => r.getD 1 0)) = (nextsOf (tabB R b)).map .int := by
    unfold nextsOf; rw [List.map_map]; rfl
  refine lc_all (m := false) (P := P) (eO eR) (fun o => D.int (match o with | none => -1 | some r => r.getD 1 0)) (by omega) (fun _ _ => trivial) (fun o ho S' Y _ y => ?_) (by simp only [newL]; rw [e1]; exact hP)
  obtain ⟨r, rfl, hr⟩ := tabB_tails ha he b o ho
  match X, hX, r, hr with
  | [x0, x1, x2, x3, x4, x5, x6], _, u :: v :: r, _ =>
    simp only [dIfS, dB, dOp, dVar, dCB, dCons, dNil, dRet, dRetN, dNext, dC, dAsg, dgN, dgT, dgSeq, dDrop, dCont, dAndT, dOrT, dNotT, dAndV, dOrV, dNotV, dIf, dIsN, dNotN, dNeg, dLst, dTup, dNewI, dCall, dMeth, dMake, dRaise, dFrz, dIsi, isiK, tyS, inst_NoneType_bool, inst_NoneType_int, inst_NoneType_str, inst_NoneType_list, inst_NoneType_tuple, inst_bool_bool, inst_bool_int, inst_bool_str, inst_bool_list, inst_bool_tuple, inst_int_bool, inst_int_int, inst_int_str, inst_int_list, inst_int_tuple, inst_str_bool, inst_str_int, inst_str_str, inst_str_list, inst_str_tuple, inst_list_bool, inst_list_int, inst_list_str, inst_list_list, inst_list_tuple, inst_tuple_bool, inst_tuple_int, inst_tuple_str, inst_tuple_list, inst_tuple_tuple, iiD, iiD0, subD, mulD, fdivD, modD, shrD, pow_10_6, pow_10_60, ltI, leI, gtI, geI, addI, addD, catD, scatD, lenD, lenS, ixD, ixL, ixLK, ixK, vl, vm, newL, i2D, absD, tupleD, dLM, dLM0, dFld, getF, dGet1, dGet2, getK, dSetIx, rng1, rng2, dFor1, dFor2, dFor, dForK, dstart, List.map_cons, List.map_nil, List.length_cons, List.length_nil, List.cons_append, List.nil_append, List.replicate, List.getElem?_cons_zero, List.getElem?_cons_succ, List.set_cons_zero, List.set_cons_succ, Option.isSome_some, Option.isNone_some, Option.isNone_none, Nat.add_one_sub_one, Nat.reduceAdd, Nat.reduceSub, Nat.sub_self, Nat.sub_zero, Bool.not_true, Bool.not_false, ↓reduceIte, Bool.false_eq_true, Bool.true_eq_false, okD_int, okD_bl, okD_non, dEq_int, dEq_bl, Bool.true_xor, Bool.false_xor, Bool.not_eq_true', decide_eq_true_eq, decide_eq_false_iff_not, true_and, Bool.and_true, Bool.and_false, Bool.true_and, Bool.false_and, at_0, at_1, at_2, cast0, cast1, cast2, cast3, not_true_eq_false, not_false_eq_true, eL, Option.map_some, Option.map_none, dSlL, slk, doNone, doSome, sortedTD, dLenSet, lsk, wipeD, eO, eR]
    exact y
theorem k21_5 (K : PySem.W.Frag) (a : CA) (S0 S : Sto) (hS : SLe S0 S) (Q : D → Sto → Prop) (E : Addr → Sto → Prop) (q : Q (.bl true) S0) (R : List Int) (ha : RingAll R) (hle : R.length ≤ 40) (he : R.length % 2 = 0) (s : GS) (n1 : 1 ≤ s.n) (st : ∀ t, t ∈ s.tables ↔ t = tabB R 0 ∨ t = tabB R 1) (o0 o1 : Option D) :
    t_k21_law_5 K a (wishOf E) (endsOf Q) [o0, o1, some (.lst (R.map .int)), some (.lst (s.tables.map eTab)), none, none, none] S := by
  have hs : sizeLine = 2 ^ 24 := rfl
  have et := sorted_two (tables_pw n1) st (tabB_ne ha he)
  have lb : ∀ b, (tabB R b).length ≤ 1000 := fun b => by rw [tabB_len]; omega
  simp only [t_k21_law_5]
  rw [dSeq_ap]
  simp only [dIfS, dB, dOp, dVar, dCB, dCons, dNil, dRet, dRetN, dNext, dC, dAsg, dgN, dgT, dgSeq, dDrop, dCont, dAndT, dOrT, dNotT, dAndV, dOrV, dNotV, dIf, dIsN, dNotN, dNeg, dLst, dTup, dNewI, dCall, dMeth, dMake, dRaise, dFrz, dIsi, isiK, tyS, inst_NoneType_bool, inst_NoneType_int, inst_NoneType_str, inst_NoneType_list, inst_NoneType_tuple, inst_bool_bool, inst_bool_int, inst_bool_str, inst_bool_list, inst_bool_tuple, inst_int_bool, inst_int_int, inst_int_str, inst_int_list, inst_int_tuple, inst_str_bool, inst_str_int, inst_str_str, inst_str_list, inst_str_tuple, inst_list_bool, inst_list_int, inst_list_str, inst_list_list, inst_list_tuple, inst_tuple_bool, inst_tuple_int, inst_tuple_str, inst_tuple_list, inst_tuple_tuple, iiD, iiD0, subD, mulD, fdivD, modD, shrD, pow_10_6, pow_10_60, ltI, leI, gtI, geI, addI, addD, catD, scatD, lenD, lenS, ixD, ixL, ixLK, ixK, vl, vm, newL, i2D, absD, tupleD, dLM, dLM0, dFld, getF, dGet1, dGet2, getK, dSetIx, rng1, rng2, dFor1, dFor2, dFor, dForK, dstart, List.map_cons, List.map_nil, List.length_cons, List.length_nil, List.cons_append, List.nil_append, List.replicate, List.getElem?_cons_zero, List.getElem?_cons_succ, List.set_cons_zero, List.set_cons_succ, Option.isSome_some, Option.isNone_some, Option.isNone_none, Nat.add_one_sub_one, Nat.reduceAdd, Nat.reduceSub, Nat.sub_self, Nat.sub_zero, Bool.not_true, Bool.not_false, ↓reduceIte, Bool.false_eq_true, Bool.true_eq_false, okD_int, okD_bl, okD_non, dEq_int, dEq_bl, Bool.true_xor, Bool.false_xor, Bool.not_eq_true', decide_eq_true_eq, decide_eq_false_iff_not, true_and, Bool.and_true, Bool.and_false, Bool.true_and, Bool.false_and, at_0, at_1, at_2, cast0, cast1, cast2, cast3, not_true_eq_false, not_false_eq_true, eL, Option.map_some, Option.map_none, dSlL, slk, doNone, doSome, sortedTD, dLenSet, lsk]
  refine x_law_table_of (b := 0) ha hle (by omega) ?_
  (try dsimp only); rw [dSeq_ap]; simp only [dIfS, dB, dOp, dVar, dCB, dCons, dNil, dRet, dRetN, dNext, dC, dAsg, dgN, dgT, dgSeq, dDrop, dCont, dAndT, dOrT, dNotT, dAndV, dOrV, dNotV, dIf, dIsN, dNotN, dNeg, dLst, dTup, dNewI, dCall, dMeth, dMake, dRaise, dFrz, dIsi, isiK, tyS, inst_NoneType_bool, inst_NoneType_int, inst_NoneType_str, inst_NoneType_list, inst_NoneType_tuple, inst_bool_bool, inst_bool_int, inst_bool_str, inst_bool_list, inst_bool_tuple, inst_int_bool, inst_int_int, inst_int_str, inst_int_list, inst_int_tuple, inst_str_bool, inst_str_int, inst_str_str, inst_str_list, inst_str_tuple, inst_list_bool, inst_list_int, inst_list_str, inst_list_list, inst_list_tuple, inst_tuple_bool, inst_tuple_int, inst_tuple_str, inst_tuple_list, inst_tuple_tuple, iiD, iiD0, subD, mulD, fdivD, modD, shrD, pow_10_6, pow_10_60, ltI, leI, gtI, geI, addI, addD, catD, scatD, lenD, lenS, ixD, ixL, ixLK, ixK, vl, vm, newL, i2D, absD, tupleD, dLM, dLM0, dFld, getF, dGet1, dGet2, getK, dSetIx, rng1, rng2, dFor1, dFor2, dFor, dForK, eqR, rs, dstart, List.map_cons, List.map_nil, List.length_cons, List.length_nil, List.cons_append, List.nil_append, List.replicate, List.getElem?_cons_zero, List.getElem?_cons_succ, List.set_cons_zero, List.set_cons_succ, Option.isSome_some, Option.isNone_some, Option.isNone_none, Nat.add_one_sub_one, Nat.reduceAdd, Nat.reduceSub, Nat.sub_self, Nat.sub_zero, Bool.not_true, Bool.not_false, ↓reduceIte, Bool.false_eq_true, Bool.true_eq_false, okD_int, okD_bl, okD_non, dEq_int, dEq_bl, Bool.true_xor, Bool.false_xor, Bool.not_eq_true', decide_eq_true_eq, decide_eq_false_iff_not, true_and, Bool.and_true, Bool.and_false, Bool.true_and, Bool.false_and, at_0, at_1, at_2, cast0, cast1, cast2, cast3, not_true_eq_false, not_false_eq_true, eL, Option.map_some, Option.map_none, dSlL, slk, doNone, doSome, sortedTD, dLenSet, lsk]
  refine x_law_table_of (b := 1) ha hle (by omega) ?_
  (try dsimp only)
  simp only [t_k21_law_7]
  rw [dSeq_ap]
  simp only [dIfS, dB, dOp, dVar, dCB, dCons, dNil, dRet, dRetN, dNext, dC, dAsg, dgN, dgT, dgSeq, dDrop, dCont, dAndT, dOrT, dNotT, dAndV, dOrV, dNotV, dIf, dIsN, dNotN, dNeg, dLst, dTup, dNewI, dCall, dMeth, dMake, dRaise, dFrz, dIsi, isiK, tyS, inst_NoneType_bool, inst_NoneType_int, inst_NoneType_str, inst_NoneType_list, inst_NoneType_tuple, inst_bool_bool, inst_bool_int, inst_bool_str, inst_bool_list, inst_bool_tuple, inst_int_bool, inst_int_int, inst_int_str, inst_int_list, inst_int_tuple, inst_str_bool, inst_str_int, inst_str_str, inst_str_list, inst_str_tuple, inst_list_bool, inst_list_int, inst_list_str, inst_list_list, inst_list_tuple, inst_tuple_bool, inst_tuple_int, inst_tuple_str, inst_tuple_list, inst_tuple_tuple, iiD, iiD0, subD, mulD, fdivD, modD, shrD, pow_10_6, pow_10_60, ltI, leI, gtI, geI, addI, addD, catD, scatD, lenD, lenS, ixD, ixL, ixLK, ixK, vl, vm, newL, i2D, absD, tupleD, dLM, dLM0, dFld, getF, dGet1, dGet2, getK, dSetIx, rng1, rng2, dFor1, dFor2, dFor, dForK, dstart, List.map_cons, List.map_nil, List.length_cons, List.length_nil, List.cons_append, List.nil_append, List.replicate, List.getElem?_cons_zero, List.getElem?_cons_succ, List.set_cons_zero, List.set_cons_succ, Option.isSome_some, Option.isNone_some, Option.isNone_none, Nat.add_one_sub_one, Nat.reduceAdd, Nat.reduceSub, Nat.sub_self, Nat.sub_zero, Bool.not_true, Bool.not_false, ↓reduceIte, Bool.false_eq_true, Bool.true_eq_false, okD_int, okD_bl, okD_non, dEq_int, dEq_bl, Bool.true_xor, Bool.false_xor, Bool.not_eq_true', decide_eq_true_eq, decide_eq_false_iff_not, true_and, Bool.and_true, Bool.and_false, Bool.true_and, Bool.false_and, at_0, at_1, at_2, cast0, cast1, cast2, cast3, not_true_eq_false, not_false_eq_true, eL, Option.map_some, Option.map_none, dSlL, slk, doNone, doSome, sortedTD, dLenSet, lsk, dLc, diL, diLk]
  refine nexts_one (X := [o0, o1, some (.lst (R.map .int)), some (.lst (s.tables.map eTab)), some (.lst ((tabB R 0).map (eO eR))), some (.lst ((tabB R 1).map (eO eR))), none]) ha he 1 S _ _ ?_ hle rfl rfl
  (try dsimp only)
  refine nexts_one (X := [o0, o1, some (.lst (R.map .int)), some (.lst (s.tables.map eTab)), some (.lst ((tabB R 0).map (eO eR))), some (.lst ((tabB R 1).map (eO eR))), none]) ha he 0 S _ _ ?_ hle rfl rfl
  refine ltD_R (k := nextsOf (tabB R 1)) (l := nextsOf (tabB R 0)) rfl rfl ?_
  (try dsimp only)
  by_cases c : nextsOf (tabB R 1) < nextsOf (tabB R 0)
  · rw [if_pos (decide_eq_true c)]
    rw [if_pos c] at et
    rw [et]
    rw [dSeq_ap]
    simp only [dIfS, dB, dOp, dVar, dCB, dCons, dNil, dRet, dRetN, dNext, dC, dAsg, dgN, dgT, dgSeq, dDrop, dCont, dAndT, dOrT, dNotT, dAndV, dOrV, dNotV, dIf, dIsN, dNotN, dNeg, dLst, dTup, dNewI, dCall, dMeth, dMake, dRaise, dFrz, dIsi, isiK, tyS, inst_NoneType_bool, inst_NoneType_int, inst_NoneType_str, inst_NoneType_list, inst_NoneType_tuple, inst_bool_bool, inst_bool_int, inst_bool_str, inst_bool_list, inst_bool_tuple, inst_int_bool, inst_int_int, inst_int_str, inst_int_list, inst_int_tuple, inst_str_bool, inst_str_int, inst_str_str, inst_str_list, inst_str_tuple, inst_list_bool, inst_list_int, inst_list_str, inst_list_list, inst_list_tuple, inst_tuple_bool, inst_tuple_int, inst_tuple_str, inst_tuple_list, inst_tuple_tuple, iiD, iiD0, subD, mulD, fdivD, modD, shrD, pow_10_6, pow_10_60, ltI, leI, gtI, geI, addI, addD, catD, scatD, lenD, lenS, ixD, ixL, ixLK, ixK, vl, vm, newL, i2D, absD, tupleD, dLM, dLM0, dFld, getF, dGet1, dGet2, getK, dSetIx, rng1, rng2, dFor1, dFor2, dFor, dForK, dstart, List.map_cons, List.map_nil, List.length_cons, List.length_nil, List.cons_append, List.nil_append, List.replicate, List.getElem?_cons_zero, List.getElem?_cons_succ, List.set_cons_zero, List.set_cons_succ, Option.isSome_some, Option.isNone_some, Option.isNone_none, Nat.add_one_sub_one, Nat.reduceAdd, Nat.reduceSub, Nat.sub_self, Nat.sub_zero, Bool.not_true, Bool.not_false, ↓reduceIte, Bool.false_eq_true, Bool.true_eq_false, okD_int, okD_bl, okD_non, dEq_int, dEq_bl, Bool.true_xor, Bool.false_xor, Bool.not_eq_true', decide_eq_true_eq, decide_eq_false_iff_not, true_and, Bool.and_true, Bool.and_false, Bool.true_and, Bool.false_and, at_0, at_1, at_2, cast0, cast1, cast2, cast3, not_true_eq_false, not_false_eq_true, eL, Option.map_some, Option.map_none, dSlL, slk, doNone, doSome, sortedTD, dLenSet, lsk]
    refine x_law_table_of (b := 1) ha hle (by omega) ?_
    (try dsimp only)
    (try simp only [dIfS, dB, dOp, dVar, dCB, dCons, dNil, dRet, dRetN, dNext, dC, dAsg, dgN, dgT, dgSeq, dDrop, dCont, dAndT, dOrT, dNotT, dAndV, dOrV, dNotV, dIf, dIsN, dNotN, dNeg, dLst, dTup, dNewI, dCall, dMeth, dMake, dRaise, dFrz, dIsi, isiK, tyS, inst_NoneType_bool, inst_NoneType_int, inst_NoneType_str, inst_NoneType_list, inst_NoneType_tuple, inst_bool_bool, inst_bool_int, inst_bool_str, inst_bool_list, inst_bool_tuple, inst_int_bool, inst_int_int, inst_int_str, inst_int_list, inst_int_tuple, inst_str_bool, inst_str_int, inst_str_str, inst_str_list, inst_str_tuple, inst_list_bool, inst_list_int, inst_list_str, inst_list_list, inst_list_tuple, inst_tuple_bool, inst_tuple_int, inst_tuple_str, inst_tuple_list, inst_tuple_tuple, iiD, iiD0, subD, mulD, fdivD, modD, shrD, pow_10_6, pow_10_60, ltI, leI, gtI, geI, addI, addD, catD, scatD, lenD, lenS, ixD, ixL, ixLK, ixK, vl, vm, newL, i2D, absD, tupleD, dLM, dLM0, dFld, getF, dGet1, dGet2, getK, dSetIx, rng1, rng2, dFor1, dFor2, dFor, dForK, dstart, List.map_cons, List.map_nil, List.length_cons, List.length_nil, List.cons_append, List.nil_append, List.replicate, List.getElem?_cons_zero, List.getElem?_cons_succ, List.set_cons_zero, List.set_cons_succ, Option.isSome_some, Option.isNone_some, Option.isNone_none, Nat.add_one_sub_one, Nat.reduceAdd, Nat.reduceSub, Nat.sub_self, Nat.sub_zero, Bool.not_true, Bool.not_false, ↓reduceIte, Bool.false_eq_true, Bool.true_eq_false, okD_int, okD_bl, okD_non, dEq_int, dEq_bl, Bool.true_xor, Bool.false_xor, Bool.not_eq_true', decide_eq_true_eq, decide_eq_false_iff_not, true_and, Bool.and_true, Bool.and_false, Bool.true_and, Bool.false_and, at_0, at_1, at_2, cast0, cast1, cast2, cast3, not_true_eq_false, not_false_eq_true, eL, Option.map_some, Option.map_none, dSlL, slk, doNone, doSome, sortedTD, dLenSet, lsk])
    refine x_law_table_of (b := 0) ha hle (by omega) ?_
    (try dsimp only)
    exact k21_8 K a S0 S hS Q E q _ _ _ _ _ (lb 1) (lb 0)
  · rw [if_neg (by simpa using c)]
    rw [if_neg c] at et
    rw [et]
    exact k21_8 K a S0 S hS Q E q _ _ _ _ _ (lb 0) (lb 1)
theorem read_k21_law (K : PySem.W.Frag) (a : CA) (ds : List D) (S : Sto) (Q : D → Sto → Prop) (E : Addr → Sto → Prop) (h : sp_k21_law a ds S Q E) : t_k21_law K a (wishOf E) (endsOf Q) (dstart N_k21_law ds) S := by
  obtain ⟨ns, rfl, hl, q⟩ := h
  have hs : sizeLine = 2 ^ 24 := rfl
  simp only [t_k21_law, N_k21_law, dstart, List.map_cons, List.map_nil, List.length_cons, List.length_nil, List.cons_append, List.nil_append, List.replicate, Nat.add_one_sub_one, Nat.reduceAdd, Nat.reduceSub, Nat.sub_self, Nat.sub_zero]
  rw [dSeq_ap]
  simp only [dIfS, dB, dOp, dVar, dCB, dCons, dNil, dRet, dRetN, dNext, dC, dAsg, dgN, dgT, dgSeq, dDrop, dCont, dAndT, dOrT, dNotT, dAndV, dOrV, dNotV, dIf, dIsN, dNotN, dNeg, dLst, dTup, dNewI, dCall, dMeth, dMake, dRaise, dFrz, dIsi, isiK, tyS, inst_NoneType_bool, inst_NoneType_int, inst_NoneType_str, inst_NoneType_list, inst_NoneType_tuple, inst_bool_bool, inst_bool_int, inst_bool_str, inst_bool_list, inst_bool_tuple, inst_int_bool, inst_int_int, inst_int_str, inst_int_list, inst_int_tuple, inst_str_bool, inst_str_int, inst_str_str, inst_str_list, inst_str_tuple, inst_list_bool, inst_list_int, inst_list_str, inst_list_list, inst_list_tuple, inst_tuple_bool, inst_tuple_int, inst_tuple_str, inst_tuple_list, inst_tuple_tuple, iiD, iiD0, subD, mulD, fdivD, modD, shrD, pow_10_6, pow_10_60, ltI, leI, gtI, geI, addI, addD, catD, scatD, lenD, lenS, ixD, ixL, ixLK, ixK, vl, vm, newL, i2D, absD, tupleD, dLM, dLM0, dFld, getF, dGet1, dGet2, getK, dSetIx, rng1, rng2, dFor1, dFor2, dFor, dForK, eqR, rs, dstart, List.map_cons, List.map_nil, List.length_cons, List.length_nil, List.cons_append, List.nil_append, List.replicate, List.getElem?_cons_zero, List.getElem?_cons_succ, List.set_cons_zero, List.set_cons_succ, Option.isSome_some, Option.isNone_some, Option.isNone_none, Nat.add_one_sub_one, Nat.reduceAdd, Nat.reduceSub, Nat.sub_self, Nat.sub_zero, Bool.not_true, Bool.not_false, ↓reduceIte, Bool.false_eq_true, Bool.true_eq_false, okD_int, okD_bl, okD_non, dEq_int, dEq_bl, Bool.true_xor, Bool.false_xor, Bool.not_eq_true', decide_eq_true_eq, decide_eq_false_iff_not, true_and, Bool.and_true, Bool.and_false, Bool.true_and, Bool.false_and, at_0, at_1, at_2, cast0, cast1, cast2, cast3, not_true_eq_false, not_false_eq_true, eL, Option.map_some, Option.map_none, dSlL, slk, doNone, doSome, sortedTD, dLenSet, lsk, x_law_cell_at, Int.reduceLE]
  refine ⟨by decide, ?_⟩
  have c0 : 0 ≤ cellAt ns 0 % 3 ∧ cellAt ns 0 % 3 < 3 := ⟨Int.emod_nonneg _ (by decide), Int.emod_lt_of_pos _ (by decide)⟩
  obtain ⟨m, em⟩ : ∃ m : Nat, (m : Int) = 2 + cellAt ns 0 % 3 := ⟨_, Int.toNat_of_nonneg (by omega)⟩
  rw [← em]
  rw [dSeq_ap]
  simp only [dIfS, dB, dOp, dVar, dCB, dCons, dNil, dRet, dRetN, dNext, dC, dAsg, dgN, dgT, dgSeq, dDrop, dCont, dAndT, dOrT, dNotT, dAndV, dOrV, dNotV, dIf, dIsN, dNotN, dNeg, dLst, dTup, dNewI, dCall, dMeth, dMake, dRaise, dFrz, dIsi, isiK, tyS, inst_NoneType_bool, inst_NoneType_int, inst_NoneType_str, inst_NoneType_list, inst_NoneType_tuple, inst_bool_bool, inst_bool_int, inst_bool_str, inst_bool_list, inst_bool_tuple, inst_int_bool, inst_int_int, inst_int_str, inst_int_list, inst_int_tuple, inst_str_bool, inst_str_int, inst_str_str, inst_str_list, inst_str_tuple, inst_list_bool, inst_list_int, inst_list_str, inst_list_list, inst_list_tuple, inst_tuple_bool, inst_tuple_int, inst_tuple_str, inst_tuple_list, inst_tuple_tuple, iiD, iiD0, subD, mulD, fdivD, modD, shrD, pow_10_6, pow_10_60, ltI, leI, gtI, geI, addI, addD, catD, scatD, lenD, lenS, ixD, ixL, ixLK, ixK, vl, vm, newL, i2D, absD, tupleD, dLM, dLM0, dFld, getF, dGet1, dGet2, getK, dSetIx, rng1, rng2, dFor1, dFor2, dFor, dForK, eqR, rs, dstart, List.map_cons, List.map_nil, List.length_cons, List.length_nil, List.cons_append, List.nil_append, List.replicate, List.getElem?_cons_zero, List.getElem?_cons_succ, List.set_cons_zero, List.set_cons_succ, Option.isSome_some, Option.isNone_some, Option.isNone_none, Nat.add_one_sub_one, Nat.reduceAdd, Nat.reduceSub, Nat.sub_self, Nat.sub_zero, Bool.not_true, Bool.not_false, ↓reduceIte, Bool.false_eq_true, Bool.true_eq_false, okD_int, okD_bl, okD_non, dEq_int, dEq_bl, Bool.true_xor, Bool.false_xor, Bool.not_eq_true', decide_eq_true_eq, decide_eq_false_iff_not, true_and, Bool.and_true, Bool.and_false, Bool.true_and, Bool.false_and, at_0, at_1, at_2, cast0, cast1, cast2, cast3, not_true_eq_false, not_false_eq_true, eL, Option.map_some, Option.map_none, dSlL, slk, doNone, doSome, sortedTD, dLenSet, lsk, x_law_cell_at, Int.reduceLE]
  refine x_law_order (m := m) (by omega) fun R hR nd hk => ?_
  have ha : RingAll R := ⟨by omega, nd, by rw [hR]; exact hk⟩
  (try dsimp only)
  rw [dSeq_ap]
  simp only [dIfS, dB, dOp, dVar, dCB, dCons, dNil, dRet, dRetN, dNext, dC, dAsg, dgN, dgT, dgSeq, dDrop, dCont, dAndT, dOrT, dNotT, dAndV, dOrV, dNotV, dIf, dIsN, dNotN, dNeg, dLst, dTup, dNewI, dCall, dMeth, dMake, dRaise, dFrz, dIsi, isiK, tyS, inst_NoneType_bool, inst_NoneType_int, inst_NoneType_str, inst_NoneType_list, inst_NoneType_tuple, inst_bool_bool, inst_bool_int, inst_bool_str, inst_bool_list, inst_bool_tuple, inst_int_bool, inst_int_int, inst_int_str, inst_int_list, inst_int_tuple, inst_str_bool, inst_str_int, inst_str_str, inst_str_list, inst_str_tuple, inst_list_bool, inst_list_int, inst_list_str, inst_list_list, inst_list_tuple, inst_tuple_bool, inst_tuple_int, inst_tuple_str, inst_tuple_list, inst_tuple_tuple, iiD, iiD0, subD, mulD, fdivD, modD, shrD, pow_10_6, pow_10_60, ltI, leI, gtI, geI, addI, addD, catD, scatD, lenD, lenS, ixD, ixL, ixLK, ixK, vl, vm, newL, i2D, absD, tupleD, dLM, dLM0, dFld, getF, dGet1, dGet2, getK, dSetIx, rng1, rng2, dFor1, dFor2, dFor, dForK, eqR, rs, dstart, List.map_cons, List.map_nil, List.length_cons, List.length_nil, List.cons_append, List.nil_append, List.replicate, List.getElem?_cons_zero, List.getElem?_cons_succ, List.set_cons_zero, List.set_cons_succ, Option.isSome_some, Option.isNone_some, Option.isNone_none, Nat.add_one_sub_one, Nat.reduceAdd, Nat.reduceSub, Nat.sub_self, Nat.sub_zero, Bool.not_true, Bool.not_false, ↓reduceIte, Bool.false_eq_true, Bool.true_eq_false, okD_int, okD_bl, okD_non, dEq_int, dEq_bl, Bool.true_xor, Bool.false_xor, Bool.not_eq_true', decide_eq_true_eq, decide_eq_false_iff_not, true_and, Bool.and_true, Bool.and_false, Bool.true_and, Bool.false_and, at_0, at_1, at_2, cast0, cast1, cast2, cast3, not_true_eq_false, not_false_eq_true, eL, Option.map_some, Option.map_none, dSlL, slk, doNone, doSome, sortedTD, dLenSet, lsk, x_law_cell_at, Int.reduceLE]
  refine x_k21_law_guild_of ha (by omega) fun A s S1 g r hn fr => ?_
  have n1 := g.n1
  (try dsimp only)
  refine x_settled_tables g (fun z => absurd z (by omega)) fun _ S2 l2 => ?_
  have hS := fr.le.trans l2
  (try dsimp only)
  simp only [t_k21_law_3]
  rw [dSeq_ap]
  simp only [dIfS, dB, dOp, dVar, dCB, dCons, dNil, dRet, dRetN, dNext, dC, dAsg, dgN, dgT, dgSeq, dDrop, dCont, dAndT, dOrT, dNotT, dAndV, dOrV, dNotV, dIf, dIsN, dNotN, dNeg, dLst, dTup, dNewI, dCall, dMeth, dMake, dRaise, dFrz, dIsi, isiK, tyS, inst_NoneType_bool, inst_NoneType_int, inst_NoneType_str, inst_NoneType_list, inst_NoneType_tuple, inst_bool_bool, inst_bool_int, inst_bool_str, inst_bool_list, inst_bool_tuple, inst_int_bool, inst_int_int, inst_int_str, inst_int_list, inst_int_tuple, inst_str_bool, inst_str_int, inst_str_str, inst_str_list, inst_str_tuple, inst_list_bool, inst_list_int, inst_list_str, inst_list_list, inst_list_tuple, inst_tuple_bool, inst_tuple_int, inst_tuple_str, inst_tuple_list, inst_tuple_tuple, iiD, iiD0, subD, mulD, fdivD, modD, shrD, pow_10_6, pow_10_60, ltI, leI, gtI, geI, addI, addD, catD, scatD, lenD, lenS, ixD, ixL, ixLK, ixK, vl, vm, newL, i2D, absD, tupleD, dLM, dLM0, dFld, getF, dGet1, dGet2, getK, dSetIx, rng1, rng2, dFor1, dFor2, dFor, dForK, dstart, List.map_cons, List.map_nil, List.length_cons, List.length_nil, List.cons_append, List.nil_append, List.replicate, List.getElem?_cons_zero, List.getElem?_cons_succ, List.set_cons_zero, List.set_cons_succ, Option.isSome_some, Option.isNone_some, Option.isNone_none, Nat.add_one_sub_one, Nat.reduceAdd, Nat.reduceSub, Nat.sub_self, Nat.sub_zero, Bool.not_true, Bool.not_false, ↓reduceIte, Bool.false_eq_true, Bool.true_eq_false, okD_int, okD_bl, okD_non, dEq_int, dEq_bl, Bool.true_xor, Bool.false_xor, Bool.not_eq_true', decide_eq_true_eq, decide_eq_false_iff_not, true_and, Bool.and_true, Bool.and_false, Bool.true_and, Bool.false_and, at_0, at_1, at_2, cast0, cast1, cast2, cast3, not_true_eq_false, not_false_eq_true, eL, Option.map_some, Option.map_none, dSlL, slk, doNone, doSome, sortedTD, dLenSet, lsk]
  (try rw [if_neg (by decide)])
  simp only [t_k21_law_4]
  rw [dSeq_ap]
  simp only [dIfS, dB, dOp, dVar, dCB, dCons, dNil, dRet, dRetN, dNext, dC, dAsg, dgN, dgT, dgSeq, dDrop, dCont, dAndT, dOrT, dNotT, dAndV, dOrV, dNotV, dIf, dIsN, dNotN, dNeg, dLst, dTup, dNewI, dCall, dMeth, dMake, dRaise, dFrz, dIsi, isiK, tyS, inst_NoneType_bool, inst_NoneType_int, inst_NoneType_str, inst_NoneType_list, inst_NoneType_tuple, inst_bool_bool, inst_bool_int, inst_bool_str, inst_bool_list, inst_bool_tuple, inst_int_bool, inst_int_int, inst_int_str, inst_int_list, inst_int_tuple, inst_str_bool, inst_str_int, inst_str_str, inst_str_list, inst_str_tuple, inst_list_bool, inst_list_int, inst_list_str, inst_list_list, inst_list_tuple, inst_tuple_bool, inst_tuple_int, inst_tuple_str, inst_tuple_list, inst_tuple_tuple, iiD, iiD0, subD, mulD, fdivD, modD, shrD, pow_10_6, pow_10_60, ltI, leI, gtI, geI, addI, addD, catD, scatD, lenD, lenS, ixD, ixL, ixLK, ixK, vl, vm, newL, i2D, absD, tupleD, dLM, dLM0, dFld, getF, dGet1, dGet2, getK, dSetIx, rng1, rng2, dFor1, dFor2, dFor, dForK, dstart, List.map_cons, List.map_nil, List.length_cons, List.length_nil, List.cons_append, List.nil_append, List.replicate, List.getElem?_cons_zero, List.getElem?_cons_succ, List.set_cons_zero, List.set_cons_succ, Option.isSome_some, Option.isNone_some, Option.isNone_none, Nat.add_one_sub_one, Nat.reduceAdd, Nat.reduceSub, Nat.sub_self, Nat.sub_zero, Bool.not_true, Bool.not_false, ↓reduceIte, Bool.false_eq_true, Bool.true_eq_false, okD_int, okD_bl, okD_non, dEq_int, dEq_bl, Bool.true_xor, Bool.false_xor, Bool.not_eq_true', decide_eq_true_eq, decide_eq_false_iff_not, true_and, Bool.and_true, Bool.and_false, Bool.true_and, Bool.false_and, at_0, at_1, at_2, cast0, cast1, cast2, cast3, not_true_eq_false, not_false_eq_true, eL, Option.map_some, Option.map_none, dSlL, slk, doNone, doSome, sortedTD, dLenSet, lsk]
  by_cases c3 : m = 3
  · subst c3
    have e0 : s.tables = [] := by
      cases e : s.tables with
      | nil => rfl
      | cons t l =>
        have : t ∈ s.tables := by rw [e]; exact List.mem_cons_self
        exact (r.odd (by omega) ((mem_tables n1).mp this)).elim
    rw [e0]
    simp only [dIfS, dB, dOp, dVar, dCB, dCons, dNil, dRet, dRetN, dNext, dC, dAsg, dgN, dgT, dgSeq, dDrop, dCont, dAndT, dOrT, dNotT, dAndV, dOrV, dNotV, dIf, dIsN, dNotN, dNeg, dLst, dTup, dNewI, dCall, dMeth, dMake, dRaise, dFrz, dIsi, isiK, tyS, inst_NoneType_bool, inst_NoneType_int, inst_NoneType_str, inst_NoneType_list, inst_NoneType_tuple, inst_bool_bool, inst_bool_int, inst_bool_str, inst_bool_list, inst_bool_tuple, inst_int_bool, inst_int_int, inst_int_str, inst_int_list, inst_int_tuple, inst_str_bool, inst_str_int, inst_str_str, inst_str_list, inst_str_tuple, inst_list_bool, inst_list_int, inst_list_str, inst_list_list, inst_list_tuple, inst_tuple_bool, inst_tuple_int, inst_tuple_str, inst_tuple_list, inst_tuple_tuple, iiD, iiD0, subD, mulD, fdivD, modD, shrD, pow_10_6, pow_10_60, ltI, leI, gtI, geI, addI, addD, catD, scatD, lenD, lenS, ixD, ixL, ixLK, ixK, vl, vm, newL, i2D, absD, tupleD, dLM, dLM0, dFld, getF, dGet1, dGet2, getK, dSetIx, rng1, rng2, dFor1, dFor2, dFor, dForK, eqR, rs, dstart, List.map_cons, List.map_nil, List.length_cons, List.length_nil, List.cons_append, List.nil_append, List.replicate, List.getElem?_cons_zero, List.getElem?_cons_succ, List.set_cons_zero, List.set_cons_succ, Option.isSome_some, Option.isNone_some, Option.isNone_none, Nat.add_one_sub_one, Nat.reduceAdd, Nat.reduceSub, Nat.sub_self, Nat.sub_zero, Bool.not_true, Bool.not_false, ↓reduceIte, Bool.false_eq_true, Bool.true_eq_false, okD_int, okD_bl, okD_non, dEq_int, dEq_bl, Bool.true_xor, Bool.false_xor, Bool.not_eq_true', decide_eq_true_eq, decide_eq_false_iff_not, true_and, Bool.and_true, Bool.and_false, Bool.true_and, Bool.false_and, at_0, at_1, at_2, cast0, cast1, cast2, cast3, not_true_eq_false, not_false_eq_true, eL, Option.map_some, Option.map_none, dSlL, slk, doNone, doSome, sortedTD, dLenSet, lsk]
    exact rt_le hS q
  · refine eqR_i ?_
    rw [decide_eq_false (by omega)]
    (try dsimp only)
    (try rw [if_neg (by decide)])
    exact k21_5 K a S S2 hS Q E q R ha (by omega) (by omega) s n1 (fun t => (mem_tables n1).trans (r.two ha hn (by omega))) _ _

end DL
namespace DL
open PySem L2
def top (i : Nat) : Stmt := PySem.Challenge.pw_heraldways_k21_rings_of_wishes.main.body.getD i (.Pass ⟨0, 0, 0, 0⟩)
abbrev s_Guild_see_house : Stmt := inClass (top 17) 2
abbrev s_Guild_liking : Stmt := inClass (top 17) 9
abbrev s_Guild_see_road : Stmt := inClass (top 17) 12
abbrev s_Guild_rank_of : Stmt := inClass (top 17) 15
abbrev s_better : Stmt := top 2
abbrev s_takes : Stmt := top 3
abbrev s_Guild_shunned : Stmt := inClass (top 17) 11
abbrev s_chosen : Stmt := top 4
abbrev s_Guild_neighbours : Stmt := inClass (top 17) 4
abbrev s_Guild_size : Stmt := inClass (top 17) 1
abbrev s_first_unsettled : Stmt := top 5
abbrev s_rows_of_nexts : Stmt := top 13
abbrev s_followed : Stmt := top 14
abbrev s_settled_tables : Stmt := top 15
abbrev s_Guild_init : Stmt := inClass (top 17) 0
abbrev s_Guild_see_two : Stmt := inClass (top 17) 3
abbrev s_Guild_has_way : Stmt := inClass (top 17) 5
abbrev s_Guild_lay_way : Stmt := inClass (top 17) 6
abbrev s_Guild_wish : Stmt := inClass (top 17) 13
abbrev s_law_cell_at : Stmt := top 19
abbrev s_law_whole : Stmt := top 20
abbrev s_law_same_road : Stmt := top 21
abbrev s_law_same_table : Stmt := top 22
abbrev s_law_order : Stmt := top 23
abbrev s_k21_law_guild_of : Stmt := top 24
abbrev s_law_table_of : Stmt := top 25
abbrev s_k21_law : Stmt := top 26
structure Ad where
  c : CA
  f_Guild_see_house : Addr
  d_Guild_see_house : FuncData
  f_Guild_liking : Addr
  d_Guild_liking : FuncData
  f_Guild_see_road : Addr
  d_Guild_see_road : FuncData
  f_Guild_rank_of : Addr
  d_Guild_rank_of : FuncData
  f_better : Addr
  d_better : FuncData
  f_takes : Addr
  d_takes : FuncData
  f_Guild_shunned : Addr
  d_Guild_shunned : FuncData
  f_chosen : Addr
  d_chosen : FuncData
  f_Guild_neighbours : Addr
  d_Guild_neighbours : FuncData
  f_Guild_size : Addr
  d_Guild_size : FuncData
  f_first_unsettled : Addr
  d_first_unsettled : FuncData
  f_rows_of_nexts : Addr
  d_rows_of_nexts : FuncData
  f_followed : Addr
  d_followed : FuncData
  f_settled_tables : Addr
  d_settled_tables : FuncData
  f_Guild_init : Addr
  d_Guild_init : FuncData
  f_Guild_see_two : Addr
  d_Guild_see_two : FuncData
  f_Guild_has_way : Addr
  d_Guild_has_way : FuncData
  f_Guild_lay_way : Addr
  d_Guild_lay_way : FuncData
  f_Guild_wish : Addr
  d_Guild_wish : FuncData
  f_law_cell_at : Addr
  d_law_cell_at : FuncData
  f_law_whole : Addr
  d_law_whole : FuncData
  f_law_same_road : Addr
  d_law_same_road : FuncData
  f_law_same_table : Addr
  d_law_same_table : FuncData
  f_law_order : Addr
  d_law_order : FuncData
  f_k21_law_guild_of : Addr
  d_k21_law_guild_of : FuncData
  f_law_table_of : Addr
  d_law_table_of : FuncData
  f_k21_law : Addr
  d_k21_law : FuncData
structure Txt (K : PySem.W.Frag) (mg : Str → Option Value) (a : Ad) : Prop where
  d_Guild_see_house : MethT K a.c.Guild "see_house" "Guild.see_house" s_Guild_see_house ["self", "a"] a.f_Guild_see_house a.d_Guild_see_house
  d_Guild_liking : MethT K a.c.Guild "liking" "Guild.liking" s_Guild_liking ["self", "a", "b"] a.f_Guild_liking a.d_Guild_liking
  d_Guild_see_road : MethT K a.c.Guild "see_road" "Guild.see_road" s_Guild_see_road ["self", "road"] a.f_Guild_see_road a.d_Guild_see_road
  d_Guild_rank_of : MethT K a.c.Guild "rank_of" "Guild.rank_of" s_Guild_rank_of ["self", "road"] a.f_Guild_rank_of a.d_Guild_rank_of
  d_better : DefT K mg "better" s_better ["guild", "one", "other"] a.f_better a.d_better
  d_takes : DefT K mg "takes" s_takes ["shunned", "house", "road"] a.f_takes a.d_takes
  d_Guild_shunned : MethT K a.c.Guild "shunned" "Guild.shunned" s_Guild_shunned ["self", "a"] a.f_Guild_shunned a.d_Guild_shunned
  d_chosen : DefT K mg "chosen" s_chosen ["guild", "house", "told"] a.f_chosen a.d_chosen
  d_Guild_neighbours : MethT K a.c.Guild "neighbours" "Guild.neighbours" s_Guild_neighbours ["self", "a"] a.f_Guild_neighbours a.d_Guild_neighbours
  d_Guild_size : MethT K a.c.Guild "size" "Guild.size" s_Guild_size ["self"] a.f_Guild_size a.d_Guild_size
  d_first_unsettled : DefT K mg "first_unsettled" s_first_unsettled ["guild", "table"] a.f_first_unsettled a.d_first_unsettled
  d_rows_of_nexts : DefT K mg "rows_of_nexts" s_rows_of_nexts ["guild"] a.f_rows_of_nexts a.d_rows_of_nexts
  d_followed : DefT K mg "followed" s_followed ["nexts", "house"] a.f_followed a.d_followed
  d_settled_tables : DefT K mg "settled_tables" s_settled_tables ["guild"] a.f_settled_tables a.d_settled_tables
  d_Guild_init : MethT K a.c.Guild "__init__" "Guild.__init__" s_Guild_init ["self", "size"] a.f_Guild_init a.d_Guild_init
  d_Guild_see_two : MethT K a.c.Guild "see_two" "Guild.see_two" s_Guild_see_two ["self", "a", "b"] a.f_Guild_see_two a.d_Guild_see_two
  d_Guild_has_way : MethT K a.c.Guild "has_way" "Guild.has_way" s_Guild_has_way ["self", "a", "b"] a.f_Guild_has_way a.d_Guild_has_way
  d_Guild_lay_way : MethT K a.c.Guild "lay_way" "Guild.lay_way" s_Guild_lay_way ["self", "a", "b"] a.f_Guild_lay_way a.d_Guild_lay_way
  d_Guild_wish : MethT K a.c.Guild "wish" "Guild.wish" s_Guild_wish ["self", "road", "rank"] a.f_Guild_wish a.d_Guild_wish
  d_law_cell_at : DefT K mg "_law_cell_at" s_law_cell_at ["script", "k"] a.f_law_cell_at a.d_law_cell_at
  d_law_whole : DefT K mg "_law_whole" s_law_whole ["found"] a.f_law_whole a.d_law_whole
  d_law_same_road : DefT K mg "_law_same_road" s_law_same_road ["found", "due"] a.f_law_same_road a.d_law_same_road
  d_law_same_table : DefT K mg "_law_same_table" s_law_same_table ["found", "due"] a.f_law_same_table a.d_law_same_table
  d_law_order : DefT K mg "_law_order" s_law_order ["cell", "many"] a.f_law_order a.d_law_order
  d_k21_law_guild_of : DefT K mg "_law_guild_of" s_k21_law_guild_of ["ring", "cell"] a.f_k21_law_guild_of a.d_k21_law_guild_of
  d_law_table_of : DefT K mg "_law_table_of" s_law_table_of ["ring", "start"] a.f_law_table_of a.d_law_table_of
  d_k21_law : DefT K mg "law" s_k21_law ["script"] a.f_k21_law a.d_k21_law
  cl_Guild : Cls K a.c.Guild
  g_Guild : mg "Guild" = some (.ref a.c.Guild)
  mk_Guild : Mk K a.c.Guild a.f_Guild_init
  na_Guild_fond : NoAttr K a.c.Guild "fond"
  na_Guild_houses : NoAttr K a.c.Guild "houses"
  na_Guild_longings : NoAttr K a.c.Guild "longings"
  na_Guild_shy : NoAttr K a.c.Guild "shy"
  na_Guild_ties : NoAttr K a.c.Guild "ties"
  n_bool : mg "bool" = none
  n_int : mg "int" = none
  n_isinstance : mg "isinstance" = none
  n_len : mg "len" = none
  n_list : mg "list" = none
  n_range : mg "range" = none
  n_set : mg "set" = none
  n_sorted : mg "sorted" = none
  n_tuple : mg "tuple" = none
  x_GuildError : ExcT K mg "GuildError" a.c.GuildError
  x_NoHouse : ExcT K mg "NoHouse" a.c.NoHouse
  x_WayThere : ExcT K mg "WayThere" a.c.WayThere
  x_NoRoad : ExcT K mg "NoRoad" a.c.NoRoad
  x_TooMany : ExcT K mg "TooMany" a.c.TooMany
  ex : ExK K a.c
theorem sc_Guild_see_house : FnScope N_Guild_see_house ["self", "a"] (defScope s_Guild_see_house) := ⟨rfl, rfl, rfl, by decide +kernel, rfl, by decide +kernel, by decide +kernel⟩
theorem ok_Guild_see_house {P : Program} {w : World} {K : PySem.W.Frag} {mg : Str → Option Value} {base : Heap} {a : Ad} (T : Txt K mg a) : FnOk P w K mg base (L2.CX P w) 1 a.f_Guild_see_house a.d_Guild_see_house ["self", "a"] (upSp K (sp_Guild_see_house a.c)) :=
  def_ok (t := t_Guild_see_house K a.c) T.d_Guild_see_house.F sc_Guild_see_house (len_Guild_see_house a.c) (fun cdv A outer s H E G0 W hr tk po =>
  (dss_one (ds_if (dt_w (dw_or (dt_lt (dv 1) de_int) (dw_or1 (dt_ge (dv 1) (de_fld T.cl_Guild T.na_Guild_houses (dv 0))))))
    (dss_one (ds_raise rfl tk (T.x_NoHouse.mk' rfl)))
    dss_nil)))
  (read_Guild_see_house K a.c)
theorem sc_Guild_liking : FnScope N_Guild_liking ["self", "a", "b"] (defScope s_Guild_liking) := ⟨rfl, rfl, rfl, by decide +kernel, rfl, by decide +kernel, by decide +kernel⟩
theorem ok_Guild_liking {P : Program} {w : World} {K : PySem.W.Frag} {mg : Str → Option Value} {base : Heap} {a : Ad} (T : Txt K mg a) : FnOk P w K mg base (L2.CX P w) 2 a.f_Guild_liking a.d_Guild_liking ["self", "a", "b"] (upSp K (sp_Guild_liking a.c)) :=
  def_ok (t := t_Guild_liking K a.c) T.d_Guild_liking.F sc_Guild_liking (len_Guild_liking a.c) (fun cdv A outer s H E G0 W hr tk po =>
  (dss_cons (ds_expr (de_meth (ok_Guild_see_house T) (hr.mono (by decide)) T.cl_Guild T.d_Guild_see_house.m T.d_Guild_see_house.b tk (dv 0) (da_cons (dv 1) da_nil)))
  (dss_cons (ds_expr (de_meth (ok_Guild_see_house T) (hr.mono (by decide)) T.cl_Guild T.d_Guild_see_house.m T.d_Guild_see_house.b tk (dv 0) (da_cons (dv 2) da_nil)))
  (dss_one (ds_ret (de_get2 hr (de_fld T.cl_Guild T.na_Guild_fond (dv 0)) (de_tup (da_cons (dv 1) (da_cons (dv 2) da_nil))) de_int))))))
  (read_Guild_liking K a.c)
theorem sc_Guild_see_road : FnScope N_Guild_see_road ["self", "road"] (defScope s_Guild_see_road) := ⟨rfl, rfl, rfl, by decide +kernel, rfl, by decide +kernel, by decide +kernel⟩
theorem ok_Guild_see_road {P : Program} {w : World} {K : PySem.W.Frag} {mg : Str → Option Value} {base : Heap} {a : Ad} (T : Txt K mg a) : FnOk P w K mg base (L2.CX P w) 2 a.f_Guild_see_road a.d_Guild_see_road ["self", "road"] (upSp K (sp_Guild_see_road a.c)) :=
  def_ok (t := t_Guild_see_road K a.c) T.d_Guild_see_road.F sc_Guild_see_road (len_Guild_see_road a.c) (fun cdv A outer s H E G0 W hr tk po =>
  (dss_cons (ds_for po rfl tk (dv 1) (pg_name (i := 2) sc_Guild_see_road.nd rfl (by first | exact Or.inl rfl | exact Or.inr rfl)) lift_gN (fun _ tk =>
    (dss_one (ds_expr (de_meth (ok_Guild_see_house T) (hr.mono (by decide)) T.cl_Guild T.d_Guild_see_house.m T.d_Guild_see_house.b tk (dv 0) (da_cons (dv 2) da_nil))))))
  (dss_one (ds_if (dt_w (dw_or (dt_lt (de_len T.n_len (da_cons (dv 1) da_nil)) de_int) (dw_or (dt_ne hr (de_at hr (dv 1) (de_neg de_int)) de_int) (dw_or1 (dt_ne hr (de_lenSet rfl T.n_len T.n_set (dv 1)) (de_len T.n_len (da_cons (dv 1) da_nil)))))))
    (dss_one (ds_raise rfl tk (T.x_NoRoad.mk' rfl)))
    dss_nil))))
  (read_Guild_see_road K a.c)
theorem sc_Guild_rank_of : FnScope N_Guild_rank_of ["self", "road"] (defScope s_Guild_rank_of) := ⟨rfl, rfl, rfl, by decide +kernel, rfl, by decide +kernel, by decide +kernel⟩
theorem ok_Guild_rank_of {P : Program} {w : World} {K : PySem.W.Frag} {mg : Str → Option Value} {base : Heap} {a : Ad} (T : Txt K mg a) : FnOk P w K mg base (L2.CX P w) 3 a.f_Guild_rank_of a.d_Guild_rank_of ["self", "road"] (upSp K (sp_Guild_rank_of a.c)) :=
  def_ok (t := t_Guild_rank_of K a.c) T.d_Guild_rank_of.F sc_Guild_rank_of (len_Guild_rank_of a.c) (fun cdv A outer s H E G0 W hr tk po =>
  (dss_cons (ds_expr (de_meth (ok_Guild_see_road T) (hr.mono (by decide)) T.cl_Guild T.d_Guild_see_road.m T.d_Guild_see_road.b tk (dv 0) (da_cons (dv 1) da_nil)))
  (dss_cons (ds_set 2 sc_Guild_rank_of.nd (de_tuple T.n_tuple (da_cons (dv 1) da_nil)))
  (dss_cons (ds_if (dt_in hr (dv 2) (de_fld T.cl_Guild T.na_Guild_longings (dv 0)))
    (dss_one (ds_ret (de_at hr (de_fld T.cl_Guild T.na_Guild_longings (dv 0)) (dv 2))))
    dss_nil)
  (dss_one (ds_ret (de_meth (ok_Guild_liking T) (hr.mono (by decide)) T.cl_Guild T.d_Guild_liking.m T.d_Guild_liking.b tk (dv 0) (da_cons (de_at hr (dv 1) de_int) (da_cons (de_at hr (dv 1) de_int) da_nil)))))))))
  (read_Guild_rank_of K a.c)
theorem sc_better : FnScope N_better ["guild", "one", "other"] (defScope s_better) := ⟨rfl, rfl, rfl, by decide +kernel, rfl, by decide +kernel, by decide +kernel⟩
theorem ok_better {P : Program} {w : World} {K : PySem.W.Frag} {mg : Str → Option Value} {base : Heap} {a : Ad} (T : Txt K mg a) : FnOk P w K mg base (L2.CX P w) 4 a.f_better a.d_better ["guild", "one", "other"] (upSp K (sp_better a.c)) :=
  def_ok (t := t_better K a.c) T.d_better.F sc_better (len_better a.c) (fun cdv A outer s H E G0 W hr tk po =>
  (dss_cons (ds_set 3 sc_better.nd (de_meth (ok_Guild_rank_of T) (hr.mono (by decide)) T.cl_Guild T.d_Guild_rank_of.m T.d_Guild_rank_of.b tk (dv 0) (da_cons (dv 1) da_nil)))
  (dss_cons (ds_set 4 sc_better.nd (de_meth (ok_Guild_rank_of T) (hr.mono (by decide)) T.cl_Guild T.d_Guild_rank_of.m T.d_Guild_rank_of.b tk (dv 0) (da_cons (dv 2) da_nil)))
  (dss_cons (ds_if (dt_ne hr (dv 3) (dv 4))
    (dss_one (ds_ret (de_gt (dv 3) (dv 4))))
    dss_nil)
  (dss_cons (ds_if (dt_ne hr (de_len T.n_len (da_cons (dv 1) da_nil)) (de_len T.n_len (da_cons (dv 2) da_nil)))
    (dss_one (ds_ret (de_lt (de_len T.n_len (da_cons (dv 1) da_nil)) (de_len T.n_len (da_cons (dv 2) da_nil)))))
    dss_nil)
  (dss_one (ds_ret (de_ltD hr (dv 1) (dv 2)))))))))
  (read_better K a.c)
theorem sc_takes : FnScope N_takes ["shunned", "house", "road"] (defScope s_takes) := ⟨rfl, rfl, rfl, by decide +kernel, rfl, by decide +kernel, by decide +kernel⟩
theorem ok_takes {P : Program} {w : World} {K : PySem.W.Frag} {mg : Str → Option Value} {base : Heap} {a : Ad} (T : Txt K mg a) : FnOk P w K mg base (L2.CX P w) 1 a.f_takes a.d_takes ["shunned", "house", "road"] (upSp K (sp_takes a.c)) :=
  def_ok (t := t_takes K a.c) T.d_takes.F sc_takes (len_takes a.c) (fun cdv A outer s H E G0 W hr tk po =>
  (dss_cons (ds_if (dt_w (dw_or (dt_isN (dv 2)) (dw_or1 (dt_in hr (dv 1) (dv 2)))))
    (dss_one (ds_ret de_bl))
    dss_nil)
  (dss_cons (ds_for po rfl tk (dv 0) (pg_name (i := 3) sc_takes.nd rfl (by first | exact Or.inl rfl | exact Or.inr rfl)) lift_gN (fun _ tk =>
    (dss_one (ds_if (dt_in hr (dv 3) (dv 2))
      (dss_one (ds_ret de_bl))
      dss_nil))))
  (dss_one (ds_ret de_bl)))))
  (read_takes K a.c)
theorem sc_Guild_shunned : FnScope N_Guild_shunned ["self", "a"] (defScope s_Guild_shunned) := ⟨rfl, rfl, rfl, by decide +kernel, rfl, by decide +kernel, by decide +kernel⟩
theorem ok_Guild_shunned {P : Program} {w : World} {K : PySem.W.Frag} {mg : Str → Option Value} {base : Heap} {a : Ad} (T : Txt K mg a) : FnOk P w K mg base (L2.CX P w) 2 a.f_Guild_shunned a.d_Guild_shunned ["self", "a"] (upSp K (sp_Guild_shunned a.c)) :=
  def_ok (t := t_Guild_shunned K a.c) T.d_Guild_shunned.F sc_Guild_shunned (len_Guild_shunned a.c) (fun cdv A outer s H E G0 W hr tk po =>
  (dss_cons (ds_expr (de_meth (ok_Guild_see_house T) (hr.mono (by decide)) T.cl_Guild T.d_Guild_see_house.m T.d_Guild_see_house.b tk (dv 0) (da_cons (dv 1) da_nil)))
  (dss_one (ds_ret (de_list false rfl T.n_list (da_cons (de_at hr (de_fld T.cl_Guild T.na_Guild_shy (dv 0)) (dv 1)) da_nil))))))
  (read_Guild_shunned K a.c)
theorem sc_chosen : FnScope N_chosen ["guild", "house", "told"] (defScope s_chosen) := ⟨rfl, rfl, rfl, by decide +kernel, rfl, by decide +kernel, by decide +kernel⟩
theorem ok_chosen {P : Program} {w : World} {K : PySem.W.Frag} {mg : Str → Option Value} {base : Heap} {a : Ad} (T : Txt K mg a) : FnOk P w K mg base (L2.CX P w) 5 a.f_chosen a.d_chosen ["guild", "house", "told"] (upSp K (sp_chosen a.c)) :=
  def_ok (t := t_chosen K a.c) T.d_chosen.F sc_chosen (len_chosen a.c) (fun cdv A outer s H E G0 W hr tk po =>
  (dss_cons (ds_set 3 sc_chosen.nd (de_meth (ok_Guild_shunned T) (hr.mono (by decide)) T.cl_Guild T.d_Guild_shunned.m T.d_Guild_shunned.b tk (dv 0) (da_cons (dv 1) da_nil)))
  (dss_cons (ds_if (dt_eq hr (dv 1) de_int)
    (dss_one (ds_ret (de_lst false (da_cons de_int da_nil))))
    dss_nil)
  (dss_cons (ds_set 4 sc_chosen.nd de_non)
  (dss_cons (ds_for po rfl tk (dv 2) (pg_name (i := 5) sc_chosen.nd rfl (by first | exact Or.inl rfl | exact Or.inr rfl)) lift_gN (fun _ tk =>
    (dss_one (ds_if (dt_val (de_call (ok_takes T) (hr.mono (by decide)) T.d_takes.g T.d_takes.F.kp T.d_takes.b tk (da_cons (dv 3) (da_cons (dv 1) (da_cons (dv 5) da_nil)))))
      (dss_cons (ds_set 6 sc_chosen.nd (de_add false (de_lst false (da_cons (dv 1) da_nil)) (dv 5)))
      (dss_one (ds_if (dt_w (dw_or (dt_isN (dv 4)) (dw_or1 (dt_val (de_call (ok_better T) (hr.mono (by decide)) T.d_better.g T.d_better.F.kp T.d_better.b tk (da_cons (dv 0) (da_cons (dv 6) (da_cons (dv 4) da_nil))))))))
        (dss_one (ds_set 4 sc_chosen.nd (dv 6)))
        dss_nil)))
      dss_nil))))
  (dss_one (ds_ret (dv 4))))))))
  (read_chosen K a.c)
theorem sc_Guild_neighbours : FnScope N_Guild_neighbours ["self", "a"] (defScope s_Guild_neighbours) := ⟨rfl, rfl, rfl, by decide +kernel, rfl, by decide +kernel, by decide +kernel⟩
theorem ok_Guild_neighbours {P : Program} {w : World} {K : PySem.W.Frag} {mg : Str → Option Value} {base : Heap} {a : Ad} (T : Txt K mg a) : FnOk P w K mg base (L2.CX P w) 2 a.f_Guild_neighbours a.d_Guild_neighbours ["self", "a"] (upSp K (sp_Guild_neighbours a.c)) :=
  def_ok (t := t_Guild_neighbours K a.c) T.d_Guild_neighbours.F sc_Guild_neighbours (len_Guild_neighbours a.c) (fun cdv A outer s H E G0 W hr tk po =>
  (dss_cons (ds_expr (de_meth (ok_Guild_see_house T) (hr.mono (by decide)) T.cl_Guild T.d_Guild_see_house.m T.d_Guild_see_house.b tk (dv 0) (da_cons (dv 1) da_nil)))
  (dss_one (ds_ret (de_list false rfl T.n_list (da_cons (de_at hr (de_fld T.cl_Guild T.na_Guild_ties (dv 0)) (dv 1)) da_nil))))))
  (read_Guild_neighbours K a.c)
theorem sc_Guild_size : FnScope N_Guild_size ["self"] (defScope s_Guild_size) := ⟨rfl, rfl, rfl, by decide +kernel, rfl, by decide +kernel, by decide +kernel⟩
theorem ok_Guild_size {P : Program} {w : World} {K : PySem.W.Frag} {mg : Str → Option Value} {base : Heap} {a : Ad} (T : Txt K mg a) : FnOk P w K mg base (L2.CX P w) 1 a.f_Guild_size a.d_Guild_size ["self"] (upSp K (sp_Guild_size a.c)) :=
  def_ok (t := t_Guild_size K a.c) T.d_Guild_size.F sc_Guild_size (len_Guild_size a.c) (fun cdv A outer s H E G0 W hr tk po =>
  (dss_one (ds_ret (de_fld T.cl_Guild T.na_Guild_houses (dv 0)))))
  (read_Guild_size K a.c)
theorem sc_first_unsettled : FnScope N_first_unsettled ["guild", "table"] (defScope s_first_unsettled) := ⟨rfl, rfl, rfl, by decide +kernel, rfl, by decide +kernel, by decide +kernel⟩
theorem ok_first_unsettled {P : Program} {w : World} {K : PySem.W.Frag} {mg : Str → Option Value} {base : Heap} {a : Ad} (T : Txt K mg a) : FnOk P w K mg base (L2.CX P w) 6 a.f_first_unsettled a.d_first_unsettled ["guild", "table"] (upSp K (sp_first_unsettled a.c)) :=
  def_ok (t := t_first_unsettled K a.c) T.d_first_unsettled.F sc_first_unsettled (len_first_unsettled a.c) (fun cdv A outer s H E G0 W hr tk po =>
  (dss_cons (ds_for1 po rfl tk T.n_range (da_cons (de_meth0 (ok_Guild_size T) (hr.mono (by decide)) T.cl_Guild T.d_Guild_size.m T.d_Guild_size.b tk (dv 0)) da_nil) (pg_name (i := 2) sc_first_unsettled.nd rfl (by first | exact Or.inl rfl | exact Or.inr rfl)) lift_gN (fun _ tk =>
    (dss_cons (ds_setLc (own := [("b", 4)]) 3 false rfl sc_first_unsettled.nd rfl rfl (sw_true rfl rfl rfl (by decide +kernel)) (pi_list (de_meth (ok_Guild_neighbours T) (hr.mono (by decide)) T.cl_Guild T.d_Guild_neighbours.m T.d_Guild_neighbours.b tk (dv 0) (da_cons (dv 2) da_nil))) lift_iL lift_gN wipeG_name (blkOk_by (own := [("b", 4)]) (N := N_first_unsettled) (sc := defScope s_first_unsettled) (by decide +kernel)) (fun _ _ _ _ _ => pg_name (i := 4) sc_first_unsettled.nd rfl (Or.inl rfl)) (fun _ _ _ _ _ _ _ => dts_nil) (fun _ _ _ _ _ _ tk => (de_at hr (dv 1) (dv 4))))
    (dss_one (ds_if (dt_ne hr (de_at hr (dv 1) (dv 2)) (de_call (ok_chosen T) (hr.mono (by decide)) T.d_chosen.g T.d_chosen.F.kp T.d_chosen.b tk (da_cons (dv 0) (da_cons (dv 2) (da_cons (dv 3) da_nil)))))
      (dss_one (ds_ret (dv 2)))
      dss_nil)))))
  (dss_one (ds_ret de_non))))
  (read_first_unsettled K a.c)
theorem sc_rows_of_nexts : FnScope N_rows_of_nexts ["guild"] (defScope s_rows_of_nexts) := ⟨rfl, rfl, rfl, by decide +kernel, rfl, by decide +kernel, by decide +kernel⟩
theorem ok_rows_of_nexts {P : Program} {w : World} {K : PySem.W.Frag} {mg : Str → Option Value} {base : Heap} {a : Ad} (T : Txt K mg a) : FnOk P w K mg base (L2.CX P w) 3 a.f_rows_of_nexts a.d_rows_of_nexts ["guild"] (upSp K (sp_rows_of_nexts a.c)) :=
  def_ok (t := t_rows_of_nexts K a.c) T.d_rows_of_nexts.F sc_rows_of_nexts (len_rows_of_nexts a.c) (fun cdv A outer s H E G0 W hr tk po =>
  (dss_cons (ds_set 1 sc_rows_of_nexts.nd (de_lst false (da_cons (de_lst false (da_cons de_non da_nil)) da_nil)))
  (dss_cons (ds_for2 po rfl tk T.n_range (da_cons de_int (da_cons (de_meth0 (ok_Guild_size T) (hr.mono (by decide)) T.cl_Guild T.d_Guild_size.m T.d_Guild_size.b tk (dv 0)) da_nil)) (pg_name (i := 2) sc_rows_of_nexts.nd rfl (by first | exact Or.inl rfl | exact Or.inr rfl)) lift_gN (fun _ tk =>
    (dss_cons (ds_set 3 sc_rows_of_nexts.nd (de_lst true da_nil))
    (dss_cons (ds_for po rfl tk (dv 1) (pg_name (i := 4) sc_rows_of_nexts.nd rfl (by first | exact Or.inl rfl | exact Or.inr rfl)) lift_gN (fun _ tk =>
      (dss_cons (ds_expr (de_lm PySem.F.slot_list_append PySem.F.type_list_append mt_append lift_append (dv 3) (da_cons (de_add false (dv 4) (de_lst false (da_cons de_non da_nil))) da_nil)))
      (dss_one (ds_for po rfl tk (de_meth (ok_Guild_neighbours T) (hr.mono (by decide)) T.cl_Guild T.d_Guild_neighbours.m T.d_Guild_neighbours.b tk (dv 0) (da_cons (dv 2) da_nil)) (pg_name (i := 5) sc_rows_of_nexts.nd rfl (by first | exact Or.inl rfl | exact Or.inr rfl)) lift_gN (fun _ tk =>
        (dss_one (ds_expr (de_lm PySem.F.slot_list_append PySem.F.type_list_append mt_append lift_append (dv 3) (da_cons (de_add false (dv 4) (de_lst false (da_cons (dv 5) da_nil))) da_nil))))))))))
    (dss_one (ds_set 1 sc_rows_of_nexts.nd (dv 3)))))))
  (dss_one (ds_ret (dv 1))))))
  (read_rows_of_nexts K a.c)
theorem sc_followed : FnScope N_followed ["nexts", "house"] (defScope s_followed) := ⟨rfl, rfl, rfl, by decide +kernel, rfl, by decide +kernel, by decide +kernel⟩
theorem ok_followed {P : Program} {w : World} {K : PySem.W.Frag} {mg : Str → Option Value} {base : Heap} {a : Ad} (T : Txt K mg a) : FnOk P w K mg base (L2.CX P w) 1 a.f_followed a.d_followed ["nexts", "house"] (upSp K (sp_followed a.c)) :=
  def_ok (t := t_followed K a.c) T.d_followed.F sc_followed (len_followed a.c) (fun cdv A outer s H E G0 W hr tk po =>
  (dss_cons (ds_set 2 sc_followed.nd (de_lst true (da_cons (dv 1) da_nil)))
  (dss_cons (ds_while po (dt_ne hr (dv 1) de_int)
    (dss_cons (ds_set 1 sc_followed.nd (de_at hr (dv 0) (dv 1)))
    (dss_cons (ds_if (dt_w (dw_or (dt_isN (dv 1)) (dw_or1 (dt_in hr (dv 1) (dv 2)))))
      (dss_one (ds_ret de_non))
      dss_nil)
    (dss_one (ds_expr (de_lm PySem.F.slot_list_append PySem.F.type_list_append mt_append lift_append (dv 2) (da_cons (dv 1) da_nil)))))))
  (dss_one (ds_ret (de_frz (dv 2)))))))
  (read_followed K a.c)
theorem sc_settled_tables : FnScope N_settled_tables ["guild"] (defScope s_settled_tables) := ⟨rfl, rfl, rfl, by decide +kernel, rfl, by decide +kernel, by decide +kernel⟩
theorem ok_settled_tables {P : Program} {w : World} {K : PySem.W.Frag} {mg : Str → Option Value} {base : Heap} {a : Ad} (T : Txt K mg a) : FnOk P w K mg base (L2.CX P w) 7 a.f_settled_tables a.d_settled_tables ["guild"] (upSp K (sp_settled_tables a.c)) :=
  def_ok (t := t_settled_tables K a.c) T.d_settled_tables.F sc_settled_tables (len_settled_tables a.c) (fun cdv A outer s H E G0 W hr tk po =>
  (dss_cons (ds_if (dt_gt (de_meth0 (ok_Guild_size T) (hr.mono (by decide)) T.cl_Guild T.d_Guild_size.m T.d_Guild_size.b tk (dv 0)) de_int)
    (dss_one (ds_raise rfl tk (T.x_TooMany.mk' rfl)))
    dss_nil)
  (dss_cons (ds_set 1 sc_settled_tables.nd (de_lst true da_nil))
  (dss_cons (ds_for po rfl tk (de_call (ok_rows_of_nexts T) (hr.mono (by decide)) T.d_rows_of_nexts.g T.d_rows_of_nexts.F.kp T.d_rows_of_nexts.b tk (da_cons (dv 0) da_nil)) (pg_name (i := 2) sc_settled_tables.nd rfl (by first | exact Or.inl rfl | exact Or.inr rfl)) lift_gN (fun _ tk =>
    (dss_cons (ds_set 3 sc_settled_tables.nd (de_lc (own := [("house", 4)]) false rfl sc_settled_tables.nd (pi_range1 rfl T.n_range (da_cons (de_meth0 (ok_Guild_size T) (hr.mono (by decide)) T.cl_Guild T.d_Guild_size.m T.d_Guild_size.b tk (dv 0)) da_nil)) lift_iR1 lift_gN wipeG_name (blkOk_by (own := [("house", 4)]) (N := N_settled_tables) (sc := defScope s_settled_tables) (by decide +kernel)) (fun _ _ _ _ _ => pg_name (i := 4) sc_settled_tables.nd rfl (Or.inl rfl)) (fun _ _ _ _ _ _ _ => dts_nil) (fun _ _ _ _ _ _ tk => (de_call (ok_followed T) (hr.mono (by decide)) T.d_followed.g T.d_followed.F.kp T.d_followed.b tk (da_cons (dv 2) (da_cons (dv 4) da_nil))))))
    (dss_cons (ds_setLc (own := [("house", 4)]) 5 false rfl sc_settled_tables.nd rfl rfl (sw_true rfl rfl rfl (by decide +kernel)) (pi_range1 rfl T.n_range (da_cons (de_meth0 (ok_Guild_size T) (hr.mono (by decide)) T.cl_Guild T.d_Guild_size.m T.d_Guild_size.b tk (dv 0)) da_nil)) lift_iR1 lift_gN wipeG_name (blkOk_by (own := [("house", 4)]) (N := N_settled_tables) (sc := defScope s_settled_tables) (by decide +kernel)) (fun _ _ _ _ _ => pg_name (i := 4) sc_settled_tables.nd rfl (Or.inl rfl)) (fun _ _ _ _ _ _ tk => dts_one (dt_w (dw_and (dt_notN (de_at hr (dv 2) (dv 4))) (dw_and1 (dt_isN (de_at hr (dv 3) (dv 4))))))) (fun _ _ _ _ _ _ tk => (dv 4)))
    (dss_one (ds_if (dt_w (dw_and (dt_eq hr (de_len T.n_len (da_cons (dv 5) da_nil)) de_int) (dw_and1 (dt_isN (de_call (ok_first_unsettled T) (hr.mono (by decide)) T.d_first_unsettled.g T.d_first_unsettled.F.kp T.d_first_unsettled.b tk (da_cons (dv 0) (da_cons (dv 3) da_nil)))))))
      (dss_one (ds_expr (de_lm PySem.F.slot_list_append PySem.F.type_list_append mt_append lift_append (dv 1) (da_cons (dv 3) da_nil))))
      dss_nil))))))
  (dss_one (ds_ret (de_frz (dv 1))))))))
  (read_settled_tables K a.c)
theorem sc_Guild_init : FnScope N_Guild_init ["self", "size"] (defScope s_Guild_init) := ⟨rfl, rfl, rfl, by decide +kernel, rfl, by decide +kernel, by decide +kernel⟩
theorem ok_Guild_init {P : Program} {w : World} {K : PySem.W.Frag} {mg : Str → Option Value} {base : Heap} {a : Ad} (T : Txt K mg a) : FnOk P w K mg base (L2.CX P w) 1 a.f_Guild_init a.d_Guild_init ["self", "size"] (upSp K (sp_Guild_init a.c)) :=
  def_ok (t := t_Guild_init K a.c) T.d_Guild_init.F sc_Guild_init (len_Guild_init a.c) (fun cdv A outer s H E G0 W hr tk po =>
  (dss_cons (ds_if (dt_w (dw_or (dt_lt (dv 1) de_int) (dw_or1 (dt_gt (dv 1) de_int))))
    (dss_one (ds_raise rfl tk (T.x_NoHouse.mk' rfl)))
    dss_nil)
  (dss_cons (ds_fld T.cl_Guild T.na_Guild_houses (dv 0) (dv 1))
  (dss_cons (ds_fld T.cl_Guild T.na_Guild_ties (dv 0) (de_lc (own := [("house", 2)]) true rfl sc_Guild_init.nd (pi_range1 rfl T.n_range (da_cons (dv 1) da_nil)) lift_iR1 lift_gN wipeG_name (blkOk_by (own := [("house", 2)]) (N := N_Guild_init) (sc := defScope s_Guild_init) (by decide +kernel)) (fun _ _ _ _ _ => pg_name (i := 2) sc_Guild_init.nd rfl (Or.inl rfl)) (fun _ _ _ _ _ _ _ => dts_nil) (fun _ _ _ _ _ _ tk => (de_lst false da_nil))))
  (dss_cons (ds_fld T.cl_Guild T.na_Guild_shy (dv 0) (de_lc (own := [("house", 2)]) true rfl sc_Guild_init.nd (pi_range1 rfl T.n_range (da_cons (dv 1) da_nil)) lift_iR1 lift_gN wipeG_name (blkOk_by (own := [("house", 2)]) (N := N_Guild_init) (sc := defScope s_Guild_init) (by decide +kernel)) (fun _ _ _ _ _ => pg_name (i := 2) sc_Guild_init.nd rfl (Or.inl rfl)) (fun _ _ _ _ _ _ _ => dts_nil) (fun _ _ _ _ _ _ tk => (de_lst false da_nil))))
  (dss_cons (ds_fld T.cl_Guild T.na_Guild_fond (dv 0) de_dict0)
  (dss_one (ds_fld T.cl_Guild T.na_Guild_longings (dv 0) de_dict0))))))))
  (read_Guild_init K a.c)
theorem sc_Guild_see_two : FnScope N_Guild_see_two ["self", "a", "b"] (defScope s_Guild_see_two) := ⟨rfl, rfl, rfl, by decide +kernel, rfl, by decide +kernel, by decide +kernel⟩
theorem ok_Guild_see_two {P : Program} {w : World} {K : PySem.W.Frag} {mg : Str → Option Value} {base : Heap} {a : Ad} (T : Txt K mg a) : FnOk P w K mg base (L2.CX P w) 2 a.f_Guild_see_two a.d_Guild_see_two ["self", "a", "b"] (upSp K (sp_Guild_see_two a.c)) :=
  def_ok (t := t_Guild_see_two K a.c) T.d_Guild_see_two.F sc_Guild_see_two (len_Guild_see_two a.c) (fun cdv A outer s H E G0 W hr tk po =>
  (dss_cons (ds_expr (de_meth (ok_Guild_see_house T) (hr.mono (by decide)) T.cl_Guild T.d_Guild_see_house.m T.d_Guild_see_house.b tk (dv 0) (da_cons (dv 1) da_nil)))
  (dss_cons (ds_expr (de_meth (ok_Guild_see_house T) (hr.mono (by decide)) T.cl_Guild T.d_Guild_see_house.m T.d_Guild_see_house.b tk (dv 0) (da_cons (dv 2) da_nil)))
  (dss_one (ds_if (dt_eq hr (dv 1) (dv 2))
    (dss_one (ds_raise rfl tk (T.x_NoHouse.mk' rfl)))
    dss_nil)))))
  (read_Guild_see_two K a.c)
theorem sc_Guild_has_way : FnScope N_Guild_has_way ["self", "a", "b"] (defScope s_Guild_has_way) := ⟨rfl, rfl, rfl, by decide +kernel, rfl, by decide +kernel, by decide +kernel⟩
theorem ok_Guild_has_way {P : Program} {w : World} {K : PySem.W.Frag} {mg : Str → Option Value} {base : Heap} {a : Ad} (T : Txt K mg a) : FnOk P w K mg base (L2.CX P w) 2 a.f_Guild_has_way a.d_Guild_has_way ["self", "a", "b"] (upSp K (sp_Guild_has_way a.c)) :=
  def_ok (t := t_Guild_has_way K a.c) T.d_Guild_has_way.F sc_Guild_has_way (len_Guild_has_way a.c) (fun cdv A outer s H E G0 W hr tk po =>
  (dss_cons (ds_expr (de_meth (ok_Guild_see_house T) (hr.mono (by decide)) T.cl_Guild T.d_Guild_see_house.m T.d_Guild_see_house.b tk (dv 0) (da_cons (dv 1) da_nil)))
  (dss_cons (ds_expr (de_meth (ok_Guild_see_house T) (hr.mono (by decide)) T.cl_Guild T.d_Guild_see_house.m T.d_Guild_see_house.b tk (dv 0) (da_cons (dv 2) da_nil)))
  (dss_one (ds_ret (de_in hr (dv 2) (de_at hr (de_fld T.cl_Guild T.na_Guild_ties (dv 0)) (dv 1))))))))
  (read_Guild_has_way K a.c)
theorem sc_Guild_lay_way : FnScope N_Guild_lay_way ["self", "a", "b"] (defScope s_Guild_lay_way) := ⟨rfl, rfl, rfl, by decide +kernel, rfl, by decide +kernel, by decide +kernel⟩
theorem ok_Guild_lay_way {P : Program} {w : World} {K : PySem.W.Frag} {mg : Str → Option Value} {base : Heap} {a : Ad} (T : Txt K mg a) : FnOk P w K mg base (L2.CX P w) 3 a.f_Guild_lay_way a.d_Guild_lay_way ["self", "a", "b"] (upSp K (sp_Guild_lay_way a.c)) :=
  def_ok (t := t_Guild_lay_way K a.c) T.d_Guild_lay_way.F sc_Guild_lay_way (len_Guild_lay_way a.c) (fun cdv A outer s H E G0 W hr tk po =>
  (dss_cons (ds_expr (de_meth (ok_Guild_see_two T) (hr.mono (by decide)) T.cl_Guild T.d_Guild_see_two.m T.d_Guild_see_two.b tk (dv 0) (da_cons (dv 1) (da_cons (dv 2) da_nil))))
  (dss_cons (ds_if (dt_in hr (dv 2) (de_at hr (de_fld T.cl_Guild T.na_Guild_ties (dv 0)) (dv 1)))
    (dss_one (ds_raise rfl tk (T.x_WayThere.mk' rfl)))
    dss_nil)
  (dss_cons (ds_setIx hr (de_fld T.cl_Guild T.na_Guild_ties (dv 0)) (dv 1) (de_sorted false T.n_sorted (da_cons (de_add false (de_at hr (de_fld T.cl_Guild T.na_Guild_ties (dv 0)) (dv 1)) (de_lst false (da_cons (dv 2) da_nil))) da_nil)))
  (dss_one (ds_setIx hr (de_fld T.cl_Guild T.na_Guild_ties (dv 0)) (dv 2) (de_sorted false T.n_sorted (da_cons (de_add false (de_at hr (de_fld T.cl_Guild T.na_Guild_ties (dv 0)) (dv 2)) (de_lst false (da_cons (dv 1) da_nil))) da_nil))))))))
  (read_Guild_lay_way K a.c)
theorem sc_Guild_wish : FnScope N_Guild_wish ["self", "road", "rank"] (defScope s_Guild_wish) := ⟨rfl, rfl, rfl, by decide +kernel, rfl, by decide +kernel, by decide +kernel⟩
theorem ok_Guild_wish {P : Program} {w : World} {K : PySem.W.Frag} {mg : Str → Option Value} {base : Heap} {a : Ad} (T : Txt K mg a) : FnOk P w K mg base (L2.CX P w) 3 a.f_Guild_wish a.d_Guild_wish ["self", "road", "rank"] (upSp K (sp_Guild_wish a.c)) :=
  def_ok (t := t_Guild_wish K a.c) T.d_Guild_wish.F sc_Guild_wish (len_Guild_wish a.c) (fun cdv A outer s H E G0 W hr tk po =>
  (dss_cons (ds_expr (de_meth (ok_Guild_see_road T) (hr.mono (by decide)) T.cl_Guild T.d_Guild_see_road.m T.d_Guild_see_road.b tk (dv 0) (da_cons (dv 1) da_nil)))
  (dss_one (ds_setIx hr (de_fld T.cl_Guild T.na_Guild_longings (dv 0)) (de_tuple T.n_tuple (da_cons (dv 1) da_nil)) (dv 2)))))
  (read_Guild_wish K a.c)
theorem sc_law_cell_at : FnScope N_law_cell_at ["script", "k"] (defScope s_law_cell_at) := ⟨rfl, rfl, rfl, by decide +kernel, rfl, by decide +kernel, by decide +kernel⟩
theorem ok_law_cell_at {P : Program} {w : World} {K : PySem.W.Frag} {mg : Str → Option Value} {base : Heap} {a : Ad} (T : Txt K mg a) : FnOk P w K mg base (L2.CX P w) 1 a.f_law_cell_at a.d_law_cell_at ["script", "k"] (upSp K (sp_law_cell_at a.c)) :=
  def_ok (t := t_law_cell_at K a.c) T.d_law_cell_at.F sc_law_cell_at (len_law_cell_at a.c) (fun cdv A outer s H E G0 W hr tk po =>
  (dss_cons (ds_if (dt_lt (dv 1) (de_len T.n_len (da_cons (dv 0) da_nil)))
    (dss_one (ds_ret (de_at hr (dv 0) (dv 1))))
    dss_nil)
  (dss_one (ds_ret de_int))))
  (read_law_cell_at K a.c)
theorem sc_law_whole : FnScope N_law_whole ["found"] (defScope s_law_whole) := ⟨rfl, rfl, rfl, by decide +kernel, rfl, by decide +kernel, by decide +kernel⟩
theorem ok_law_whole {P : Program} {w : World} {K : PySem.W.Frag} {mg : Str → Option Value} {base : Heap} {a : Ad} (T : Txt K mg a) : FnOk P w K mg base (L2.CX P w) 1 a.f_law_whole a.d_law_whole ["found"] (upSp K (sp_law_whole a.c)) :=
  def_ok (t := t_law_whole K a.c) T.d_law_whole.F sc_law_whole (len_law_whole a.c) (fun cdv A outer s H E G0 W hr tk po =>
  (dss_one (ds_ret (de_and (de_isi "int" (by decide) T.n_isinstance T.n_int (dv 0) (by decide +kernel)) (de_one (de_not (de_isi "bool" (by decide) T.n_isinstance T.n_bool (dv 0) (by decide +kernel))))))))
  (read_law_whole K a.c)
theorem sc_law_same_road : FnScope N_law_same_road ["found", "due"] (defScope s_law_same_road) := ⟨rfl, rfl, rfl, by decide +kernel, rfl, by decide +kernel, by decide +kernel⟩
theorem ok_law_same_road {P : Program} {w : World} {K : PySem.W.Frag} {mg : Str → Option Value} {base : Heap} {a : Ad} (T : Txt K mg a) : FnOk P w K mg base (L2.CX P w) 2 a.f_law_same_road a.d_law_same_road ["found", "due"] (upSp K (sp_law_same_road a.c)) :=
  def_ok (t := t_law_same_road K a.c) T.d_law_same_road.F sc_law_same_road (len_law_same_road a.c) (fun cdv A outer s H E G0 W hr tk po =>
  (dss_cons (ds_if (dt_isN (dv 1))
    (dss_one (ds_ret (de_isN (dv 0))))
    dss_nil)
  (dss_cons (ds_if (dt_w (dw_or (dt_not (dt_val (de_isi "list" (by decide) T.n_isinstance T.n_list (dv 0) (by decide +kernel)))) (dw_or1 (dt_ne hr (de_len T.n_len (da_cons (dv 0) da_nil)) (de_len T.n_len (da_cons (dv 1) da_nil))))))
    (dss_one (ds_ret de_bl))
    dss_nil)
  (dss_cons (ds_for po rfl tk (dv 0) (pg_name (i := 2) sc_law_same_road.nd rfl (by first | exact Or.inl rfl | exact Or.inr rfl)) lift_gN (fun _ tk =>
    (dss_one (ds_if (dt_not (dt_val (de_call (ok_law_whole T) (hr.mono (by decide)) T.d_law_whole.g T.d_law_whole.F.kp T.d_law_whole.b tk (da_cons (dv 2) da_nil))))
      (dss_one (ds_ret de_bl))
      dss_nil))))
  (dss_one (ds_ret (de_eq hr (dv 0) (dv 1))))))))
  (read_law_same_road K a.c)
theorem sc_law_same_table : FnScope N_law_same_table ["found", "due"] (defScope s_law_same_table) := ⟨rfl, rfl, rfl, by decide +kernel, rfl, by decide +kernel, by decide +kernel⟩
theorem ok_law_same_table {P : Program} {w : World} {K : PySem.W.Frag} {mg : Str → Option Value} {base : Heap} {a : Ad} (T : Txt K mg a) : FnOk P w K mg base (L2.CX P w) 3 a.f_law_same_table a.d_law_same_table ["found", "due"] (upSp K (sp_law_same_table a.c)) :=
  def_ok (t := t_law_same_table K a.c) T.d_law_same_table.F sc_law_same_table (len_law_same_table a.c) (fun cdv A outer s H E G0 W hr tk po =>
  (dss_cons (ds_if (dt_w (dw_or (dt_not (dt_val (de_isi "list" (by decide) T.n_isinstance T.n_list (dv 0) (by decide +kernel)))) (dw_or1 (dt_ne hr (de_len T.n_len (da_cons (dv 0) da_nil)) (de_len T.n_len (da_cons (dv 1) da_nil))))))
    (dss_one (ds_ret de_bl))
    dss_nil)
  (dss_cons (ds_for1 po rfl tk T.n_range (da_cons (de_len T.n_len (da_cons (dv 1) da_nil)) da_nil) (pg_name (i := 2) sc_law_same_table.nd rfl (by first | exact Or.inl rfl | exact Or.inr rfl)) lift_gN (fun _ tk =>
    (dss_one (ds_if (dt_not (dt_val (de_call (ok_law_same_road T) (hr.mono (by decide)) T.d_law_same_road.g T.d_law_same_road.F.kp T.d_law_same_road.b tk (da_cons (de_at hr (dv 0) (dv 2)) (da_cons (de_at hr (dv 1) (dv 2)) da_nil)))))
      (dss_one (ds_ret de_bl))
      dss_nil))))
  (dss_one (ds_ret de_bl)))))
  (read_law_same_table K a.c)
theorem sc_law_order : FnScope N_law_order ["cell", "many"] (defScope s_law_order) := ⟨rfl, rfl, rfl, by decide +kernel, rfl, by decide +kernel, by decide +kernel⟩
theorem ok_law_order {P : Program} {w : World} {K : PySem.W.Frag} {mg : Str → Option Value} {base : Heap} {a : Ad} (T : Txt K mg a) : FnOk P w K mg base (L2.CX P w) 1 a.f_law_order a.d_law_order ["cell", "many"] (upSp K (sp_law_order a.c)) :=
  def_ok (t := t_law_order K a.c) T.d_law_order.F sc_law_order (len_law_order a.c) (fun cdv A outer s H E G0 W hr tk po =>
  (dss_cons (ds_setLc (own := [("house", 3)]) 2 true rfl sc_law_order.nd rfl rfl (sw_true rfl rfl rfl (by decide +kernel)) (pi_range2 rfl T.n_range (da_cons de_int (da_cons (de_add false (dv 1) de_int) da_nil))) lift_iR2 lift_gN wipeG_name (blkOk_by (own := [("house", 3)]) (N := N_law_order) (sc := defScope s_law_order) (by decide +kernel)) (fun _ _ _ _ _ => pg_name (i := 3) sc_law_order.nd rfl (Or.inl rfl)) (fun _ _ _ _ _ _ _ => dts_nil) (fun _ _ _ _ _ _ tk => (dv 3)))
  (dss_cons (ds_set 4 sc_law_order.nd (de_lst true da_nil))
  (dss_cons (ds_while po (dt_gt (de_len T.n_len (da_cons (dv 2) da_nil)) de_int)
    (dss_cons (ds_set 0 sc_law_order.nd (de_mod (de_add false (de_mul (dv 0) de_int) de_int) de_int))
    (dss_one (ds_expr (de_lm PySem.F.slot_list_append PySem.F.type_list_append mt_append lift_append (dv 4) (da_cons (de_lm PySem.F.slot_list_pop PySem.F.type_list_pop mt_popAt lift_popAt (dv 2) (da_cons (de_mod (de_fdiv (dv 0) de_int) (de_len T.n_len (da_cons (dv 2) da_nil))) da_nil)) da_nil))))))
  (dss_one (ds_ret (de_frz (dv 4))))))))
  (read_law_order K a.c)
theorem sc_k21_law_guild_of : FnScope N_k21_law_guild_of ["ring", "cell"] (defScope s_k21_law_guild_of) := ⟨rfl, rfl, rfl, by decide +kernel, rfl, by decide +kernel, by decide +kernel⟩
theorem ok_k21_law_guild_of {P : Program} {w : World} {K : PySem.W.Frag} {mg : Str → Option Value} {base : Heap} {a : Ad} (T : Txt K mg a) : FnOk P w K mg base (L2.CX P w) 4 a.f_k21_law_guild_of a.d_k21_law_guild_of ["ring", "cell"] (upSp K (sp_k21_law_guild_of a.c)) :=
  def_ok (t := t_k21_law_guild_of K a.c) T.d_k21_law_guild_of.F sc_k21_law_guild_of (len_k21_law_guild_of a.c) (fun cdv A outer s H E G0 W hr tk po =>
  (dss_cons (ds_set 2 sc_k21_law_guild_of.nd (de_len T.n_len (da_cons (dv 0) da_nil)))
  (dss_cons (ds_set 3 sc_k21_law_guild_of.nd (de_make T.mk_Guild (ok_Guild_init T) (hr.mono (by decide)) T.g_Guild T.d_Guild_init.b tk (da_cons (de_add false de_int (dv 2)) da_nil)))
  (dss_cons (ds_for1 po rfl tk T.n_range (da_cons (dv 2) da_nil) (pg_name (i := 4) sc_k21_law_guild_of.nd rfl (by first | exact Or.inl rfl | exact Or.inr rfl)) lift_gN (fun _ tk =>
    (dss_cons (ds_set 5 sc_k21_law_guild_of.nd (de_at hr (dv 0) (de_mod (de_add false (dv 4) de_int) (dv 2))))
    (dss_cons (ds_expr (de_meth (ok_Guild_lay_way T) (hr.mono (by decide)) T.cl_Guild T.d_Guild_lay_way.m T.d_Guild_lay_way.b tk (dv 3) (da_cons (de_at hr (dv 0) (dv 4)) (da_cons de_int da_nil))))
    (dss_cons (ds_if (dt_not (dt_val (de_meth (ok_Guild_has_way T) (hr.mono (by decide)) T.cl_Guild T.d_Guild_has_way.m T.d_Guild_has_way.b tk (dv 3) (da_cons (de_at hr (dv 0) (dv 4)) (da_cons (dv 5) da_nil)))))
      (dss_one (ds_expr (de_meth (ok_Guild_lay_way T) (hr.mono (by decide)) T.cl_Guild T.d_Guild_lay_way.m T.d_Guild_lay_way.b tk (dv 3) (da_cons (de_at hr (dv 0) (dv 4)) (da_cons (dv 5) da_nil)))))
      dss_nil)
    (dss_one (ds_expr (de_meth (ok_Guild_wish T) (hr.mono (by decide)) T.cl_Guild T.d_Guild_wish.m T.d_Guild_wish.b tk (dv 3) (da_cons (de_lst false (da_cons (de_at hr (dv 0) (dv 4)) (da_cons (dv 5) (da_cons de_int da_nil)))) (da_cons (de_add false de_int (de_mod (de_add false (dv 1) (de_mul (dv 4) (dv 4))) (de_pow de_int de_int))) da_nil))))))))))
  (dss_one (ds_ret (dv 3)))))))
  (read_k21_law_guild_of K a.c)
theorem sc_law_table_of : FnScope N_law_table_of ["ring", "start"] (defScope s_law_table_of) := ⟨rfl, rfl, rfl, by decide +kernel, rfl, by decide +kernel, by decide +kernel⟩
theorem ok_law_table_of {P : Program} {w : World} {K : PySem.W.Frag} {mg : Str → Option Value} {base : Heap} {a : Ad} (T : Txt K mg a) : FnOk P w K mg base (L2.CX P w) 1 a.f_law_table_of a.d_law_table_of ["ring", "start"] (upSp K (sp_law_table_of a.c)) :=
  def_ok (t := t_law_table_of K a.c) T.d_law_table_of.F sc_law_table_of (len_law_table_of a.c) (fun cdv A outer s H E G0 W hr tk po =>
  (dss_cons (ds_set 2 sc_law_table_of.nd (de_add true (de_lst false (da_cons (de_lst false (da_cons de_int da_nil)) da_nil)) (de_lc (own := [("house", 3)]) false rfl sc_law_table_of.nd (pi_list (dv 0)) lift_iL lift_gN wipeG_name (blkOk_by (own := [("house", 3)]) (N := N_law_table_of) (sc := defScope s_law_table_of) (by decide +kernel)) (fun _ _ _ _ _ => pg_name (i := 3) sc_law_table_of.nd rfl (Or.inl rfl)) (fun _ _ _ _ _ _ _ => dts_nil) (fun _ _ _ _ _ _ tk => de_non))))
  (dss_cons (ds_for1 po rfl tk T.n_range (da_cons (de_len T.n_len (da_cons (dv 0) da_nil)) da_nil) (pg_name (i := 4) sc_law_table_of.nd rfl (by first | exact Or.inl rfl | exact Or.inr rfl)) lift_gN (fun _ tk =>
    (dss_cons (ds_setIx hr (dv 2) (de_at hr (dv 0) (dv 4)) (de_lst false (da_cons (de_at hr (dv 0) (dv 4)) (da_cons de_int da_nil))))
    (dss_one (ds_if (dt_ne hr (de_mod (dv 4) de_int) (dv 1))
      (dss_one (ds_setIx hr (dv 2) (de_at hr (dv 0) (dv 4)) (de_lst false (da_cons (de_at hr (dv 0) (dv 4)) (da_cons (de_at hr (dv 0) (de_mod (de_add false (dv 4) de_int) (de_len T.n_len (da_cons (dv 0) da_nil)))) (da_cons de_int da_nil))))))
      dss_nil)))))
  (dss_one (ds_ret (de_frz (dv 2)))))))
  (read_law_table_of K a.c)
theorem sc_k21_law : FnScope N_k21_law ["script"] (defScope s_k21_law) := ⟨rfl, rfl, rfl, by decide +kernel, rfl, by decide +kernel, by decide +kernel⟩
theorem ok_k21_law {P : Program} {w : World} {K : PySem.W.Frag} {mg : Str → Option Value} {base : Heap} {a : Ad} (T : Txt K mg a) : FnOk P w K mg base (L2.CX P w) 8 a.f_k21_law a.d_k21_law ["script"] (upSp K (sp_k21_law a.c)) :=
  def_ok (t := t_k21_law K a.c) T.d_k21_law.F sc_k21_law (len_k21_law a.c) (fun cdv A outer s H E G0 W hr tk po =>
  (dss_cons (ds_set 1 sc_k21_law.nd (de_add false de_int (de_mod (de_call (ok_law_cell_at T) (hr.mono (by decide)) T.d_law_cell_at.g T.d_law_cell_at.F.kp T.d_law_cell_at.b tk (da_cons (dv 0) (da_cons de_int da_nil))) de_int)))
  (dss_cons (ds_set 2 sc_k21_law.nd (de_call (ok_law_order T) (hr.mono (by decide)) T.d_law_order.g T.d_law_order.F.kp T.d_law_order.b tk (da_cons (de_call (ok_law_cell_at T) (hr.mono (by decide)) T.d_law_cell_at.g T.d_law_cell_at.F.kp T.d_law_cell_at.b tk (da_cons (dv 0) (da_cons de_int da_nil))) (da_cons (dv 1) da_nil))))
  (dss_cons (ds_set 3 sc_k21_law.nd (de_call (ok_settled_tables T) (hr.mono (by decide)) T.d_settled_tables.g T.d_settled_tables.F.kp T.d_settled_tables.b tk (da_cons (de_call (ok_k21_law_guild_of T) (hr.mono (by decide)) T.d_k21_law_guild_of.g T.d_k21_law_guild_of.F.kp T.d_k21_law_guild_of.b tk (da_cons (dv 2) (da_cons (de_call (ok_law_cell_at T) (hr.mono (by decide)) T.d_law_cell_at.g T.d_law_cell_at.F.kp T.d_law_cell_at.b tk (da_cons (dv 0) (da_cons de_int da_nil))) da_nil))) da_nil)))
  (dss_cons (ds_if (dt_not (dt_val (de_isi "list" (by decide) T.n_isinstance T.n_list (dv 3) (by decide +kernel))))
    (dss_one (ds_ret de_bl))
    dss_nil)
  (dss_cons (ds_if (dt_eq hr (dv 1) de_int)
    (dss_one (ds_ret (de_eq hr (de_len T.n_len (da_cons (dv 3) da_nil)) de_int)))
    dss_nil)
  (dss_cons (ds_set 4 sc_k21_law.nd (de_call (ok_law_table_of T) (hr.mono (by decide)) T.d_law_table_of.g T.d_law_table_of.F.kp T.d_law_table_of.b tk (da_cons (dv 2) (da_cons de_int da_nil))))
  (dss_cons (ds_set 5 sc_k21_law.nd (de_call (ok_law_table_of T) (hr.mono (by decide)) T.d_law_table_of.g T.d_law_table_of.F.kp T.d_law_table_of.b tk (da_cons (dv 2) (da_cons de_int da_nil))))
  (dss_cons (ds_if (dt_ltD hr (de_lc (own := [("road", 6)]) false rfl sc_k21_law.nd (pi_list (de_slL false (dv 5) (do_some de_int) do_none)) lift_iL lift_gN wipeG_name (blkOk_by (own := [("road", 6)]) (N := N_k21_law) (sc := defScope s_k21_law) (by decide +kernel)) (fun _ _ _ _ _ => pg_name (i := 6) sc_k21_law.nd rfl (Or.inl rfl)) (fun _ _ _ _ _ _ _ => dts_nil) (fun _ _ _ _ _ _ tk => (de_at hr (dv 6) de_int))) (de_lc (own := [("road", 6)]) false rfl sc_k21_law.nd (pi_list (de_slL false (dv 4) (do_some de_int) do_none)) lift_iL lift_gN wipeG_name (blkOk_by (own := [("road", 6)]) (N := N_k21_law) (sc := defScope s_k21_law) (by decide +kernel)) (fun _ _ _ _ _ => pg_name (i := 6) sc_k21_law.nd rfl (Or.inl rfl)) (fun _ _ _ _ _ _ _ => dts_nil) (fun _ _ _ _ _ _ tk => (de_at hr (dv 6) de_int))))
    (dss_cons (ds_set 4 sc_k21_law.nd (de_call (ok_law_table_of T) (hr.mono (by decide)) T.d_law_table_of.g T.d_law_table_of.F.kp T.d_law_table_of.b tk (da_cons (dv 2) (da_cons de_int da_nil))))
    (dss_one (ds_set 5 sc_k21_law.nd (de_call (ok_law_table_of T) (hr.mono (by decide)) T.d_law_table_of.g T.d_law_table_of.F.kp T.d_law_table_of.b tk (da_cons (dv 2) (da_cons de_int da_nil))))))
    dss_nil)
  (dss_one (ds_ret (de_and (de_eq hr (de_len T.n_len (da_cons (dv 3) da_nil)) de_int) (de_and (de_call (ok_law_same_table T) (hr.mono (by decide)) T.d_law_same_table.g T.d_law_same_table.F.kp T.d_law_same_table.b tk (da_cons (de_at hr (dv 3) de_int) (da_cons (dv 4) da_nil))) (de_one (de_call (ok_law_same_table T) (hr.mono (by decide)) T.d_law_same_table.g T.d_law_same_table.F.kp T.d_law_same_table.b tk (da_cons (de_at hr (dv 3) de_int) (da_cons (dv 5) da_nil)))))))))))))))))
  (read_k21_law K a.c)
set_option maxHeartbeats 8000000 in
theorem all_mk {l : PySem.W.OpenLaw} {w : World} {K : PySem.W.Frag} {h : Heap} {mg : Str → Option Value} {fa : Addr} (X : K.In h) (G : h.Ns mainGlobals mg) (hfa : mg "law" = some (.ref fa))
    {C_Guild C_GuildError C_NoHouse C_WayThere C_NoRoad C_TooMany f_Guild_see_house f_Guild_liking f_Guild_see_road f_Guild_rank_of f_better f_takes f_Guild_shunned f_chosen f_Guild_neighbours f_Guild_size f_first_unsettled f_rows_of_nexts f_followed f_settled_tables f_Guild_init f_Guild_see_two f_Guild_has_way f_Guild_lay_way f_Guild_wish f_law_cell_at f_law_whole f_law_same_road f_law_same_table f_law_order f_k21_law_guild_of f_law_table_of f_k21_law : Addr}
    {od_Guild_see_house an_Guild_see_house od_Guild_liking an_Guild_liking od_Guild_see_road an_Guild_see_road od_Guild_rank_of an_Guild_rank_of od_better an_better od_takes an_takes od_Guild_shunned an_Guild_shunned od_chosen an_chosen od_Guild_neighbours an_Guild_neighbours od_Guild_size an_Guild_size od_first_unsettled an_first_unsettled od_rows_of_nexts an_rows_of_nexts od_followed an_followed od_settled_tables an_settled_tables od_Guild_init an_Guild_init od_Guild_see_two an_Guild_see_two od_Guild_has_way an_Guild_has_way od_Guild_lay_way an_Guild_lay_way od_Guild_wish an_Guild_wish od_law_cell_at an_law_cell_at od_law_whole an_law_whole od_law_same_road an_law_same_road od_law_same_table an_law_same_table od_law_order an_law_order od_k21_law_guild_of an_k21_law_guild_of od_law_table_of an_law_table_of od_k21_law an_k21_law : Option Addr}
    {sl_Guild_see_house sl_Guild_liking sl_Guild_see_road sl_Guild_rank_of sl_better sl_takes sl_Guild_shunned sl_chosen sl_Guild_neighbours sl_Guild_size sl_first_unsettled sl_rows_of_nexts sl_followed sl_settled_tables sl_Guild_init sl_Guild_see_two sl_Guild_has_way sl_Guild_lay_way sl_Guild_wish sl_law_cell_at sl_law_whole sl_law_same_road sl_law_same_table sl_law_order sl_k21_law_guild_of sl_law_table_of sl_k21_law : Array (Option Value)}
    {oc_Guild_see_house kV_Guild_see_house dc_Guild_see_house pm_Guild_see_house cd_Guild_see_house ct_Guild_see_house oc_Guild_liking kV_Guild_liking dc_Guild_liking pm_Guild_liking cd_Guild_liking ct_Guild_liking oc_Guild_see_road kV_Guild_see_road dc_Guild_see_road pm_Guild_see_road cd_Guild_see_road ct_Guild_see_road oc_Guild_rank_of kV_Guild_rank_of dc_Guild_rank_of pm_Guild_rank_of cd_Guild_rank_of ct_Guild_rank_of oc_better kV_better dc_better pm_better cd_better ct_better oc_takes kV_takes dc_takes pm_takes cd_takes ct_takes oc_Guild_shunned kV_Guild_shunned dc_Guild_shunned pm_Guild_shunned cd_Guild_shunned ct_Guild_shunned oc_chosen kV_chosen dc_chosen pm_chosen cd_chosen ct_chosen oc_Guild_neighbours kV_Guild_neighbours dc_Guild_neighbours pm_Guild_neighbours cd_Guild_neighbours ct_Guild_neighbours oc_Guild_size kV_Guild_size dc_Guild_size pm_Guild_size cd_Guild_size ct_Guild_size oc_first_unsettled kV_first_unsettled dc_first_unsettled pm_first_unsettled cd_first_unsettled ct_first_unsettled oc_rows_of_nexts kV_rows_of_nexts dc_rows_of_nexts pm_rows_of_nexts cd_rows_of_nexts ct_rows_of_nexts oc_followed kV_followed dc_followed pm_followed cd_followed ct_followed oc_settled_tables kV_settled_tables dc_settled_tables pm_settled_tables cd_settled_tables ct_settled_tables oc_Guild_init kV_Guild_init dc_Guild_init pm_Guild_init cd_Guild_init ct_Guild_init oc_Guild_see_two kV_Guild_see_two dc_Guild_see_two pm_Guild_see_two cd_Guild_see_two ct_Guild_see_two oc_Guild_has_way kV_Guild_has_way dc_Guild_has_way pm_Guild_has_way cd_Guild_has_way ct_Guild_has_way oc_Guild_lay_way kV_Guild_lay_way dc_Guild_lay_way pm_Guild_lay_way cd_Guild_lay_way ct_Guild_lay_way oc_Guild_wish kV_Guild_wish dc_Guild_wish pm_Guild_wish cd_Guild_wish ct_Guild_wish oc_law_cell_at kV_law_cell_at dc_law_cell_at pm_law_cell_at cd_law_cell_at ct_law_cell_at oc_law_whole kV_law_whole dc_law_whole pm_law_whole cd_law_whole ct_law_whole oc_law_same_road kV_law_same_road dc_law_same_road pm_law_same_road cd_law_same_road ct_law_same_road oc_law_same_table kV_law_same_table dc_law_same_table pm_law_same_table cd_law_same_table ct_law_same_table oc_law_order kV_law_order dc_law_order pm_law_order cd_law_order ct_law_order oc_k21_law_guild_of kV_k21_law_guild_of dc_k21_law_guild_of pm_k21_law_guild_of cd_k21_law_guild_of ct_k21_law_guild_of oc_law_table_of kV_law_table_of dc_law_table_of pm_law_table_of cd_law_table_of ct_law_table_of oc_k21_law kV_k21_law dc_k21_law pm_k21_law cd_k21_law ct_k21_law : Value}
    (g_Guild : PySem.W.nsIn K mainGlobals "Guild" = some (some (.ref C_Guild)))
    (g_GuildError : PySem.W.nsIn K mainGlobals "GuildError" = some (some (.ref C_GuildError)))
    (g_NoHouse : PySem.W.nsIn K mainGlobals "NoHouse" = some (some (.ref C_NoHouse)))
    (g_WayThere : PySem.W.nsIn K mainGlobals "WayThere" = some (some (.ref C_WayThere)))
    (g_NoRoad : PySem.W.nsIn K mainGlobals "NoRoad" = some (some (.ref C_NoRoad)))
    (g_TooMany : PySem.W.nsIn K mainGlobals "TooMany" = some (some (.ref C_TooMany)))
    (a_Guild_see_house : PySem.W.findIn K (.ref C_Guild) "see_house" = some (some (.ref f_Guild_see_house)))
    (i_Guild_see_house : PySem.W.isFn K (.ref f_Guild_see_house) = true)
    (l_Guild_see_house : K.lookup f_Guild_see_house = some ⟨oc_Guild_see_house, od_Guild_see_house, .func (PySem.W.fnOf "see_house" "Guild.see_house" (defArgs s_Guild_see_house) (defBody s_Guild_see_house) (defScope s_Guild_see_house) .none kV_Guild_see_house dc_Guild_see_house pm_Guild_see_house an_Guild_see_house cd_Guild_see_house ct_Guild_see_house), sl_Guild_see_house⟩)
    (c_Guild_see_house : PySem.W.codeIn K cd_Guild_see_house "Guild.see_house" = true)
    (k_Guild_see_house : PySem.W.keepIn K (.ref f_Guild_see_house) = true)
    (a_Guild_liking : PySem.W.findIn K (.ref C_Guild) "liking" = some (some (.ref f_Guild_liking)))
    (i_Guild_liking : PySem.W.isFn K (.ref f_Guild_liking) = true)
    (l_Guild_liking : K.lookup f_Guild_liking = some ⟨oc_Guild_liking, od_Guild_liking, .func (PySem.W.fnOf "liking" "Guild.liking" (defArgs s_Guild_liking) (defBody s_Guild_liking) (defScope s_Guild_liking) .none kV_Guild_liking dc_Guild_liking pm_Guild_liking an_Guild_liking cd_Guild_liking ct_Guild_liking), sl_Guild_liking⟩)
    (c_Guild_liking : PySem.W.codeIn K cd_Guild_liking "Guild.liking" = true)
    (k_Guild_liking : PySem.W.keepIn K (.ref f_Guild_liking) = true)
    (a_Guild_see_road : PySem.W.findIn K (.ref C_Guild) "see_road" = some (some (.ref f_Guild_see_road)))
    (i_Guild_see_road : PySem.W.isFn K (.ref f_Guild_see_road) = true)
    (l_Guild_see_road : K.lookup f_Guild_see_road = some ⟨oc_Guild_see_road, od_Guild_see_road, .func (PySem.W.fnOf "see_road" "Guild.see_road" (defArgs s_Guild_see_road) (defBody s_Guild_see_road) (defScope s_Guild_see_road) .none kV_Guild_see_road dc_Guild_see_road pm_Guild_see_road an_Guild_see_road cd_Guild_see_road ct_Guild_see_road), sl_Guild_see_road⟩)
    (c_Guild_see_road : PySem.W.codeIn K cd_Guild_see_road "Guild.see_road" = true)
    (k_Guild_see_road : PySem.W.keepIn K (.ref f_Guild_see_road) = true)
    (a_Guild_rank_of : PySem.W.findIn K (.ref C_Guild) "rank_of" = some (some (.ref f_Guild_rank_of)))
    (i_Guild_rank_of : PySem.W.isFn K (.ref f_Guild_rank_of) = true)
    (l_Guild_rank_of : K.lookup f_Guild_rank_of = some ⟨oc_Guild_rank_of, od_Guild_rank_of, .func (PySem.W.fnOf "rank_of" "Guild.rank_of" (defArgs s_Guild_rank_of) (defBody s_Guild_rank_of) (defScope s_Guild_rank_of) .none kV_Guild_rank_of dc_Guild_rank_of pm_Guild_rank_of an_Guild_rank_of cd_Guild_rank_of ct_Guild_rank_of), sl_Guild_rank_of⟩)
    (c_Guild_rank_of : PySem.W.codeIn K cd_Guild_rank_of "Guild.rank_of" = true)
    (k_Guild_rank_of : PySem.W.keepIn K (.ref f_Guild_rank_of) = true)
    (a_better : PySem.W.nsIn K mainGlobals "better" = some (some (.ref f_better)))
    (l_better : K.lookup f_better = some ⟨oc_better, od_better, .func (PySem.W.fnOf "better" "better" (defArgs s_better) (defBody s_better) (defScope s_better) .none kV_better dc_better pm_better an_better cd_better ct_better), sl_better⟩)
    (c_better : PySem.W.codeIn K cd_better "better" = true)
    (k_better : PySem.W.keepIn K (.ref f_better) = true)
    (a_takes : PySem.W.nsIn K mainGlobals "takes" = some (some (.ref f_takes)))
    (l_takes : K.lookup f_takes = some ⟨oc_takes, od_takes, .func (PySem.W.fnOf "takes" "takes" (defArgs s_takes) (defBody s_takes) (defScope s_takes) .none kV_takes dc_takes pm_takes an_takes cd_takes ct_takes), sl_takes⟩)
    (c_takes : PySem.W.codeIn K cd_takes "takes" = true)
    (k_takes : PySem.W.keepIn K (.ref f_takes) = true)
    (a_Guild_shunned : PySem.W.findIn K (.ref C_Guild) "shunned" = some (some (.ref f_Guild_shunned)))
    (i_Guild_shunned : PySem.W.isFn K (.ref f_Guild_shunned) = true)
    (l_Guild_shunned : K.lookup f_Guild_shunned = some ⟨oc_Guild_shunned, od_Guild_shunned, .func (PySem.W.fnOf "shunned" "Guild.shunned" (defArgs s_Guild_shunned) (defBody s_Guild_shunned) (defScope s_Guild_shunned) .none kV_Guild_shunned dc_Guild_shunned pm_Guild_shunned an_Guild_shunned cd_Guild_shunned ct_Guild_shunned), sl_Guild_shunned⟩)
    (c_Guild_shunned : PySem.W.codeIn K cd_Guild_shunned "Guild.shunned" = true)
    (k_Guild_shunned : PySem.W.keepIn K (.ref f_Guild_shunned) = true)
    (a_chosen : PySem.W.nsIn K mainGlobals "chosen" = some (some (.ref f_chosen)))
    (l_chosen : K.lookup f_chosen = some ⟨oc_chosen, od_chosen, .func (PySem.W.fnOf "chosen" "chosen" (defArgs s_chosen) (defBody s_chosen) (defScope s_chosen) .none kV_chosen dc_chosen pm_chosen an_chosen cd_chosen ct_chosen), sl_chosen⟩)
    (c_chosen : PySem.W.codeIn K cd_chosen "chosen" = true)
    (k_chosen : PySem.W.keepIn K (.ref f_chosen) = true)
    (a_Guild_neighbours : PySem.W.findIn K (.ref C_Guild) "neighbours" = some (some (.ref f_Guild_neighbours)))
    (i_Guild_neighbours : PySem.W.isFn K (.ref f_Guild_neighbours) = true)
    (l_Guild_neighbours : K.lookup f_Guild_neighbours = some ⟨oc_Guild_neighbours, od_Guild_neighbours, .func (PySem.W.fnOf "neighbours" "Guild.neighbours" (defArgs s_Guild_neighbours) (defBody s_Guild_neighbours) (defScope s_Guild_neighbours) .none kV_Guild_neighbours dc_Guild_neighbours pm_Guild_neighbours an_Guild_neighbours cd_Guild_neighbours ct_Guild_neighbours), sl_Guild_neighbours⟩)
    (c_Guild_neighbours : PySem.W.codeIn K cd_Guild_neighbours "Guild.neighbours" = true)
    (k_Guild_neighbours : PySem.W.keepIn K (.ref f_Guild_neighbours) = true)
    (a_Guild_size : PySem.W.findIn K (.ref C_Guild) "size" = some (some (.ref f_Guild_size)))
    (i_Guild_size : PySem.W.isFn K (.ref f_Guild_size) = true)
    (l_Guild_size : K.lookup f_Guild_size = some ⟨oc_Guild_size, od_Guild_size, .func (PySem.W.fnOf "size" "Guild.size" (defArgs s_Guild_size) (defBody s_Guild_size) (defScope s_Guild_size) .none kV_Guild_size dc_Guild_size pm_Guild_size an_Guild_size cd_Guild_size ct_Guild_size), sl_Guild_size⟩)
    (c_Guild_size : PySem.W.codeIn K cd_Guild_size "Guild.size" = true)
    (k_Guild_size : PySem.W.keepIn K (.ref f_Guild_size) = true)
    (a_first_unsettled : PySem.W.nsIn K mainGlobals "first_unsettled" = some (some (.ref f_first_unsettled)))
    (l_first_unsettled : K.lookup f_first_unsettled = some ⟨oc_first_unsettled, od_first_unsettled, .func (PySem.W.fnOf "first_unsettled" "first_unsettled" (defArgs s_first_unsettled) (defBody s_first_unsettled) (defScope s_first_unsettled) .none kV_first_unsettled dc_first_unsettled pm_first_unsettled an_first_unsettled cd_first_unsettled ct_first_unsettled), sl_first_unsettled⟩)
    (c_first_unsettled : PySem.W.codeIn K cd_first_unsettled "first_unsettled" = true)
    (k_first_unsettled : PySem.W.keepIn K (.ref f_first_unsettled) = true)
    (a_rows_of_nexts : PySem.W.nsIn K mainGlobals "rows_of_nexts" = some (some (.ref f_rows_of_nexts)))
    (l_rows_of_nexts : K.lookup f_rows_of_nexts = some ⟨oc_rows_of_nexts, od_rows_of_nexts, .func (PySem.W.fnOf "rows_of_nexts" "rows_of_nexts" (defArgs s_rows_of_nexts) (defBody s_rows_of_nexts) (defScope s_rows_of_nexts) .none kV_rows_of_nexts dc_rows_of_nexts pm_rows_of_nexts an_rows_of_nexts cd_rows_of_nexts ct_rows_of_nexts), sl_rows_of_nexts⟩)
    (c_rows_of_nexts : PySem.W.codeIn K cd_rows_of_nexts "rows_of_nexts" = true)
    (k_rows_of_nexts : PySem.W.keepIn K (.ref f_rows_of_nexts) = true)
    (a_followed : PySem.W.nsIn K mainGlobals "followed" = some (some (.ref f_followed)))
    (l_followed : K.lookup f_followed = some ⟨oc_followed, od_followed, .func (PySem.W.fnOf "followed" "followed" (defArgs s_followed) (defBody s_followed) (defScope s_followed) .none kV_followed dc_followed pm_followed an_followed cd_followed ct_followed), sl_followed⟩)
    (c_followed : PySem.W.codeIn K cd_followed "followed" = true)
    (k_followed : PySem.W.keepIn K (.ref f_followed) = true)
    (a_settled_tables : PySem.W.nsIn K mainGlobals "settled_tables" = some (some (.ref f_settled_tables)))
    (l_settled_tables : K.lookup f_settled_tables = some ⟨oc_settled_tables, od_settled_tables, .func (PySem.W.fnOf "settled_tables" "settled_tables" (defArgs s_settled_tables) (defBody s_settled_tables) (defScope s_settled_tables) .none kV_settled_tables dc_settled_tables pm_settled_tables an_settled_tables cd_settled_tables ct_settled_tables), sl_settled_tables⟩)
    (c_settled_tables : PySem.W.codeIn K cd_settled_tables "settled_tables" = true)
    (k_settled_tables : PySem.W.keepIn K (.ref f_settled_tables) = true)
    (a_Guild_init : PySem.W.findIn K (.ref C_Guild) "__init__" = some (some (.ref f_Guild_init)))
    (i_Guild_init : PySem.W.isFn K (.ref f_Guild_init) = true)
    (l_Guild_init : K.lookup f_Guild_init = some ⟨oc_Guild_init, od_Guild_init, .func (PySem.W.fnOf "__init__" "Guild.__init__" (defArgs s_Guild_init) (defBody s_Guild_init) (defScope s_Guild_init) .none kV_Guild_init dc_Guild_init pm_Guild_init an_Guild_init cd_Guild_init ct_Guild_init), sl_Guild_init⟩)
    (c_Guild_init : PySem.W.codeIn K cd_Guild_init "Guild.__init__" = true)
    (k_Guild_init : PySem.W.keepIn K (.ref f_Guild_init) = true)
    (a_Guild_see_two : PySem.W.findIn K (.ref C_Guild) "see_two" = some (some (.ref f_Guild_see_two)))
    (i_Guild_see_two : PySem.W.isFn K (.ref f_Guild_see_two) = true)
    (l_Guild_see_two : K.lookup f_Guild_see_two = some ⟨oc_Guild_see_two, od_Guild_see_two, .func (PySem.W.fnOf "see_two" "Guild.see_two" (defArgs s_Guild_see_two) (defBody s_Guild_see_two) (defScope s_Guild_see_two) .none kV_Guild_see_two dc_Guild_see_two pm_Guild_see_two an_Guild_see_two cd_Guild_see_two ct_Guild_see_two), sl_Guild_see_two⟩)
    (c_Guild_see_two : PySem.W.codeIn K cd_Guild_see_two "Guild.see_two" = true)
    (k_Guild_see_two : PySem.W.keepIn K (.ref f_Guild_see_two) = true)
    (a_Guild_has_way : PySem.W.findIn K (.ref C_Guild) "has_way" = some (some (.ref f_Guild_has_way)))
    (i_Guild_has_way : PySem.W.isFn K (.ref f_Guild_has_way) = true)
    (l_Guild_has_way : K.lookup f_Guild_has_way = some ⟨oc_Guild_has_way, od_Guild_has_way, .func (PySem.W.fnOf "has_way" "Guild.has_way" (defArgs s_Guild_has_way) (defBody s_Guild_has_way) (defScope s_Guild_has_way) .none kV_Guild_has_way dc_Guild_has_way pm_Guild_has_way an_Guild_has_way cd_Guild_has_way ct_Guild_has_way), sl_Guild_has_way⟩)
    (c_Guild_has_way : PySem.W.codeIn K cd_Guild_has_way "Guild.has_way" = true)
    (k_Guild_has_way : PySem.W.keepIn K (.ref f_Guild_has_way) = true)
    (a_Guild_lay_way : PySem.W.findIn K (.ref C_Guild) "lay_way" = some (some (.ref f_Guild_lay_way)))
    (i_Guild_lay_way : PySem.W.isFn K (.ref f_Guild_lay_way) = true)
    (l_Guild_lay_way : K.lookup f_Guild_lay_way = some ⟨oc_Guild_lay_way, od_Guild_lay_way, .func (PySem.W.fnOf "lay_way" "Guild.lay_way" (defArgs s_Guild_lay_way) (defBody s_Guild_lay_way) (defScope s_Guild_lay_way) .none kV_Guild_lay_way dc_Guild_lay_way pm_Guild_lay_way an_Guild_lay_way cd_Guild_lay_way ct_Guild_lay_way), sl_Guild_lay_way⟩)
    (c_Guild_lay_way : PySem.W.codeIn K cd_Guild_lay_way "Guild.lay_way" = true)
    (k_Guild_lay_way : PySem.W.keepIn K (.ref f_Guild_lay_way) = true)
    (a_Guild_wish : PySem.W.findIn K (.ref C_Guild) "wish" = some (some (.ref f_Guild_wish)))
    (i_Guild_wish : PySem.W.isFn K (.ref f_Guild_wish) = true)
    (l_Guild_wish : K.lookup f_Guild_wish = some ⟨oc_Guild_wish, od_Guild_wish, .func (PySem.W.fnOf "wish" "Guild.wish" (defArgs s_Guild_wish) (defBody s_Guild_wish) (defScope s_Guild_wish) .none kV_Guild_wish dc_Guild_wish pm_Guild_wish an_Guild_wish cd_Guild_wish ct_Guild_wish), sl_Guild_wish⟩)
    (c_Guild_wish : PySem.W.codeIn K cd_Guild_wish "Guild.wish" = true)
    (k_Guild_wish : PySem.W.keepIn K (.ref f_Guild_wish) = true)
    (a_law_cell_at : PySem.W.nsIn K mainGlobals "_law_cell_at" = some (some (.ref f_law_cell_at)))
    (l_law_cell_at : K.lookup f_law_cell_at = some ⟨oc_law_cell_at, od_law_cell_at, .func (PySem.W.fnOf "_law_cell_at" "_law_cell_at" (defArgs s_law_cell_at) (defBody s_law_cell_at) (defScope s_law_cell_at) .none kV_law_cell_at dc_law_cell_at pm_law_cell_at an_law_cell_at cd_law_cell_at ct_law_cell_at), sl_law_cell_at⟩)
    (c_law_cell_at : PySem.W.codeIn K cd_law_cell_at "_law_cell_at" = true)
    (k_law_cell_at : PySem.W.keepIn K (.ref f_law_cell_at) = true)
    (a_law_whole : PySem.W.nsIn K mainGlobals "_law_whole" = some (some (.ref f_law_whole)))
    (l_law_whole : K.lookup f_law_whole = some ⟨oc_law_whole, od_law_whole, .func (PySem.W.fnOf "_law_whole" "_law_whole" (defArgs s_law_whole) (defBody s_law_whole) (defScope s_law_whole) .none kV_law_whole dc_law_whole pm_law_whole an_law_whole cd_law_whole ct_law_whole), sl_law_whole⟩)
    (c_law_whole : PySem.W.codeIn K cd_law_whole "_law_whole" = true)
    (k_law_whole : PySem.W.keepIn K (.ref f_law_whole) = true)
    (a_law_same_road : PySem.W.nsIn K mainGlobals "_law_same_road" = some (some (.ref f_law_same_road)))
    (l_law_same_road : K.lookup f_law_same_road = some ⟨oc_law_same_road, od_law_same_road, .func (PySem.W.fnOf "_law_same_road" "_law_same_road" (defArgs s_law_same_road) (defBody s_law_same_road) (defScope s_law_same_road) .none kV_law_same_road dc_law_same_road pm_law_same_road an_law_same_road cd_law_same_road ct_law_same_road), sl_law_same_road⟩)
    (c_law_same_road : PySem.W.codeIn K cd_law_same_road "_law_same_road" = true)
    (k_law_same_road : PySem.W.keepIn K (.ref f_law_same_road) = true)
    (a_law_same_table : PySem.W.nsIn K mainGlobals "_law_same_table" = some (some (.ref f_law_same_table)))
    (l_law_same_table : K.lookup f_law_same_table = some ⟨oc_law_same_table, od_law_same_table, .func (PySem.W.fnOf "_law_same_table" "_law_same_table" (defArgs s_law_same_table) (defBody s_law_same_table) (defScope s_law_same_table) .none kV_law_same_table dc_law_same_table pm_law_same_table an_law_same_table cd_law_same_table ct_law_same_table), sl_law_same_table⟩)
    (c_law_same_table : PySem.W.codeIn K cd_law_same_table "_law_same_table" = true)
    (k_law_same_table : PySem.W.keepIn K (.ref f_law_same_table) = true)
    (a_law_order : PySem.W.nsIn K mainGlobals "_law_order" = some (some (.ref f_law_order)))
    (l_law_order : K.lookup f_law_order = some ⟨oc_law_order, od_law_order, .func (PySem.W.fnOf "_law_order" "_law_order" (defArgs s_law_order) (defBody s_law_order) (defScope s_law_order) .none kV_law_order dc_law_order pm_law_order an_law_order cd_law_order ct_law_order), sl_law_order⟩)
    (c_law_order : PySem.W.codeIn K cd_law_order "_law_order" = true)
    (k_law_order : PySem.W.keepIn K (.ref f_law_order) = true)
    (a_k21_law_guild_of : PySem.W.nsIn K mainGlobals "_law_guild_of" = some (some (.ref f_k21_law_guild_of)))
    (l_k21_law_guild_of : K.lookup f_k21_law_guild_of = some ⟨oc_k21_law_guild_of, od_k21_law_guild_of, .func (PySem.W.fnOf "_law_guild_of" "_law_guild_of" (defArgs s_k21_law_guild_of) (defBody s_k21_law_guild_of) (defScope s_k21_law_guild_of) .none kV_k21_law_guild_of dc_k21_law_guild_of pm_k21_law_guild_of an_k21_law_guild_of cd_k21_law_guild_of ct_k21_law_guild_of), sl_k21_law_guild_of⟩)
    (c_k21_law_guild_of : PySem.W.codeIn K cd_k21_law_guild_of "_law_guild_of" = true)
    (k_k21_law_guild_of : PySem.W.keepIn K (.ref f_k21_law_guild_of) = true)
    (a_law_table_of : PySem.W.nsIn K mainGlobals "_law_table_of" = some (some (.ref f_law_table_of)))
    (l_law_table_of : K.lookup f_law_table_of = some ⟨oc_law_table_of, od_law_table_of, .func (PySem.W.fnOf "_law_table_of" "_law_table_of" (defArgs s_law_table_of) (defBody s_law_table_of) (defScope s_law_table_of) .none kV_law_table_of dc_law_table_of pm_law_table_of an_law_table_of cd_law_table_of ct_law_table_of), sl_law_table_of⟩)
    (c_law_table_of : PySem.W.codeIn K cd_law_table_of "_law_table_of" = true)
    (k_law_table_of : PySem.W.keepIn K (.ref f_law_table_of) = true)
    (a_k21_law : PySem.W.nsIn K mainGlobals "law" = some (some (.ref f_k21_law)))
    (l_k21_law : K.lookup f_k21_law = some ⟨oc_k21_law, od_k21_law, .func (PySem.W.fnOf "law" "law" (defArgs s_k21_law) (defBody s_k21_law) (defScope s_k21_law) .none kV_k21_law dc_k21_law pm_k21_law an_k21_law cd_k21_law ct_k21_law), sl_k21_law⟩)
    (c_k21_law : PySem.W.codeIn K cd_k21_law "law" = true)
    (k_k21_law : PySem.W.keepIn K (.ref f_k21_law) = true)
    (pg_Guild : PySem.W.plainGet K C_Guild Str.empty = true)
    (hd_Guild : PySem.W.hasDictIn K C_Guild = true)
    (po_Guild : PySem.W.plainOver K C_Guild = true)
    (sa_Guild : PySem.W.findIn K (.ref C_Guild) "__setattr__" = some (some (.builtin "object.__setattr__")))
    (mk_Guild : PySem.W.makesIn K C_Guild = true)
    (kc_Guild : PySem.W.keepIn K (.ref C_Guild) = true)
    (na_Guild_fond : PySem.W.findIn K (.ref C_Guild) "fond" = some none)
    (na_Guild_houses : PySem.W.findIn K (.ref C_Guild) "houses" = some none)
    (na_Guild_longings : PySem.W.findIn K (.ref C_Guild) "longings" = some none)
    (na_Guild_shy : PySem.W.findIn K (.ref C_Guild) "shy" = some none)
    (na_Guild_ties : PySem.W.findIn K (.ref C_Guild) "ties" = some none)
    (z_bool : PySem.W.nsIn K mainGlobals "bool" = some none)
    (z_int : PySem.W.nsIn K mainGlobals "int" = some none)
    (z_isinstance : PySem.W.nsIn K mainGlobals "isinstance" = some none)
    (z_len : PySem.W.nsIn K mainGlobals "len" = some none)
    (z_list : PySem.W.nsIn K mainGlobals "list" = some none)
    (z_range : PySem.W.nsIn K mainGlobals "range" = some none)
    (z_set : PySem.W.nsIn K mainGlobals "set" = some none)
    (z_sorted : PySem.W.nsIn K mainGlobals "sorted" = some none)
    (z_tuple : PySem.W.nsIn K mainGlobals "tuple" = some none)
    (xi_GuildError : PySem.W.excIn K C_GuildError [.type "ValueError", .type "Exception", .type "BaseException", .type "object"] "ValueError.__new__" = true)
    (kx_GuildError : PySem.W.keepIn K (.ref C_GuildError) = true)
    (bx_GuildError : PySem.W.subIn K (.ref C_GuildError) (.type "BaseException") = some true)
    (tx_GuildError : PySem.W.typeIn K (.ref C_GuildError) = some (.type "type"))
    (xi_NoHouse : PySem.W.excIn K C_NoHouse [.type "ValueError", .type "Exception", .type "BaseException", .type "object"] "ValueError.__new__" = true)
    (kx_NoHouse : PySem.W.keepIn K (.ref C_NoHouse) = true)
    (bx_NoHouse : PySem.W.subIn K (.ref C_NoHouse) (.type "BaseException") = some true)
    (tx_NoHouse : PySem.W.typeIn K (.ref C_NoHouse) = some (.type "type"))
    (xi_WayThere : PySem.W.excIn K C_WayThere [.type "ValueError", .type "Exception", .type "BaseException", .type "object"] "ValueError.__new__" = true)
    (kx_WayThere : PySem.W.keepIn K (.ref C_WayThere) = true)
    (bx_WayThere : PySem.W.subIn K (.ref C_WayThere) (.type "BaseException") = some true)
    (tx_WayThere : PySem.W.typeIn K (.ref C_WayThere) = some (.type "type"))
    (xi_NoRoad : PySem.W.excIn K C_NoRoad [.type "ValueError", .type "Exception", .type "BaseException", .type "object"] "ValueError.__new__" = true)
    (kx_NoRoad : PySem.W.keepIn K (.ref C_NoRoad) = true)
    (bx_NoRoad : PySem.W.subIn K (.ref C_NoRoad) (.type "BaseException") = some true)
    (tx_NoRoad : PySem.W.typeIn K (.ref C_NoRoad) = some (.type "type"))
    (xi_TooMany : PySem.W.excIn K C_TooMany [.type "ValueError", .type "Exception", .type "BaseException", .type "object"] "ValueError.__new__" = true)
    (kx_TooMany : PySem.W.keepIn K (.ref C_TooMany) = true)
    (bx_TooMany : PySem.W.subIn K (.ref C_TooMany) (.type "BaseException") = some true)
    (tx_TooMany : PySem.W.typeIn K (.ref C_TooMany) = some (.type "type"))
    : ∃ fd : FuncData, (∀ (s : Shared) (v : Value), BindsTo s fd ⟨[v], []⟩ [("script", v)]) ∧ ∀ base : Heap, K.In base → base.Ns mainGlobals mg → FnOk l.prog w K mg base (L2.CX l.prog w) 8 fa fd ["script"] (upSp K (sp_k21_law (⟨C_Guild, 0, C_GuildError, C_NoHouse, 0, C_WayThere, C_NoRoad, 0, C_TooMany, 0⟩ : CA))) := by
  have e := hfa.symm.trans (PySem.W.mg_of X G a_k21_law)
  cases e
  have F_Guild_see_house := fun_mk (st := s_Guild_see_house) l_Guild_see_house c_Guild_see_house k_Guild_see_house
  have b_Guild_see_house := F_Guild_see_house.binds (ps := ["self", "a"]) fun _ _ _ _ _ _ us hl => match us, hl with | [_, _], _ => rfl
  have F_Guild_liking := fun_mk (st := s_Guild_liking) l_Guild_liking c_Guild_liking k_Guild_liking
  have b_Guild_liking := F_Guild_liking.binds (ps := ["self", "a", "b"]) fun _ _ _ _ _ _ us hl => match us, hl with | [_, _, _], _ => rfl
  have F_Guild_see_road := fun_mk (st := s_Guild_see_road) l_Guild_see_road c_Guild_see_road k_Guild_see_road
  have b_Guild_see_road := F_Guild_see_road.binds (ps := ["self", "road"]) fun _ _ _ _ _ _ us hl => match us, hl with | [_, _], _ => rfl
  have F_Guild_rank_of := fun_mk (st := s_Guild_rank_of) l_Guild_rank_of c_Guild_rank_of k_Guild_rank_of
  have b_Guild_rank_of := F_Guild_rank_of.binds (ps := ["self", "road"]) fun _ _ _ _ _ _ us hl => match us, hl with | [_, _], _ => rfl
  have F_better := fun_mk (st := s_better) l_better c_better k_better
  have b_better := F_better.binds (ps := ["guild", "one", "other"]) fun _ _ _ _ _ _ us hl => match us, hl with | [_, _, _], _ => rfl
  have F_takes := fun_mk (st := s_takes) l_takes c_takes k_takes
  have b_takes := F_takes.binds (ps := ["shunned", "house", "road"]) fun _ _ _ _ _ _ us hl => match us, hl with | [_, _, _], _ => rfl
  have F_Guild_shunned := fun_mk (st := s_Guild_shunned) l_Guild_shunned c_Guild_shunned k_Guild_shunned
  have b_Guild_shunned := F_Guild_shunned.binds (ps := ["self", "a"]) fun _ _ _ _ _ _ us hl => match us, hl with | [_, _], _ => rfl
  have F_chosen := fun_mk (st := s_chosen) l_chosen c_chosen k_chosen
  have b_chosen := F_chosen.binds (ps := ["guild", "house", "told"]) fun _ _ _ _ _ _ us hl => match us, hl with | [_, _, _], _ => rfl
  have F_Guild_neighbours := fun_mk (st := s_Guild_neighbours) l_Guild_neighbours c_Guild_neighbours k_Guild_neighbours
  have b_Guild_neighbours := F_Guild_neighbours.binds (ps := ["self", "a"]) fun _ _ _ _ _ _ us hl => match us, hl with | [_, _], _ => rfl
  have F_Guild_size := fun_mk (st := s_Guild_size) l_Guild_size c_Guild_size k_Guild_size
  have b_Guild_size := F_Guild_size.binds (ps := ["self"]) fun _ _ _ _ _ _ us hl => match us, hl with | [_], _ => rfl
  have F_first_unsettled := fun_mk (st := s_first_unsettled) l_first_unsettled c_first_unsettled k_first_unsettled
  have b_first_unsettled := F_first_unsettled.binds (ps := ["guild", "table"]) fun _ _ _ _ _ _ us hl => match us, hl with | [_, _], _ => rfl
  have F_rows_of_nexts := fun_mk (st := s_rows_of_nexts) l_rows_of_nexts c_rows_of_nexts k_rows_of_nexts
  have b_rows_of_nexts := F_rows_of_nexts.binds (ps := ["guild"]) fun _ _ _ _ _ _ us hl => match us, hl with | [_], _ => rfl
  have F_followed := fun_mk (st := s_followed) l_followed c_followed k_followed
  have b_followed := F_followed.binds (ps := ["nexts", "house"]) fun _ _ _ _ _ _ us hl => match us, hl with | [_, _], _ => rfl
  have F_settled_tables := fun_mk (st := s_settled_tables) l_settled_tables c_settled_tables k_settled_tables
  have b_settled_tables := F_settled_tables.binds (ps := ["guild"]) fun _ _ _ _ _ _ us hl => match us, hl with | [_], _ => rfl
  have F_Guild_init := fun_mk (st := s_Guild_init) l_Guild_init c_Guild_init k_Guild_init
  have b_Guild_init := F_Guild_init.binds (ps := ["self", "size"]) fun _ _ _ _ _ _ us hl => match us, hl with | [_, _], _ => rfl
  have F_Guild_see_two := fun_mk (st := s_Guild_see_two) l_Guild_see_two c_Guild_see_two k_Guild_see_two
  have b_Guild_see_two := F_Guild_see_two.binds (ps := ["self", "a", "b"]) fun _ _ _ _ _ _ us hl => match us, hl with | [_, _, _], _ => rfl
  have F_Guild_has_way := fun_mk (st := s_Guild_has_way) l_Guild_has_way c_Guild_has_way k_Guild_has_way
  have b_Guild_has_way := F_Guild_has_way.binds (ps := ["self", "a", "b"]) fun _ _ _ _ _ _ us hl => match us, hl with | [_, _, _], _ => rfl
  have F_Guild_lay_way := fun_mk (st := s_Guild_lay_way) l_Guild_lay_way c_Guild_lay_way k_Guild_lay_way
  have b_Guild_lay_way := F_Guild_lay_way.binds (ps := ["self", "a", "b"]) fun _ _ _ _ _ _ us hl => match us, hl with | [_, _, _], _ => rfl
  have F_Guild_wish := fun_mk (st := s_Guild_wish) l_Guild_wish c_Guild_wish k_Guild_wish
  have b_Guild_wish := F_Guild_wish.binds (ps := ["self", "road", "rank"]) fun _ _ _ _ _ _ us hl => match us, hl with | [_, _, _], _ => rfl
  have F_law_cell_at := fun_mk (st := s_law_cell_at) l_law_cell_at c_law_cell_at k_law_cell_at
  have b_law_cell_at := F_law_cell_at.binds (ps := ["script", "k"]) fun _ _ _ _ _ _ us hl => match us, hl with | [_, _], _ => rfl
  have F_law_whole := fun_mk (st := s_law_whole) l_law_whole c_law_whole k_law_whole
  have b_law_whole := F_law_whole.binds (ps := ["found"]) fun _ _ _ _ _ _ us hl => match us, hl with | [_], _ => rfl
  have F_law_same_road := fun_mk (st := s_law_same_road) l_law_same_road c_law_same_road k_law_same_road
  have b_law_same_road := F_law_same_road.binds (ps := ["found", "due"]) fun _ _ _ _ _ _ us hl => match us, hl with | [_, _], _ => rfl
  have F_law_same_table := fun_mk (st := s_law_same_table) l_law_same_table c_law_same_table k_law_same_table
  have b_law_same_table := F_law_same_table.binds (ps := ["found", "due"]) fun _ _ _ _ _ _ us hl => match us, hl with | [_, _], _ => rfl
  have F_law_order := fun_mk (st := s_law_order) l_law_order c_law_order k_law_order
  have b_law_order := F_law_order.binds (ps := ["cell", "many"]) fun _ _ _ _ _ _ us hl => match us, hl with | [_, _], _ => rfl
  have F_k21_law_guild_of := fun_mk (st := s_k21_law_guild_of) l_k21_law_guild_of c_k21_law_guild_of k_k21_law_guild_of
  have b_k21_law_guild_of := F_k21_law_guild_of.binds (ps := ["ring", "cell"]) fun _ _ _ _ _ _ us hl => match us, hl with | [_, _], _ => rfl
  have F_law_table_of := fun_mk (st := s_law_table_of) l_law_table_of c_law_table_of k_law_table_of
  have b_law_table_of := F_law_table_of.binds (ps := ["ring", "start"]) fun _ _ _ _ _ _ us hl => match us, hl with | [_, _], _ => rfl
  have F_k21_law := fun_mk (st := s_k21_law) l_k21_law c_k21_law k_k21_law
  have b_k21_law := F_k21_law.binds (ps := ["script"]) fun _ _ _ _ _ _ us hl => match us, hl with | [_], _ => rfl
  have T : Txt K mg (⟨⟨C_Guild, 0, C_GuildError, C_NoHouse, 0, C_WayThere, C_NoRoad, 0, C_TooMany, 0⟩, f_Guild_see_house, PySem.W.fnOf "see_house" "Guild.see_house" (defArgs s_Guild_see_house) (defBody s_Guild_see_house) (defScope s_Guild_see_house) .none kV_Guild_see_house dc_Guild_see_house pm_Guild_see_house an_Guild_see_house cd_Guild_see_house ct_Guild_see_house, f_Guild_liking, PySem.W.fnOf "liking" "Guild.liking" (defArgs s_Guild_liking) (defBody s_Guild_liking) (defScope s_Guild_liking) .none kV_Guild_liking dc_Guild_liking pm_Guild_liking an_Guild_liking cd_Guild_liking ct_Guild_liking, f_Guild_see_road, PySem.W.fnOf "see_road" "Guild.see_road" (defArgs s_Guild_see_road) (defBody s_Guild_see_road) (defScope s_Guild_see_road) .none kV_Guild_see_road dc_Guild_see_road pm_Guild_see_road an_Guild_see_road cd_Guild_see_road ct_Guild_see_road, f_Guild_rank_of, PySem.W.fnOf "rank_of" "Guild.rank_of" (defArgs s_Guild_rank_of) (defBody s_Guild_rank_of) (defScope s_Guild_rank_of) .none kV_Guild_rank_of dc_Guild_rank_of pm_Guild_rank_of an_Guild_rank_of cd_Guild_rank_of ct_Guild_rank_of, f_better, PySem.W.fnOf "better" "better" (defArgs s_better) (defBody s_better) (defScope s_better) .none kV_better dc_better pm_better an_better cd_better ct_better, f_takes, PySem.W.fnOf "takes" "takes" (defArgs s_takes) (defBody s_takes) (defScope s_takes) .none kV_takes dc_takes pm_takes an_takes cd_takes ct_takes, f_Guild_shunned, PySem.W.fnOf "shunned" "Guild.shunned" (defArgs s_Guild_shunned) (defBody s_Guild_shunned) (defScope s_Guild_shunned) .none kV_Guild_shunned dc_Guild_shunned pm_Guild_shunned an_Guild_shunned cd_Guild_shunned ct_Guild_shunned, f_chosen, PySem.W.fnOf "chosen" "chosen" (defArgs s_chosen) (defBody s_chosen) (defScope s_chosen) .none kV_chosen dc_chosen pm_chosen an_chosen cd_chosen ct_chosen, f_Guild_neighbours, PySem.W.fnOf "neighbours" "Guild.neighbours" (defArgs s_Guild_neighbours) (defBody s_Guild_neighbours) (defScope s_Guild_neighbours) .none kV_Guild_neighbours dc_Guild_neighbours pm_Guild_neighbours an_Guild_neighbours cd_Guild_neighbours ct_Guild_neighbours, f_Guild_size, PySem.W.fnOf "size" "Guild.size" (defArgs s_Guild_size) (defBody s_Guild_size) (defScope s_Guild_size) .none kV_Guild_size dc_Guild_size pm_Guild_size an_Guild_size cd_Guild_size ct_Guild_size, f_first_unsettled, PySem.W.fnOf "first_unsettled" "first_unsettled" (defArgs s_first_unsettled) (defBody s_first_unsettled) (defScope s_first_unsettled) .none kV_first_unsettled dc_first_unsettled pm_first_unsettled an_first_unsettled cd_first_unsettled ct_first_unsettled, f_rows_of_nexts, PySem.W.fnOf "rows_of_nexts" "rows_of_nexts" (defArgs s_rows_of_nexts) (defBody s_rows_of_nexts) (defScope s_rows_of_nexts) .none kV_rows_of_nexts dc_rows_of_nexts pm_rows_of_nexts an_rows_of_nexts cd_rows_of_nexts ct_rows_of_nexts, f_followed, PySem.W.fnOf "followed" "followed" (defArgs s_followed) (defBody s_followed) (defScope s_followed) .none kV_followed dc_followed pm_followed an_followed cd_followed ct_followed, f_settled_tables, PySem.W.fnOf "settled_tables" "settled_tables" (defArgs s_settled_tables) (defBody s_settled_tables) (defScope s_settled_tables) .none kV_settled_tables dc_settled_tables pm_settled_tables an_settled_tables cd_settled_tables ct_settled_tables, f_Guild_init, PySem.W.fnOf "__init__" "Guild.__init__" (defArgs s_Guild_init) (defBody s_Guild_init) (defScope s_Guild_init) .none kV_Guild_init dc_Guild_init pm_Guild_init an_Guild_init cd_Guild_init ct_Guild_init, f_Guild_see_two, PySem.W.fnOf "see_two" "Guild.see_two" (defArgs s_Guild_see_two) (defBody s_Guild_see_two) (defScope s_Guild_see_two) .none kV_Guild_see_two dc_Guild_see_two pm_Guild_see_two an_Guild_see_two cd_Guild_see_two ct_Guild_see_two, f_Guild_has_way, PySem.W.fnOf "has_way" "Guild.has_way" (defArgs s_Guild_has_way) (defBody s_Guild_has_way) (defScope s_Guild_has_way) .none kV_Guild_has_way dc_Guild_has_way pm_Guild_has_way an_Guild_has_way cd_Guild_has_way ct_Guild_has_way, f_Guild_lay_way, PySem.W.fnOf "lay_way" "Guild.lay_way" (defArgs s_Guild_lay_way) (defBody s_Guild_lay_way) (defScope s_Guild_lay_way) .none kV_Guild_lay_way dc_Guild_lay_way pm_Guild_lay_way an_Guild_lay_way cd_Guild_lay_way ct_Guild_lay_way, f_Guild_wish, PySem.W.fnOf "wish" "Guild.wish" (defArgs s_Guild_wish) (defBody s_Guild_wish) (defScope s_Guild_wish) .none kV_Guild_wish dc_Guild_wish pm_Guild_wish an_Guild_wish cd_Guild_wish ct_Guild_wish, f_law_cell_at, PySem.W.fnOf "_law_cell_at" "_law_cell_at" (defArgs s_law_cell_at) (defBody s_law_cell_at) (defScope s_law_cell_at) .none kV_law_cell_at dc_law_cell_at pm_law_cell_at an_law_cell_at cd_law_cell_at ct_law_cell_at, f_law_whole, PySem.W.fnOf "_law_whole" "_law_whole" (defArgs s_law_whole) (defBody s_law_whole) (defScope s_law_whole) .none kV_law_whole dc_law_whole pm_law_whole an_law_whole cd_law_whole ct_law_whole, f_law_same_road, PySem.W.fnOf "_law_same_road" "_law_same_road" (defArgs s_law_same_road) (defBody s_law_same_road) (defScope s_law_same_road) .none kV_law_same_road dc_law_same_road pm_law_same_road an_law_same_road cd_law_same_road ct_law_same_road, f_law_same_table, PySem.W.fnOf "_law_same_table" "_law_same_table" (defArgs s_law_same_table) (defBody s_law_same_table) (defScope s_law_same_table) .none kV_law_same_table dc_law_same_table pm_law_same_table an_law_same_table cd_law_same_table ct_law_same_table, f_law_order, PySem.W.fnOf "_law_order" "_law_order" (defArgs s_law_order) (defBody s_law_order) (defScope s_law_order) .none kV_law_order dc_law_order pm_law_order an_law_order cd_law_order ct_law_order, f_k21_law_guild_of, PySem.W.fnOf "_law_guild_of" "_law_guild_of" (defArgs s_k21_law_guild_of) (defBody s_k21_law_guild_of) (defScope s_k21_law_guild_of) .none kV_k21_law_guild_of dc_k21_law_guild_of pm_k21_law_guild_of an_k21_law_guild_of cd_k21_law_guild_of ct_k21_law_guild_of, f_law_table_of, PySem.W.fnOf "_law_table_of" "_law_table_of" (defArgs s_law_table_of) (defBody s_law_table_of) (defScope s_law_table_of) .none kV_law_table_of dc_law_table_of pm_law_table_of an_law_table_of cd_law_table_of ct_law_table_of, fa, PySem.W.fnOf "law" "law" (defArgs s_k21_law) (defBody s_k21_law) (defScope s_k21_law) .none kV_k21_law dc_k21_law pm_k21_law an_k21_law cd_k21_law ct_k21_law⟩ : Ad) :=
    { d_Guild_see_house := ⟨F_Guild_see_house, ⟨a_Guild_see_house, i_Guild_see_house, k_Guild_see_house⟩, b_Guild_see_house⟩,
      d_Guild_liking := ⟨F_Guild_liking, ⟨a_Guild_liking, i_Guild_liking, k_Guild_liking⟩, b_Guild_liking⟩,
      d_Guild_see_road := ⟨F_Guild_see_road, ⟨a_Guild_see_road, i_Guild_see_road, k_Guild_see_road⟩, b_Guild_see_road⟩,
      d_Guild_rank_of := ⟨F_Guild_rank_of, ⟨a_Guild_rank_of, i_Guild_rank_of, k_Guild_rank_of⟩, b_Guild_rank_of⟩,
      d_better := ⟨F_better, PySem.W.mg_of X G a_better, b_better⟩,
      d_takes := ⟨F_takes, PySem.W.mg_of X G a_takes, b_takes⟩,
      d_Guild_shunned := ⟨F_Guild_shunned, ⟨a_Guild_shunned, i_Guild_shunned, k_Guild_shunned⟩, b_Guild_shunned⟩,
      d_chosen := ⟨F_chosen, PySem.W.mg_of X G a_chosen, b_chosen⟩,
      d_Guild_neighbours := ⟨F_Guild_neighbours, ⟨a_Guild_neighbours, i_Guild_neighbours, k_Guild_neighbours⟩, b_Guild_neighbours⟩,
      d_Guild_size := ⟨F_Guild_size, ⟨a_Guild_size, i_Guild_size, k_Guild_size⟩, b_Guild_size⟩,
      d_first_unsettled := ⟨F_first_unsettled, PySem.W.mg_of X G a_first_unsettled, b_first_unsettled⟩,
      d_rows_of_nexts := ⟨F_rows_of_nexts, PySem.W.mg_of X G a_rows_of_nexts, b_rows_of_nexts⟩,
      d_followed := ⟨F_followed, PySem.W.mg_of X G a_followed, b_followed⟩,
      d_settled_tables := ⟨F_settled_tables, PySem.W.mg_of X G a_settled_tables, b_settled_tables⟩,
      d_Guild_init := ⟨F_Guild_init, ⟨a_Guild_init, i_Guild_init, k_Guild_init⟩, b_Guild_init⟩,
      d_Guild_see_two := ⟨F_Guild_see_two, ⟨a_Guild_see_two, i_Guild_see_two, k_Guild_see_two⟩, b_Guild_see_two⟩,
      d_Guild_has_way := ⟨F_Guild_has_way, ⟨a_Guild_has_way, i_Guild_has_way, k_Guild_has_way⟩, b_Guild_has_way⟩,
      d_Guild_lay_way := ⟨F_Guild_lay_way, ⟨a_Guild_lay_way, i_Guild_lay_way, k_Guild_lay_way⟩, b_Guild_lay_way⟩,
      d_Guild_wish := ⟨F_Guild_wish, ⟨a_Guild_wish, i_Guild_wish, k_Guild_wish⟩, b_Guild_wish⟩,
      d_law_cell_at := ⟨F_law_cell_at, PySem.W.mg_of X G a_law_cell_at, b_law_cell_at⟩,
      d_law_whole := ⟨F_law_whole, PySem.W.mg_of X G a_law_whole, b_law_whole⟩,
      d_law_same_road := ⟨F_law_same_road, PySem.W.mg_of X G a_law_same_road, b_law_same_road⟩,
      d_law_same_table := ⟨F_law_same_table, PySem.W.mg_of X G a_law_same_table, b_law_same_table⟩,
      d_law_order := ⟨F_law_order, PySem.W.mg_of X G a_law_order, b_law_order⟩,
      d_k21_law_guild_of := ⟨F_k21_law_guild_of, PySem.W.mg_of X G a_k21_law_guild_of, b_k21_law_guild_of⟩,
      d_law_table_of := ⟨F_law_table_of, PySem.W.mg_of X G a_law_table_of, b_law_table_of⟩,
      d_k21_law := ⟨F_k21_law, PySem.W.mg_of X G a_k21_law, b_k21_law⟩,
      cl_Guild := ⟨pg_Guild, hd_Guild, po_Guild, sa_Guild⟩,
      g_Guild := PySem.W.mg_of X G g_Guild,
      mk_Guild := ⟨mk_Guild, a_Guild_init, i_Guild_init, kc_Guild⟩,
      na_Guild_fond := na_Guild_fond,
      na_Guild_houses := na_Guild_houses,
      na_Guild_longings := na_Guild_longings,
      na_Guild_shy := na_Guild_shy,
      na_Guild_ties := na_Guild_ties,
      n_bool := PySem.W.mg_none_of X G z_bool,
      n_int := PySem.W.mg_none_of X G z_int,
      n_isinstance := PySem.W.mg_none_of X G z_isinstance,
      n_len := PySem.W.mg_none_of X G z_len,
      n_list := PySem.W.mg_none_of X G z_list,
      n_range := PySem.W.mg_none_of X G z_range,
      n_set := PySem.W.mg_none_of X G z_set,
      n_sorted := PySem.W.mg_none_of X G z_sorted,
      n_tuple := PySem.W.mg_none_of X G z_tuple,
      x_GuildError := ⟨PySem.W.mg_of X G g_GuildError, xi_GuildError, kx_GuildError, bx_GuildError, tx_GuildError⟩,
      x_NoHouse := ⟨PySem.W.mg_of X G g_NoHouse, xi_NoHouse, kx_NoHouse, bx_NoHouse, tx_NoHouse⟩,
      x_WayThere := ⟨PySem.W.mg_of X G g_WayThere, xi_WayThere, kx_WayThere, bx_WayThere, tx_WayThere⟩,
      x_NoRoad := ⟨PySem.W.mg_of X G g_NoRoad, xi_NoRoad, kx_NoRoad, bx_NoRoad, tx_NoRoad⟩,
      x_TooMany := ⟨PySem.W.mg_of X G g_TooMany, xi_TooMany, kx_TooMany, bx_TooMany, tx_TooMany⟩,
      ex := ⟨trivial⟩ }
  exact ⟨PySem.W.fnOf "law" "law" (defArgs s_k21_law) (defBody s_k21_law) (defScope s_k21_law) .none kV_k21_law dc_k21_law pm_k21_law an_k21_law cd_k21_law ct_k21_law, fun s v => .of_eq rfl, fun base _ _ => ok_k21_law T⟩
theorem law_walk {l : PySem.W.OpenLaw} {q : Program} {loose : List Str} {XP : (Str → Option Value) → Heap → Prop} {YP : World → Heap → Prop} {d : DefRec} {K : Params → PySem.W.Frag} (hn : l.most = some 63) (hdf : d.params.defaults = [])
    (hY : ∀ (w : World) (h : Heap), YP w h → (K w.params).In h)
    (F : ∀ (w : World) (mg : Str → Option Value) (fa : Addr) (h : Heap), (K w.params).In h → h.Ns mainGlobals mg → mg d.name = some (.ref fa) →
      ∃ (c : CA) (fd : FuncData), (∀ (s : Shared) (u : Value), BindsTo s fd ⟨[u], []⟩ [("script", u)]) ∧ ∀ base : Heap, (K w.params).In base → base.Ns mainGlobals mg → FnOk l.prog w (K w.params) mg base (L2.CX l.prog w) 8 fa fd ["script"] (upSp (K w.params) (sp_k21_law c))) :
    PySem.W.WalkO q loose XP YP l.row.toRowW d [] (fun f vs => PySem.call f vs) :=
  L2.walk_of (n := 63) (k := 8) (x := "script") (CX := fun w => L2.CX l.prog w) (sp := fun w => spTop (K w.params)) hn (by decide) hdf ⟨rfl, by decide, by decide⟩ hY
    (fun w mg fa h KX G hmg => by
      obtain ⟨c, fd, hb, hF⟩ := F w mg fa h KX G hmg
      exact ⟨fd, hb, fun base hk hg => (hF base hk hg).imp fun vs H Q E h => top_up (len_k21_law c) (fun ns hl => top_k21_law c ns hl) vs H Q E h⟩)
    (fun _ _ a ns hl _ hS => ⟨a, ns, rfl, hS, hl, fun _ => rfl⟩) fun w H s e s' ⟨_, _, _, _, _, _, _, _, _, _, _, _, z⟩ => z
end DL
open PySem PySem.W PyProof.Rows
set_option maxRecDepth 100000 in
set_option maxHeartbeats 0 in
theorem PySem.Challenge.cw_heraldways_k21_rings_of_wishes_holds : PySem.Challenge.rw_heraldways_k21_rings_of_wishes.Holds := by
  w_on; o_law; k_head; (case hw => w_witness2)
  k_fill
  refine DL.law_walk (l := PySem.Challenge.rw_heraldways_k21_rings_of_wishes) rfl rfl (fun w h Y => PySem.W.kIn_of Y) ?F
  case F =>
    intro w mg fa h KX G hmg
    refine' ⟨_, DL.all_mk KX G hmg ?g_Guild ?g_GuildError ?g_NoHouse ?g_WayThere ?g_NoRoad ?g_TooMany ?a_Guild_see_house ?i_Guild_see_house ?l_Guild_see_house ?c_Guild_see_house ?k_Guild_see_house ?a_Guild_liking ?i_Guild_liking ?l_Guild_liking ?c_Guild_liking ?k_Guild_liking ?a_Guild_see_road ?i_Guild_see_road ?l_Guild_see_road ?c_Guild_see_road ?k_Guild_see_road ?a_Guild_rank_of ?i_Guild_rank_of ?l_Guild_rank_of ?c_Guild_rank_of ?k_Guild_rank_of ?a_better ?l_better ?c_better ?k_better ?a_takes ?l_takes ?c_takes ?k_takes ?a_Guild_shunned ?i_Guild_shunned ?l_Guild_shunned ?c_Guild_shunned ?k_Guild_shunned ?a_chosen ?l_chosen ?c_chosen ?k_chosen ?a_Guild_neighbours ?i_Guild_neighbours ?l_Guild_neighbours ?c_Guild_neighbours ?k_Guild_neighbours ?a_Guild_size ?i_Guild_size ?l_Guild_size ?c_Guild_size ?k_Guild_size ?a_first_unsettled ?l_first_unsettled ?c_first_unsettled ?k_first_unsettled ?a_rows_of_nexts ?l_rows_of_nexts ?c_rows_of_nexts ?k_rows_of_nexts ?a_followed ?l_followed ?c_followed ?k_followed ?a_settled_tables ?l_settled_tables ?c_settled_tables ?k_settled_tables ?a_Guild_init ?i_Guild_init ?l_Guild_init ?c_Guild_init ?k_Guild_init ?a_Guild_see_two ?i_Guild_see_two ?l_Guild_see_two ?c_Guild_see_two ?k_Guild_see_two ?a_Guild_has_way ?i_Guild_has_way ?l_Guild_has_way ?c_Guild_has_way ?k_Guild_has_way ?a_Guild_lay_way ?i_Guild_lay_way ?l_Guild_lay_way ?c_Guild_lay_way ?k_Guild_lay_way ?a_Guild_wish ?i_Guild_wish ?l_Guild_wish ?c_Guild_wish ?k_Guild_wish ?a_law_cell_at ?l_law_cell_at ?c_law_cell_at ?k_law_cell_at ?a_law_whole ?l_law_whole ?c_law_whole ?k_law_whole ?a_law_same_road ?l_law_same_road ?c_law_same_road ?k_law_same_road ?a_law_same_table ?l_law_same_table ?c_law_same_table ?k_law_same_table ?a_law_order ?l_law_order ?c_law_order ?k_law_order ?a_k21_law_guild_of ?l_k21_law_guild_of ?c_k21_law_guild_of ?k_k21_law_guild_of ?a_law_table_of ?l_law_table_of ?c_law_table_of ?k_law_table_of ?a_k21_law ?l_k21_law ?c_k21_law ?k_k21_law ?pg_Guild ?hd_Guild ?po_Guild ?sa_Guild ?mk_Guild ?kc_Guild ?na_Guild_fond ?na_Guild_houses ?na_Guild_longings ?na_Guild_shy ?na_Guild_ties ?z_bool ?z_int ?z_isinstance ?z_len ?z_list ?z_range ?z_set ?z_sorted ?z_tuple ?xi_GuildError ?kx_GuildError ?bx_GuildError ?tx_GuildError ?xi_NoHouse ?kx_NoHouse ?bx_NoHouse ?tx_NoHouse ?xi_WayThere ?kx_WayThere ?bx_WayThere ?tx_WayThere ?xi_NoRoad ?kx_NoRoad ?bx_NoRoad ?tx_NoRoad ?xi_TooMany ?kx_TooMany ?bx_TooMany ?tx_TooMany⟩
    (case g_Guild => k_is)
    (case g_GuildError => k_is)
    (case g_NoHouse => k_is)
    (case g_WayThere => k_is)
    (case g_NoRoad => k_is)
    (case g_TooMany => k_is)
    (case a_Guild_see_house => k_is)
    (case i_Guild_see_house => k_is)
    (case l_Guild_see_house => k_is)
    (case c_Guild_see_house => k_is)
    (case k_Guild_see_house => k_is)
    (case a_Guild_liking => k_is)
    (case i_Guild_liking => k_is)
    (case l_Guild_liking => k_is)
    (case c_Guild_liking => k_is)
    (case k_Guild_liking => k_is)
    (case a_Guild_see_road => k_is)
    (case i_Guild_see_road => k_is)
    (case l_Guild_see_road => k_is)
    (case c_Guild_see_road => k_is)
    (case k_Guild_see_road => k_is)
    (case a_Guild_rank_of => k_is)
    (case i_Guild_rank_of => k_is)
    (case l_Guild_rank_of => k_is)
    (case c_Guild_rank_of => k_is)
    (case k_Guild_rank_of => k_is)
    (case a_better => k_is)
    (case l_better => k_is)
    (case c_better => k_is)
    (case k_better => k_is)
    (case a_takes => k_is)
    (case l_takes => k_is)
    (case c_takes => k_is)
    (case k_takes => k_is)
    (case a_Guild_shunned => k_is)
    (case i_Guild_shunned => k_is)
    (case l_Guild_shunned => k_is)
    (case c_Guild_shunned => k_is)
    (case k_Guild_shunned => k_is)
    (case a_chosen => k_is)
    (case l_chosen => k_is)
    (case c_chosen => k_is)
    (case k_chosen => k_is)
    (case a_Guild_neighbours => k_is)
    (case i_Guild_neighbours => k_is)
    (case l_Guild_neighbours => k_is)
    (case c_Guild_neighbours => k_is)
    (case k_Guild_neighbours => k_is)
    (case a_Guild_size => k_is)
    (case i_Guild_size => k_is)
    (case l_Guild_size => k_is)
    (case c_Guild_size => k_is)
    (case k_Guild_size => k_is)
    (case a_first_unsettled => k_is)
    (case l_first_unsettled => k_is)
    (case c_first_unsettled => k_is)
    (case k_first_unsettled => k_is)
    (case a_rows_of_nexts => k_is)
    (case l_rows_of_nexts => k_is)
    (case c_rows_of_nexts => k_is)
    (case k_rows_of_nexts => k_is)
    (case a_followed => k_is)
    (case l_followed => k_is)
    (case c_followed => k_is)
    (case k_followed => k_is)
    (case a_settled_tables => k_is)
    (case l_settled_tables => k_is)
    (case c_settled_tables => k_is)
    (case k_settled_tables => k_is)
    (case a_Guild_init => k_is)
    (case i_Guild_init => k_is)
    (case l_Guild_init => k_is)
    (case c_Guild_init => k_is)
    (case k_Guild_init => k_is)
    (case a_Guild_see_two => k_is)
    (case i_Guild_see_two => k_is)
    (case l_Guild_see_two => k_is)
    (case c_Guild_see_two => k_is)
    (case k_Guild_see_two => k_is)
    (case a_Guild_has_way => k_is)
    (case i_Guild_has_way => k_is)
    (case l_Guild_has_way => k_is)
    (case c_Guild_has_way => k_is)
    (case k_Guild_has_way => k_is)
    (case a_Guild_lay_way => k_is)
    (case i_Guild_lay_way => k_is)
    (case l_Guild_lay_way => k_is)
    (case c_Guild_lay_way => k_is)
    (case k_Guild_lay_way => k_is)
    (case a_Guild_wish => k_is)
    (case i_Guild_wish => k_is)
    (case l_Guild_wish => k_is)
    (case c_Guild_wish => k_is)
    (case k_Guild_wish => k_is)
    (case a_law_cell_at => k_is)
    (case l_law_cell_at => k_is)
    (case c_law_cell_at => k_is)
    (case k_law_cell_at => k_is)
    (case a_law_whole => k_is)
    (case l_law_whole => k_is)
    (case c_law_whole => k_is)
    (case k_law_whole => k_is)
    (case a_law_same_road => k_is)
    (case l_law_same_road => k_is)
    (case c_law_same_road => k_is)
    (case k_law_same_road => k_is)
    (case a_law_same_table => k_is)
    (case l_law_same_table => k_is)
    (case c_law_same_table => k_is)
    (case k_law_same_table => k_is)
    (case a_law_order => k_is)
    (case l_law_order => k_is)
    (case c_law_order => k_is)
    (case k_law_order => k_is)
    (case a_k21_law_guild_of => k_is)
    (case l_k21_law_guild_of => k_is)
    (case c_k21_law_guild_of => k_is)
    (case k_k21_law_guild_of => k_is)
    (case a_law_table_of => k_is)
    (case l_law_table_of => k_is)
    (case c_law_table_of => k_is)
    (case k_law_table_of => k_is)
    (case a_k21_law => k_is)
    (case l_k21_law => k_is)
    (case c_k21_law => k_is)
    (case k_k21_law => k_is)
    (case pg_Guild => k_is)
    (case hd_Guild => k_is)
    (case po_Guild => k_is)
    (case sa_Guild => k_is)
    (case mk_Guild => k_is)
    (case kc_Guild => k_is)
    (case na_Guild_fond => k_is)
    (case na_Guild_houses => k_is)
    (case na_Guild_longings => k_is)
    (case na_Guild_shy => k_is)
    (case na_Guild_ties => k_is)
    (case z_bool => k_is)
    (case z_int => k_is)
    (case z_isinstance => k_is)
    (case z_len => k_is)
    (case z_list => k_is)
    (case z_range => k_is)
    (case z_set => k_is)
    (case z_sorted => k_is)
    (case z_tuple => k_is)
    (case xi_GuildError => k_exc)
    (case kx_GuildError => k_is)
    (case bx_GuildError => k_is)
    (case tx_GuildError => k_is)
    (case xi_NoHouse => k_exc)
    (case kx_NoHouse => k_is)
    (case bx_NoHouse => k_is)
    (case tx_NoHouse => k_is)
    (case xi_WayThere => k_exc)
    (case kx_WayThere => k_is)
    (case bx_WayThere => k_is)
    (case tx_WayThere => k_is)
    (case xi_NoRoad => k_exc)
    (case kx_NoRoad => k_is)
    (case bx_NoRoad => k_is)
    (case tx_NoRoad => k_is)
    (case xi_TooMany => k_exc)
    (case kx_TooMany => k_is)
    (case bx_TooMany => k_is)
    (case tx_TooMany => k_is)
