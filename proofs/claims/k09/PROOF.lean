import PyProof.Rows.All
import Wide.All
import OpenK.AllK
import Wide.FinOn
import HandS.ForMost
import HandS.ForExc
import HandS.Deep
import HandS.TupLen
import HandS.Conv
import HandS.SortInts
import HandS.IsInst
import HandS.DictTup
import HandS.CallSlots
import HandS.ExcIs
import HandS.TryOnly
import HandS.ExcOwn
import KE.SortData
import KE.DataCmp
import KE.LtData
import HandS.TupSets
import HandS.SetFor
import HandS.Text
import HandS.RevTup
import HandS.Rev
import PyProof.DictMoreH
import HandS.Dict
import HandS.RaiseMore
import HandS.Iter
import KE.GoesRaise
import HandS.ExcCtx
import HandS.SuiteRaise
import HandS.HotCalls
import PyProof.StrOps2
import KE.KIntText
import PySem.Challenge.RW_heraldways_k09_read_or_refused
set_option Elab.async false
set_option linter.all false
set_option maxRecDepth 100000
namespace DL
open PySem L2
inductive D where
  | non | bl (b : Bool) | int (i : Int) | str (x : Str) | lst (xs : List D) | tup (xs : List D) | ref (a : Addr) | ty (n : String) | scr (ns : List Int)
inductive Cl where
  | ml (xs : List D)
  | dI (kvs : List (List Int × D))
  | dS (kvs : List (Str × D))
  | ins (C : Addr) (fs : List (Str × D))
abbrev Sto := Addr → Option Cl
abbrev Env' := List (Option D)
def su (S : Sto) (p : Addr) (c : Cl) : Sto := fun b => if b = p then some c else S b
def sd (S : Sto) (p : Addr) : Sto := fun b => if b = p then none else S b
theorem su_same {S : Sto} {p : Addr} {c : Cl} : su S p c p = some c := by unfold su; rw [if_pos rfl]
theorem su_ne {S : Sto} {p b : Addr} {c : Cl} (h : b ≠ p) : su S p c b = S b := by unfold su; rw [if_neg h]
theorem su_su {S : Sto} {p : Addr} {c c' : Cl} : su (su S p c) p c' = su S p c' := by
  funext b; unfold su; split <;> rfl
theorem sd_same {S : Sto} {p : Addr} : sd S p p = none := by unfold sd; rw [if_pos rfl]
theorem sd_ne {S : Sto} {p b : Addr} (h : b ≠ p) : sd S p b = S b := by unfold sd; rw [if_neg h]
theorem sd_su {S : Sto} {p : Addr} {c : Cl} (h : S p = none) : sd (su S p c) p = S := by
  funext b; unfold sd su; split
  · rename_i e; subst e; exact h.symm
  · rfl
theorem su_self {S : Sto} {p : Addr} {c : Cl} (h : S p = some c) : su S p c = S := by
  funext b; unfold su; split
  · rename_i e; subst e; exact h.symm
  · rfl
theorem su_comm {S : Sto} {p q : Addr} {c d : Cl} (h : p ≠ q) : su (su S p c) q d = su (su S q d) p c := by
  funext b
  by_cases e : b = p
  · subst e; rw [su_ne h, su_same, su_same]
  · by_cases e2 : b = q
    · subst e2; rw [su_same, su_ne e, su_same]
    · rw [su_ne e2, su_ne e, su_ne e, su_ne e2]
def wo (H : Hp) (S : Sto) : Hp := fun b => match S b with
  | some _ => none
  | none => H b
theorem wo_none {H : Hp} {S : Sto} {b : Addr} (h : S b = none) : wo H S b = H b := by unfold wo; rw [h]
theorem wo_some {H : Hp} {S : Sto} {b : Addr} {c : Cl} (h : S b = some c) : wo H S b = none := by unfold wo; rw [h]
theorem wo_le (H : Hp) (S : Sto) : Same (wo H S) H := fun b o e => by
  cases h : S b with
  | some c => rw [wo_some h] at e; cases e
  | none => rw [wo_none h] at e; exact e

mutual
def Rep (K : PySem.W.Frag) (G : Hp) : D → V → Prop
  | .non, v => v = .non
  | .bl b, v => v = .bl b
  | .int i, v => v = .int i
  | .str x, v => v = .str x
  | .ref a, v => v = .ref a
  | .ty n, v => v = .ty n
  | .lst ds, v => ∃ a vs, v = .ref a ∧ G a = some (.lst vs) ∧ Reps K G ds vs
  | .scr ns, v => ∃ a, v = .ref a ∧ SqL K G a (ns.map V.int)
  | .tup ds, v => ∃ a vs, v = .ref a ∧ G a = some (.tup vs) ∧ Reps K G ds vs
def Reps (K : PySem.W.Frag) (G : Hp) : List D → List V → Prop
  | [], vs => vs = []
  | d :: ds, vs => ∃ v r, vs = v :: r ∧ Rep K G d v ∧ Reps K G ds r
end
mutual
theorem Rep.mono {K : PySem.W.Frag} {G G' : Hp} (s : Same G G') : ∀ (d : D) (v : V), Rep K G d v → Rep K G' d v
  | .non, v, h => by simpa only [Rep] using h
  | .bl b, v, h => by simpa only [Rep] using h
  | .int i, v, h => by simpa only [Rep] using h
  | .str x, v, h => by simpa only [Rep] using h
  | .ref a, v, h => by simpa only [Rep] using h
  | .ty n, v, h => by simpa only [Rep] using h
  | .lst ds, v, h => by
    simp only [Rep] at h ⊢
    obtain ⟨a, vs, e, q, r⟩ := h
    exact ⟨a, vs, e, s _ _ q, Reps.mono s ds vs r⟩
  | .scr ns, v, h => by
    simp only [Rep] at h ⊢
    obtain ⟨a, e, q⟩ := h
    exact ⟨a, e, s.seq q⟩
  | .tup ds, v, h => by
    simp only [Rep] at h ⊢
    obtain ⟨a, vs, e, q, r⟩ := h
    exact ⟨a, vs, e, s _ _ q, Reps.mono s ds vs r⟩
theorem Reps.mono {K : PySem.W.Frag} {G G' : Hp} (s : Same G G') : ∀ (ds : List D) (vs : List V), Reps K G ds vs → Reps K G' ds vs
  | [], vs, h => by simpa only [Reps] using h
  | d :: ds, vs, h => by
    simp only [Reps] at h ⊢
    obtain ⟨v, r, e, q, t⟩ := h
    exact ⟨v, r, e, Rep.mono s d v q, Reps.mono s ds r t⟩
end
section
variable {K : PySem.W.Frag} {G G' : Hp}
theorem Reps.nil : Reps K G [] [] := by simp only [Reps]
theorem Reps.cons {d : D} {v : V} {ds : List D} {vs : List V} (h : Rep K G d v) (t : Reps K G ds vs) : Reps K G (d :: ds) (v :: vs) := by
  simp only [Reps]; exact ⟨v, vs, rfl, h, t⟩
theorem Reps.len : ∀ {ds : List D} {vs : List V}, Reps K G ds vs → ds.length = vs.length
  | [], vs, h => by simp only [Reps] at h; subst h; rfl
  | d :: ds, vs, h => by
    simp only [Reps] at h
    obtain ⟨v, r, rfl, _, t⟩ := h
    rw [List.length_cons, List.length_cons, Reps.len t]
theorem Reps.get : ∀ {ds : List D} {vs : List V} {i : Nat} {d : D}, Reps K G ds vs → ds[i]? = some d → ∃ v, vs[i]? = some v ∧ Rep K G d v
  | [], vs, i, d, h, e => by simp at e
  | d :: ds, vs, 0, d', h, e => by
    simp only [Reps] at h
    obtain ⟨v, r, rfl, q, t⟩ := h
    simp at e; subst e
    exact ⟨v, rfl, q⟩
  | d :: ds, vs, i + 1, d', h, e => by
    simp only [Reps] at h
    obtain ⟨v, r, rfl, q, t⟩ := h
    obtain ⟨v', e', q'⟩ := Reps.get (i := i) (d := d') t (by simpa using e)
    exact ⟨v', by simpa using e', q'⟩
theorem Reps.app : ∀ {ds es : List D} {vs us : List V}, Reps K G ds vs → Reps K G es us → Reps K G (ds ++ es) (vs ++ us)
  | [], es, vs, us, h, t => by simp only [Reps] at h; subst h; exact t
  | d :: ds, es, vs, us, h, t => by
    simp only [Reps] at h
    obtain ⟨v, r, rfl, q, s⟩ := h
    exact Reps.cons q (Reps.app s t)
theorem Reps.set {d : D} {v : V} (q : Rep K G d v) : ∀ {ds : List D} {vs : List V} (i : Nat), Reps K G ds vs → Reps K G (ds.set i d) (vs.set i v)
  | [], vs, i, h => by simp only [Reps] at h; subst h; simpa using Reps.nil
  | d' :: ds, vs, 0, h => by
    simp only [Reps] at h
    obtain ⟨v', r, rfl, q', s⟩ := h
    exact Reps.cons q s
  | d' :: ds, vs, i + 1, h => by
    simp only [Reps] at h
    obtain ⟨v', r, rfl, q', s⟩ := h
    exact Reps.cons q' (Reps.set q i s)
theorem Reps.take : ∀ {ds : List D} {vs : List V} (n : Nat), Reps K G ds vs → Reps K G (ds.take n) (vs.take n)
  | [], vs, n, h => by simp only [Reps] at h; subst h; simpa using Reps.nil
  | d :: ds, vs, 0, h => by simpa using Reps.nil
  | d :: ds, vs, n + 1, h => by
    simp only [Reps] at h
    obtain ⟨v, r, rfl, q, s⟩ := h
    exact Reps.cons q (Reps.take n s)
theorem Reps.drop : ∀ {ds : List D} {vs : List V} (n : Nat), Reps K G ds vs → Reps K G (ds.drop n) (vs.drop n)
  | [], vs, n, h => by simp only [Reps] at h; subst h; simpa using Reps.nil
  | d :: ds, vs, 0, h => h
  | d :: ds, vs, n + 1, h => by
    simp only [Reps] at h
    obtain ⟨v, r, rfl, q, s⟩ := h
    exact Reps.drop n s
theorem Reps.rev : ∀ {ds : List D} {vs : List V}, Reps K G ds vs → Reps K G ds.reverse vs.reverse
  | [], vs, h => by simp only [Reps] at h; subst h; exact Reps.nil
  | d :: ds, vs, h => by
    simp only [Reps] at h
    obtain ⟨v, r, rfl, q, s⟩ := h
    rw [List.reverse_cons, List.reverse_cons]
    exact Reps.app (Reps.rev s) (Reps.cons q Reps.nil)
theorem Reps.ints : ∀ {ns : List Int} {vs : List V}, Reps K G (ns.map D.int) vs → vs = ns.map V.int
  | [], vs, h => by simpa only [List.map_nil, Reps] using h
  | n :: ns, vs, h => by
    simp only [List.map_cons, Reps] at h
    obtain ⟨v, r, rfl, q, s⟩ := h
    simp only [Rep] at q
    rw [q, Reps.ints s]; rfl
theorem Reps.of_ints : ∀ (ns : List Int), Reps K G (ns.map D.int) (ns.map V.int)
  | [] => Reps.nil
  | n :: ns => Reps.cons (by simp only [Rep]) (Reps.of_ints ns)
theorem Reps.ints' {ns : List Int} : ∀ {ds : List D}, Reps K G ds (ns.map V.int) → ∀ ks : List Int, ds = ks.map D.int → ks = ns := fun {ds} h ks e => by
  subst e
  have h2 := Reps.ints h
  have : ∀ {a b : List Int}, a.map V.int = b.map V.int → a = b := by
    intro a
    induction a with
    | nil => intro b h; cases b with | nil => rfl | cons _ _ => simp at h
    | cons x xs ih =>
      intro b h
      cases b with
      | nil => simp at h
      | cons y ys =>
        simp only [List.map_cons, List.cons.injEq, V.int.injEq] at h
        rw [h.1, ih h.2]
  exact (this h2).symm
end
def CellOk (K : PySem.W.Frag) (H G : Hp) (a : Addr) : Cl → Prop
  | .ml ds => ∃ vs, H a = some (.lst vs) ∧ Reps K G ds vs
  | .dI kvs => ∃ vs, H a = some (.dT ((kvs.map fun p => p.1.map Sum.inl).zip vs)) ∧ Reps K G (kvs.map (·.2)) vs
  | .dS kvs => ∃ vs, H a = some (.dK ((kvs.map fun p => Sum.inr p.1).zip vs)) ∧ Reps K G (kvs.map (·.2)) vs
  | .ins C fs => ∃ dx vs, H a = some (.ins C dx ((fs.map (·.1)).zip vs)) ∧ Reps K G (fs.map (·.2)) vs
theorem CellOk.mono {K : PySem.W.Frag} {H H' G G' : Hp} {a : Addr} {c : Cl} (x : CellOk K H G a c) (h : ∀ o, H a = some o → H' a = some o) (s : Same G G') : CellOk K H' G' a c := by
  cases c with
  | ml ds => obtain ⟨vs, e, r⟩ := x; exact ⟨vs, h _ e, r.mono s⟩
  | dI kvs => obtain ⟨vs, e, r⟩ := x; exact ⟨vs, h _ e, r.mono s⟩
  | dS kvs => obtain ⟨vs, e, r⟩ := x; exact ⟨vs, h _ e, r.mono s⟩
  | ins C fs => obtain ⟨dx, vs, e, r⟩ := x; exact ⟨dx, vs, h _ e, r.mono s⟩
theorem CellOk.there {K : PySem.W.Frag} {H G : Hp} {a : Addr} {c : Cl} (x : CellOk K H G a c) : ∃ o, H a = some o := by
  cases c with
  | ml ds => obtain ⟨vs, e, r⟩ := x; exact ⟨_, e⟩
  | dI kvs => obtain ⟨vs, e, r⟩ := x; exact ⟨_, e⟩
  | dS kvs => obtain ⟨vs, e, r⟩ := x; exact ⟨_, e⟩
  | ins C fs => obtain ⟨dx, vs, e, r⟩ := x; exact ⟨_, e⟩
structure Nx (K : PySem.W.Frag) (G : Hp) (S : Sto) (H : Hp) : Prop where
  st : Same G (wo H S)
  ok : ∀ a c, S a = some c → CellOk K H (wo H S) a c
section
variable {K : PySem.W.Frag} {G G' H H' : Hp} {S S' : Sto} {p : Addr} {c : Cl}
theorem Nx.refl (x : Nx K G S H) : Nx K (wo H S) S H := ⟨Same.refl _, x.ok⟩
theorem Nx.trans (x : Nx K G S H) (y : Nx K (wo H S) S' H') : Nx K G S' H' := ⟨x.st.trans y.st, y.ok⟩
theorem Nx.le (x : Nx K G S H) (s : Same G' G) : Nx K G' S H := ⟨s.trans x.st, x.ok⟩
theorem Nx.free (x : Nx K G S H) (h : H p = none) : S p = none := by
  cases e : S p with
  | none => rfl
  | some c =>
    obtain ⟨o, q⟩ := (x.ok p c e).there
    rw [h] at q; cases q
theorem Nx.grow (x : Nx K G S H) (s : Same H H') : Nx K (wo H S) S H' := by
  have s2 : Same (wo H S) (wo H' S) := fun b o e => by
    cases h : S b with
    | some c => rw [wo_some h] at e; cases e
    | none => rw [wo_none h] at e ⊢; exact s _ _ e
  exact ⟨s2, fun a c e => (x.ok a c e).mono (fun o q => s _ _ q) s2⟩
theorem same_new {o : HO} (h : H p = none) : Same H (upd H p o) := fun b u e => by rw [upd_ne (ne_of_none e h)]; exact e
theorem Nx.alloc {o : HO} (x : Nx K G S H) (h : H p = none) : Nx K (wo H S) S (upd H p o) := x.grow (same_new h)
theorem wo_new {o : HO} (x : Nx K G S H) (h : H p = none) : wo (upd H p o) S p = some o := by rw [wo_none (x.free h)]; exact upd_same
theorem Nx.cell {o : HO} (x : Nx K G S H) (h : H p = none) (n : ∀ G', Same (wo H S) G' → CellOk K (upd H p o) G' p c) : Nx K (wo H S) (su S p c) (upd H p o) := by
  have s2 : Same (wo H S) (wo (upd H p o) (su S p c)) := fun b u e => by
    have q : H b = some u := wo_le _ _ _ _ e
    have nb : b ≠ p := ne_of_none q h
    cases e2 : S b with
    | some c => rw [wo_some e2] at e; cases e
    | none => rw [wo_none (by rw [su_ne nb]; exact e2), upd_ne nb]; exact q
  refine ⟨s2, fun a c' e => ?_⟩
  by_cases q : a = p
  · subst q
    rw [su_same] at e; cases e
    exact n _ s2
  · rw [su_ne q] at e
    exact (x.ok a c' e).mono (fun o r => by rw [upd_ne q]; exact r) s2
theorem wo_write {o : HO} {c0 : Cl} (h : S p = some c0) : wo (upd H p o) (su S p c) = wo H S := by
  funext b
  by_cases q : b = p
  · subst q
    rw [wo_some su_same, wo_some h]
  · unfold wo
    rw [su_ne q, upd_ne q]
theorem Nx.write {o : HO} {c0 : Cl} (x : Nx K G S H) (h : S p = some c0) (n : CellOk K (upd H p o) (wo H S) p c) : Nx K (wo H S) (su S p c) (upd H p o) := by
  have e0 := wo_write (H := H) (o := o) (c := c) h
  refine ⟨by rw [e0]; exact Same.refl _, fun a c' e => ?_⟩
  rw [e0]
  by_cases q : a = p
  · subst q
    rw [su_same] at e; cases e
    exact n
  · rw [su_ne q] at e
    exact (x.ok a c' e).mono (fun o r => by rw [upd_ne q]; exact r) (Same.refl _)
theorem Nx.less (x : Nx K G S H) (h : ∀ a c, S' a = some c → S a = some c) : Nx K (wo H S) S' H := by
  have s2 : Same (wo H S) (wo H S') := fun b u e => by
    have q : H b = some u := wo_le _ _ _ _ e
    cases e2 : S b with
    | some c => rw [wo_some e2] at e; cases e
    | none =>
      have e3 : S' b = none := by
        cases e4 : S' b with
        | none => rfl
        | some c => rw [h _ _ e4] at e2; cases e2
      rw [wo_none e3]; exact q
  exact ⟨s2, fun a c e => (x.ok a c (h _ _ e)).mono (fun o r => r) s2⟩
theorem Nx.frz {ds : List D} (x : Nx K G S H) (h : S p = some (.ml ds)) : Nx K (wo H S) (sd S p) H ∧ Rep K (wo H (sd S p)) (.lst ds) (.ref p) := by
  have n := x.less (S' := sd S p) fun a c e => by
    unfold sd at e
    split at e
    · cases e
    · exact e
  refine ⟨n, ?_⟩
  obtain ⟨vs, e, r⟩ := x.ok p _ h
  simp only [Rep]
  exact ⟨p, vs, rfl, by rw [wo_none sd_same]; exact e, r.mono n.st⟩
end
def REnv (K : PySem.W.Frag) (G : Hp) (ρ : Env') (σ : St) : Prop := ρ.length = σ.length ∧ ∀ (i : Nat) (d : D), ρ[i]? = some (some d) → ∃ v : V, σ[i]? = some (some v) ∧ Rep K G d v
structure Stt (K : PySem.W.Frag) (G0 : Hp) (ρ : Env') (S : Sto) (σ : St) (H : Hp) : Prop where
  env : REnv K (wo H S) ρ σ
  nx : Nx K G0 S H
section
variable {K : PySem.W.Frag} {G G0 G' H H' : Hp} {S S' : Sto} {ρ : Env'} {σ : St}
theorem REnv.mono (x : REnv K G ρ σ) (s : Same G G') : REnv K G' ρ σ := ⟨x.1, fun i d e => by
  obtain ⟨v, e', r⟩ := x.2 i d e
  exact ⟨v, e', r.mono s⟩⟩
theorem REnv.set {i : Nat} {d : D} {v : V} (x : REnv K G ρ σ) (r : Rep K G d v) : REnv K G (ρ.set i (some d)) (σ.set i (some v)) := by
  refine ⟨by rw [List.length_set, List.length_set]; exact x.1, fun j e h => ?_⟩
  rw [List.getElem?_set] at h ⊢
  by_cases q : i = j
  · subst q
    rw [if_pos rfl] at h ⊢
    by_cases l : i < ρ.length
    · rw [if_pos l] at h
      rw [if_pos (by rw [← x.1]; exact l)]
      cases h
      exact ⟨v, rfl, r⟩
    · rw [if_neg l] at h; cases h
  · rw [if_neg q] at h ⊢
    exact x.2 j e h
theorem REnv.wipe (x : REnv K G ρ σ) (i : Nat) : REnv K G (ρ.set i none) (σ.set i none) := by
  refine ⟨by rw [List.length_set, List.length_set]; exact x.1, fun j e h => ?_⟩
  rw [List.getElem?_set] at h ⊢
  by_cases q : i = j
  · subst q
    rw [if_pos rfl] at h
    split at h <;> cases h
  · rw [if_neg q] at h ⊢
    exact x.2 j e h
theorem REnv.wipe' {i : Nat} (x : REnv K G ρ σ) : REnv K G (ρ.set i none) σ := by
  refine ⟨by rw [List.length_set]; exact x.1, fun j e h => ?_⟩
  rw [List.getElem?_set] at h
  by_cases q : i = j
  · subst q
    rw [if_pos rfl] at h
    split at h <;> cases h
  · rw [if_neg q] at h
    exact x.2 j e h
theorem Stt.next (x : Stt K G0 ρ S σ H) (y : Nx K (wo H S) S' H') : Stt K G0 ρ S' σ H' := ⟨x.env.mono y.st, x.nx.trans y⟩
theorem Stt.refl (x : Stt K G0 ρ S σ H) : Nx K (wo H S) S H := x.nx.refl
end
abbrev TDE := Env' → Sto → (D → Sto → Prop) → Prop
abbrev TDT := Env' → Sto → (Bool → Sto → Prop) → Prop
abbrev TDA := Env' → Sto → (List D → Sto → Prop) → Prop
structure DEnds where
  nx : Env' → Sto → Prop
  rt : D → Sto → Prop
  bk : Env' → Sto → Prop := fun _ _ => False
  ct : Env' → Sto → Prop := fun _ _ => False
abbrev TDS := DEnds → Env' → Sto → Prop
abbrev WD := Addr → Env' → Sto → Prop

def upE (K : PySem.W.Frag) (G0 : Hp) (t : TDE) : TE := fun σ H Q => ∃ ρ S P, Stt K G0 ρ S σ H ∧ t ρ S P ∧
  ∀ d S' v H', P d S' → Nx K (wo H S) S' H' → Rep K (wo H' S') d v → Q v H'
def upT (K : PySem.W.Frag) (G0 : Hp) (t : TDT) : TT := fun σ H Q => ∃ ρ S P, Stt K G0 ρ S σ H ∧ t ρ S P ∧
  ∀ b S' H', P b S' → Nx K (wo H S) S' H' → Q b H'
def upA (K : PySem.W.Frag) (G0 : Hp) (t : TDA) : TA := fun σ H Q => ∃ ρ S P, Stt K G0 ρ S σ H ∧ t ρ S P ∧
  ∀ ds S' vs H', P ds S' → Nx K (wo H S) S' H' → Reps K (wo H' S') ds vs → Q vs H'
structure EndsUp (K : PySem.W.Frag) (G0 : Hp) (dD : DEnds) (D : Ends) : Prop where
  nx : ∀ ρ S σ H, dD.nx ρ S → Stt K G0 ρ S σ H → D.nx σ H
  rt : ∀ d S v H, dD.rt d S → Nx K G0 S H → Rep K (wo H S) d v → D.rt v H
  bk : ∀ ρ S σ H, dD.bk ρ S → Stt K G0 ρ S σ H → D.bk σ H
  ct : ∀ ρ S σ H, dD.ct ρ S → Stt K G0 ρ S σ H → D.ct σ H
def upS (K : PySem.W.Frag) (G0 : Hp) (t : TDS) : TS := fun D σ H => ∃ ρ S dD, Stt K G0 ρ S σ H ∧ t dD ρ S ∧ EndsUp K G0 dD D
def upW (K : PySem.W.Frag) (G0 : Hp) (W : WD) : WX := fun cls d σ H => ∃ ρ S C, cls = .ref C ∧ d = none ∧ Stt K G0 ρ S σ H ∧ W C ρ S
abbrev DE (X : Cx) (G0 : Hp) (e : Expr) (t : TDE) : Prop := PE X e (upE X.K G0 t)
abbrev DT (X : Cx) (G0 : Hp) (e : Expr) (t : TDT) : Prop := PT X e (upT X.K G0 t)
abbrev DW (X : Cx) (G0 : Hp) (e : Expr) (t : TDT) : Prop := PW X e (upT X.K G0 t)
abbrev DA (X : Cx) (G0 : Hp) (es : List Expr) (t : TDA) : Prop := PA X es (upA X.K G0 t)
abbrev DS (X : Cx) (G0 : Hp) (st : Stmt) (t : TDS) : Prop := PS X st (upS X.K G0 t)
abbrev DSs (X : Cx) (G0 : Hp) (st : List Stmt) (t : TDS) : Prop := PSs X st (upS X.K G0 t)

section
variable {X : Cx}
theorem PE.imp {e : Expr} {t t' : TE} (h : PE X e t) (f : ∀ σ H Q, t' σ H Q → t σ H Q) : PE X e t' := ⟨fun pins s σ H Q I w => h.run pins s σ H Q I (f _ _ _ w)⟩
theorem PT.imp {e : Expr} {t t' : TT} (h : PT X e t) (f : ∀ σ H Q, t' σ H Q → t σ H Q) : PT X e t' := ⟨fun pins s σ H Q I w => h.run pins s σ H Q I (f _ _ _ w)⟩
theorem PW.imp {e : Expr} {t t' : TT} (h : PW X e t) (f : ∀ σ H Q, t' σ H Q → t σ H Q) : PW X e t' := ⟨fun wh pins s σ H Q I w => h.run wh pins s σ H Q I (f _ _ _ w)⟩
theorem PA.imp {e : List Expr} {t t' : TA} (h : PA X e t) (f : ∀ σ H Q, t' σ H Q → t σ H Q) : PA X e t' := ⟨fun pos pins s σ H Q I w => h.run pos pins s σ H Q I (f _ _ _ w)⟩
theorem PS.imp {e : Stmt} {t t' : TS} (h : PS X e t) (f : ∀ D σ H, t' D σ H → t D σ H) : PS X e t' := ⟨fun pins s σ H D I w => h.run pins s σ H D I (f _ _ _ w)⟩
theorem PSs.imp {e : List Stmt} {t t' : TS} (h : PSs X e t) (f : ∀ D σ H, t' D σ H → t D σ H) : PSs X e t' := ⟨fun pins s σ H D I w => h.run pins s σ H D I (f _ _ _ w)⟩
theorem PE.or {e : Expr} {t t' : TE} (h : PE X e t) (h' : PE X e t') : PE X e (fun σ H Q => t σ H Q ∨ t' σ H Q) := ⟨fun pins s σ H Q I w => w.elim (h.run pins s σ H Q I) (h'.run pins s σ H Q I)⟩
theorem PS.or {e : Stmt} {t t' : TS} (h : PS X e t) (h' : PS X e t') : PS X e (fun D σ H => t D σ H ∨ t' D σ H) := ⟨fun pins s σ H D I w => w.elim (h.run pins s σ H D I) (h'.run pins s σ H D I)⟩
theorem PT.or {e : Expr} {t t' : TT} (h : PT X e t) (h' : PT X e t') : PT X e (fun σ H Q => t σ H Q ∨ t' σ H Q) := ⟨fun pins s σ H Q I w => w.elim (h.run pins s σ H Q I) (h'.run pins s σ H Q I)⟩
end
end DL
namespace DL
open PySem L2
def vm (S : Sto) : D → Option (List D)
  | .lst xs => some xs
  | .ref p => match S p with
    | some (.ml xs) => some xs
    | _ => none
  | _ => none
def vl (S : Sto) : D → Option (List D)
  | .scr ns => some (ns.map .int)
  | d => vm S d
def rs (S : Sto) (d : D) : D := match vm S d with
  | some xs => .lst xs
  | none => d
def newL (m : Bool) (xs : List D) (S : Sto) (P : D → Sto → Prop) : Prop := match m with
  | true => ∀ p, S p = none → P (.ref p) (su S p (.ml xs))
  | false => P (.lst xs) S
abbrev Owe (K : PySem.W.Frag) (S : Sto) (H : Hp) (P : D → Sto → Prop) (Q : VK) : Prop := ∀ d S' v H', P d S' → Nx K (wo H S) S' H' → Rep K (wo H' S') d v → Q v H'
section
variable {K : PySem.W.Frag} {G H : Hp} {S : Sto} {d : D} {v : V} {xs : List D} {vs : List V} {P : D → Sto → Prop} {Q : VK} {p : Addr}
theorem vm_rep (x : Nx K G S H) (r : Rep K (wo H S) d v) (e : vm S d = some xs) : ∃ a vs, v = .ref a ∧ H a = some (.lst vs) ∧ Reps K (wo H S) xs vs := by
  cases d with
  | lst ys =>
    cases e
    simp only [Rep] at r
    obtain ⟨a, vs, e1, q, t⟩ := r
    exact ⟨a, vs, e1, wo_le H S _ _ q, t⟩
  | ref p =>
    simp only [Rep] at r
    cases h : S p with
    | none => simp only [vm, h] at e; cases e
    | some c =>
      cases c with
      | ml ys =>
        simp only [vm, h] at e
        cases e
        obtain ⟨vs, q, t⟩ := x.ok p _ h
        exact ⟨p, vs, r, q, t⟩
      | dI _ => simp only [vm, h] at e; cases e
      | dS _ => simp only [vm, h] at e; cases e
      | ins _ _ => simp only [vm, h] at e; cases e
  | _ => cases e
theorem vl_rep (x : Nx K G S H) (r : Rep K (wo H S) d v) (e : vl S d = some xs) : ∃ a vs, v = .ref a ∧ SqL K H a vs ∧ Reps K (wo H S) xs vs := by
  have go : vm S d = some xs → ∃ a vs, v = .ref a ∧ SqL K H a vs ∧ Reps K (wo H S) xs vs := fun e => by
    obtain ⟨a, vs, h1, h2, h3⟩ := vm_rep x r e
    exact ⟨a, vs, h1, SqL.of h2, h3⟩
  cases d with
  | scr ns =>
    cases e
    simp only [Rep] at r
    obtain ⟨a, e1, q⟩ := r
    exact ⟨a, _, e1, (wo_le H S).seq q, Reps.of_ints ns⟩
  | _ => exact go e
theorem newL_ok {m : Bool} (x : Nx K G S H) (r : Reps K (wo H S) xs vs) (hp : H p = none) (h : newL m xs S P) (o : Owe K S H P Q) : Q (.ref p) (upd H p (.lst vs)) := by
  cases m with
  | false =>
    have n := x.alloc (o := .lst vs) hp
    exact o _ _ _ _ h n (by simp only [Rep]; exact ⟨p, vs, rfl, wo_new x hp, r.mono n.st⟩)
  | true =>
    have n := x.cell (c := .ml xs) (o := .lst vs) hp fun G' s => ⟨vs, upd_same, r.mono s⟩
    exact o _ _ _ _ (h p (x.free hp)) n (by simp only [Rep])
theorem newT_ok (x : Nx K G S H) (r : Reps K (wo H S) xs vs) (hp : H p = none) (h : P (.tup xs) S) (o : Owe K S H P Q) : Q (.ref p) (upd H p (.tup vs)) := by
  have n := x.alloc (o := .tup vs) hp
  exact o _ _ _ _ h n (by simp only [Rep]; exact ⟨p, vs, rfl, wo_new x hp, r.mono n.st⟩)
theorem Owe.now (o : Owe K S H P Q) (x : Nx K G S H) (h : P d S) (r : Rep K (wo H S) d v) : Q v H := o _ _ _ _ h x.refl r
end
def dVar (i : Nat) : TDE := fun ρ S P => match ρ[i]? with
  | some (some d) => P d S
  | _ => False
def dC (d : D) : TDE := fun _ S P => P d S
section
variable {X : Cx} {G0 : Hp} {pos : Pos}
theorem de_of_var {e : Expr} {i : Nat} (h : PE X e (tVar i)) : DE X G0 e (dVar i) := PE.imp h fun σ H Q ⟨ρ, S, P, st, t, o⟩ => by
  unfold dVar at t
  cases e : ρ[i]? with
  | none => rw [e] at t; exact t.elim
  | some z =>
    cases z with
    | none => rw [e] at t; exact t.elim
    | some d =>
      rw [e] at t
      obtain ⟨v, ev, r⟩ := st.env.2 i d e
      exact ⟨v, ev, o _ _ _ _ t st.refl r⟩
theorem dv (i : Nat) {x : Str} (hN : X.N[i]? = some x := by rfl) (hv : Vis X.env.scope x := by first | exact Or.inl rfl | exact Or.inr (Or.inl rfl) | exact Or.inr (Or.inr rfl)) (hd : (x == ("__debug__" : Str)) = false := by decide)
    (hcd : (x == ("__classdict__" : Str)) = false := by decide) : DE X G0 (.Name x pos) (dVar i) := de_of_var (pe_var hN hv hd hcd)
theorem de_of_C {e : Expr} {v : V} {d : D} (h : PE X e (tC v)) (r : ∀ K G, Rep K G d v) : DE X G0 e (dC d) := PE.imp h fun σ H Q ⟨ρ, S, P, st, t, o⟩ => o _ _ _ _ t st.refl (r _ _)
theorem de_int {i j pos} : DE X G0 (.Constant (.int i) j pos) (dC (.int i)) := de_of_C pe_int fun _ _ => by simp only [Rep]
theorem de_bl {b j pos} : DE X G0 (.Constant (.bool b) j pos) (dC (.bl b)) := de_of_C pe_bl fun _ _ => by simp only [Rep]
theorem de_non {j pos} : DE X G0 (.Constant .none j pos) (dC .non) := de_of_C pe_non fun _ _ => by simp only [Rep]
theorem de_str {x j pos} : DE X G0 (.Constant (.str x) j pos) (dC (.str x)) := de_of_C pe_str fun _ _ => by simp only [Rep]
theorem de_cls {x : Str} {C : Addr} (hg : Gl X x) (hm : X.mg x = some (.ref C)) (hd : (x == ("__debug__" : Str)) = false := by decide) : DE X G0 (.Name x pos) (dC (.ref C)) :=
  de_of_C (v := .ref C) (pe_glob hg hm rfl hd) fun _ _ => by simp only [Rep]
theorem de_gstr {x : Str} {z : Str} {t : Tok} (hg : Gl X x) (hm : X.mg x = some (.str z t)) (hd : (x == ("__debug__" : Str)) = false := by decide) : DE X G0 (.Name x pos) (dC (.str z)) :=
  de_of_C (v := .str z) (pe_glob hg hm ⟨t, rfl⟩ hd) fun _ _ => by simp only [Rep]
theorem de_ty {x : Str} {n : String} (hg : Gl X x) (hm : X.mg x = none) (hv : bootBuiltins x = some (.type n)) (hn : x ≠ "__name__" := by decide) (hd : (x == ("__debug__" : Str)) = false := by decide) : DE X G0 (.Name x pos) (dC (.ty n)) :=
  de_of_C (v := .ty n) (pe_bltn hg hm hv rfl hn hd) fun _ _ => by simp only [Rep]
end
abbrev R2D := D → D → Sto → (D → Sto → Prop) → Prop
def dOp (r : R2D) (ta tb : TDE) : TDE := fun ρ S P => ta ρ S fun x S1 => tb ρ S1 fun y S2 => r x y S2 P
def Lift2 (K : PySem.W.Frag) (r : R2) (r' : R2D) : Prop := ∀ x y u v G S H P Q, Nx K G S H → Rep K (wo H S) x u → Rep K (wo H S) y v → r' x y S P → Owe K S H P Q → r u v H Q
section
variable {X : Cx} {G0 : Hp} {pos : Pos} {a b : Expr} {ta tb : TDE} {r : R2} {r' : R2D}
theorem up_op (hl : Lift2 X.K r r') (σ : St) (H : Hp) (Q : VK) (h : upE X.K G0 (dOp r' ta tb) σ H Q) : tOp r (upE X.K G0 ta) (upE X.K G0 tb) σ H Q := by
  obtain ⟨ρ, S, P, st, t, o⟩ := h
  refine ⟨ρ, S, _, st, t, fun d1 S1 v1 H1 t1 n1 r1 => ⟨ρ, S1, _, st.next n1, t1, fun d2 S2 v2 H2 t2 n2 r2 => ?_⟩⟩
  exact hl d1 d2 v1 v2 _ S2 H2 P Q n2 (r1.mono n2.st) r2 t2 fun d S' v H' p n3 r3 => o _ _ _ _ p (n1.trans (n2.trans n3)) r3
theorem de_op {op : Operator} (ho : OpR X (binaryOp op) r) (hl : Lift2 X.K r r') (ha : DE X G0 a ta) (hb : DE X G0 b tb) : DE X G0 (.BinOp a op b pos) (dOp r' ta tb) :=
  PE.imp (pe_op ho ha hb) (up_op hl)
theorem de_cmp {op : CmpOp} (ho : OpR X (compareOp op) r) (hl : Lift2 X.K r r') (ha : DE X G0 a ta) (hb : DE X G0 b tb) (hm : behindInMarks op b = false) : DE X G0 (.Compare a [op] [b] pos) (dOp r' ta tb) :=
  PE.imp (pe_cmpR ho ha hb hm) (up_op hl)
def dB (t : TDE) : TDT := fun ρ S P => t ρ S fun x S1 => match x with
  | .bl c => P c S1
  | _ => False
theorem up_test {t : TDE} {tt : TE} (h : ∀ σ H Q, upE X.K G0 t σ H Q → tt σ H Q) (σ : St) (H : Hp) (Q : Bool → Hp → Prop) (g : upT X.K G0 (dB t) σ H Q) : tTest tt σ H Q := by
  obtain ⟨ρ, S, P, st, t, o⟩ := g
  refine h σ H _ ⟨ρ, S, _, st, t, fun d S1 v H1 t1 n1 r1 => ?_⟩
  cases d with
  | bl c => simp only [Rep] at r1; exact ⟨c, r1, o _ _ _ t1 n1⟩
  | _ => exact t1.elim
theorem dt_cmp {op : CmpOp} (ho : OpR X (compareOp op) r) (hl : Lift2 X.K r r') (ha : DE X G0 a ta) (hb : DE X G0 b tb) (hm : behindInMarks op b = false) : DT X G0 (.Compare a [op] [b] pos) (dB (dOp r' ta tb)) :=
  PT.imp (pt_cmpR ho ha hb hm) (up_test (up_op hl))
theorem de_ix (ho : IxR X r) (hl : Lift2 X.K r r') (ha : DE X G0 a ta) (hb : DE X G0 b tb) (hs : PlainIx b) : DE X G0 (.Subscript a b pos) (dOp r' ta tb) :=
  PE.imp (pe_ix ho ha hb hs) (up_op hl)
end
theorem Lift2.or {K : PySem.W.Frag} {r s : R2} {r' s' : R2D} (h : Lift2 K r r') (h' : Lift2 K s s') : Lift2 K (fun x y H Q => r x y H Q ∨ s x y H Q) (fun x y S P => r' x y S P ∨ s' x y S P) :=
  fun x y u v G S H P Q n ru rv t o => t.elim (fun t => .inl (h x y u v G S H P Q n ru rv t o)) fun t => .inr (h' x y u v G S H P Q n ru rv t o)
theorem Lift2.imp {K : PySem.W.Frag} {r : R2} {r' s' : R2D} (h : Lift2 K r r') (f : ∀ x y S P, s' x y S P → r' x y S P) : Lift2 K r s' :=
  fun x y u v G S H P Q n ru rv t o => h x y u v G S H P Q n ru rv (f _ _ _ _ t) o
def iiD (C : Int → Int → Prop) (g : Int → Int → D) : R2D := fun x y S P => match x, y with
  | .int i, .int j => C i j ∧ P (g i j) S
  | _, _ => False
def iiD0 (g : Int → Int → D) : R2D := fun x y S P => match x, y with
  | .int i, .int j => P (g i j) S
  | _, _ => False
theorem lift_ii {K : PySem.W.Frag} {C : Int → Int → Prop} {g : Int → Int → V} {g' : Int → Int → D} (hg : ∀ i j K G, Rep K G (g' i j) (g i j)) : Lift2 K (rI C g) (iiD C g') := by
  intro x y u v G S H P Q n ru rv t o
  cases x with
  | int i =>
    cases y with
    | int j =>
      simp only [Rep] at ru rv
      exact ⟨i, j, ru, rv, t.1, o.now n t.2 (hg _ _ _ _)⟩
    | _ => exact t.elim
  | _ => exact t.elim
theorem lift_ii0 {K : PySem.W.Frag} {g : Int → Int → V} {g' : Int → Int → D} (hg : ∀ i j K G, Rep K G (g' i j) (g i j)) : Lift2 K (rI0 g) (iiD0 g') := by
  intro x y u v G S H P Q n ru rv t o
  cases x with
  | int i =>
    cases y with
    | int j =>
      simp only [Rep] at ru rv
      exact ⟨i, j, ru, rv, o.now n t (hg _ _ _ _)⟩
    | _ => exact t.elim
  | _ => exact t.elim
def subD : R2D := iiD0 fun i j => .int (i - j)
def mulD : R2D := iiD CMul fun i j => .int (i * j)
def fdivD : R2D := iiD CDiv fun i j => .int (i / j)
def modD : R2D := iiD (fun _ j => 0 < j) fun i j => .int (i % j)
def shrD : R2D := iiD (fun _ j => 0 ≤ j) fun i j => .int (i / 2 ^ j.toNat)
def powD : R2D := iiD CPow fun i j => .int (i ^ j.toNat)
def ltI : R2D := iiD0 fun i j => .bl (decide (i < j))
def leI : R2D := iiD0 fun i j => .bl (decide (i ≤ j))
def gtI : R2D := iiD0 fun i j => .bl (decide (j < i))
def geI : R2D := iiD0 fun i j => .bl (decide (j ≤ i))
def addI : R2D := iiD0 fun i j => .int (i + j)
def catD (m : Bool) : R2D := fun x y S P => match vm S x, vm S y with
  | some xs, some ys => xs.length + ys.length ≤ sizeLine ∧ newL m (xs ++ ys) S P
  | _, _ => False
def scatD : R2D := fun x y S P => match x, y with
  | .str i, .str j => i.length + j.length ≤ sizeLine ∧ P (.str (i ++ j)) S
  | _, _ => False
def addD (m : Bool) : R2D := fun x y S P => match x with
  | .int _ => addI x y S P
  | .str _ => scatD x y S P
  | _ => catD m x y S P

theorem lift_add {K : PySem.W.Frag} {m : Bool} : Lift2 K (fun x y H Q => (rI0 (fun i j => .int (i + j)) x y H Q ∨ (∃ i j, x = .str i ∧ y = .str j ∧ i.length + j.length ≤ sizeLine ∧ Q (.str (i ++ j)) H)) ∨ rCat x y H Q) (addD m) := by
  intro x y u v G S H P Q n ru rv t o
  have cat : catD m x y S P → rCat u v H Q := fun t => by
    unfold catD at t
    cases e1 : vm S x with
    | none => rw [e1] at t; exact t.elim
    | some xs =>
      cases e2 : vm S y with
      | none => rw [e1, e2] at t; exact t.elim
      | some ys =>
        rw [e1, e2] at t
        obtain ⟨a, vs, rfl, ha, r1⟩ := vm_rep n ru e1
        obtain ⟨b, us, rfl, hb, r2⟩ := vm_rep n rv e2
        exact ⟨a, b, vs, us, rfl, rfl, ha, hb, by rw [← r1.len, ← r2.len]; exact t.1, fun p hp => newL_ok n (r1.app r2) hp t.2 o⟩
  cases x with
  | int i => exact .inl (.inl (lift_ii0 (g' := fun i j => D.int (i + j)) (fun _ _ _ _ => by simp only [Rep]) _ y u v G S H P Q n ru rv t o))
  | str i =>
    cases y with
    | str j =>
      simp only [Rep] at ru rv
      exact .inl (.inr ⟨i, j, ru, rv, t.1, o.now n t.2 (by simp only [Rep])⟩)
    | _ => exact t.elim
  | _ => exact .inr (cat t)
section
variable {X : Cx} {G0 : Hp} {pos : Pos} {a b : Expr} {ta tb : TDE}
theorem de_add (m : Bool) (ha : DE X G0 a ta) (hb : DE X G0 b tb) : DE X G0 (.BinOp a .Add b pos) (dOp (addD m) ta tb) := de_op ((op_add.or op_add_str).or op_cat) lift_add ha hb
theorem de_sub (ha : DE X G0 a ta) (hb : DE X G0 b tb) : DE X G0 (.BinOp a .Sub b pos) (dOp subD ta tb) := de_op op_sub (lift_ii0 fun _ _ _ _ => by simp only [Rep]) ha hb
theorem de_mul (ha : DE X G0 a ta) (hb : DE X G0 b tb) : DE X G0 (.BinOp a .Mult b pos) (dOp mulD ta tb) := de_op op_mul (lift_ii fun _ _ _ _ => by simp only [Rep]) ha hb
theorem de_fdiv (ha : DE X G0 a ta) (hb : DE X G0 b tb) : DE X G0 (.BinOp a .FloorDiv b pos) (dOp fdivD ta tb) := de_op op_fdiv (lift_ii fun _ _ _ _ => by simp only [Rep]) ha hb
theorem de_mod (ha : DE X G0 a ta) (hb : DE X G0 b tb) : DE X G0 (.BinOp a .Mod b pos) (dOp modD ta tb) := de_op op_mod (lift_ii fun _ _ _ _ => by simp only [Rep]) ha hb
theorem de_shr (ha : DE X G0 a ta) (hb : DE X G0 b tb) : DE X G0 (.BinOp a .RShift b pos) (dOp shrD ta tb) := de_op op_shr (lift_ii fun _ _ _ _ => by simp only [Rep]) ha hb
theorem de_pow (ha : DE X G0 a ta) (hb : DE X G0 b tb) : DE X G0 (.BinOp a .Pow b pos) (dOp powD ta tb) := de_op op_pow (lift_ii fun _ _ _ _ => by simp only [Rep]) ha hb
theorem de_lt (ha : DE X G0 a ta) (hb : DE X G0 b tb) : DE X G0 (.Compare a [.Lt] [b] pos) (dOp ltI ta tb) := de_cmp op_lt (lift_ii0 fun _ _ _ _ => by simp only [Rep]) ha hb (nomark _)
theorem dt_lt (ha : DE X G0 a ta) (hb : DE X G0 b tb) : DT X G0 (.Compare a [.Lt] [b] pos) (dB (dOp ltI ta tb)) := dt_cmp op_lt (lift_ii0 fun _ _ _ _ => by simp only [Rep]) ha hb (nomark _)
theorem de_le (ha : DE X G0 a ta) (hb : DE X G0 b tb) : DE X G0 (.Compare a [.LtE] [b] pos) (dOp leI ta tb) := de_cmp op_le (lift_ii0 fun _ _ _ _ => by simp only [Rep]) ha hb (nomark _)
theorem dt_le (ha : DE X G0 a ta) (hb : DE X G0 b tb) : DT X G0 (.Compare a [.LtE] [b] pos) (dB (dOp leI ta tb)) := dt_cmp op_le (lift_ii0 fun _ _ _ _ => by simp only [Rep]) ha hb (nomark _)
theorem de_gt (ha : DE X G0 a ta) (hb : DE X G0 b tb) : DE X G0 (.Compare a [.Gt] [b] pos) (dOp gtI ta tb) := de_cmp op_gt (lift_ii0 fun _ _ _ _ => by simp only [Rep]) ha hb (nomark _)
theorem dt_gt (ha : DE X G0 a ta) (hb : DE X G0 b tb) : DT X G0 (.Compare a [.Gt] [b] pos) (dB (dOp gtI ta tb)) := dt_cmp op_gt (lift_ii0 fun _ _ _ _ => by simp only [Rep]) ha hb (nomark _)
theorem de_ge (ha : DE X G0 a ta) (hb : DE X G0 b tb) : DE X G0 (.Compare a [.GtE] [b] pos) (dOp geI ta tb) := de_cmp op_ge (lift_ii0 fun _ _ _ _ => by simp only [Rep]) ha hb (nomark _)
theorem dt_ge (ha : DE X G0 a ta) (hb : DE X G0 b tb) : DT X G0 (.Compare a [.GtE] [b] pos) (dB (dOp geI ta tb)) := dt_cmp op_ge (lift_ii0 fun _ _ _ _ => by simp only [Rep]) ha hb (nomark _)
def dIsN (ta : TDE) : TDE := fun ρ S P => ta ρ S fun x S1 => match x with
  | .non => P (.bl true) S1
  | _ => P (.bl false) S1
def dNotN (ta : TDE) : TDE := fun ρ S P => ta ρ S fun x S1 => match x with
  | .non => P (.bl false) S1
  | _ => P (.bl true) S1
def isN : D → Bool
  | .non => true
  | _ => false
theorem isN_rep {K : PySem.W.Frag} {G : Hp} {d : D} {v : V} (r : Rep K G d v) : decide (v = .non) = isN d := by
  cases d with
  | non => simp only [Rep] at r; subst r; rfl
  | lst ds => simp only [Rep] at r; obtain ⟨a, vs, rfl, _⟩ := r; rfl
  | tup ds => simp only [Rep] at r; obtain ⟨a, vs, rfl, _⟩ := r; rfl
  | scr ns => simp only [Rep] at r; obtain ⟨a, rfl, _⟩ := r; rfl
  | _ => simp only [Rep] at r; subst r; rfl
theorem up_isN (σ : St) (H : Hp) (Q : VK) (h : upE X.K G0 (dIsN ta) σ H Q) : tIsN (upE X.K G0 ta) σ H Q :=
  let ⟨ρ, S, P, st, t, o⟩ := h
  ⟨ρ, S, _, st, t, fun d S1 v H1 t1 n1 r1 => by
    show Q (V.bl (decide (v = V.non))) H1
    rw [isN_rep r1]
    refine o (.bl (isN d)) S1 _ H1 ?_ n1 (by simp only [Rep])
    cases d <;> exact t1⟩
theorem up_notN (σ : St) (H : Hp) (Q : VK) (h : upE X.K G0 (dNotN ta) σ H Q) : tNotN (upE X.K G0 ta) σ H Q :=
  let ⟨ρ, S, P, st, t, o⟩ := h
  ⟨ρ, S, _, st, t, fun d S1 v H1 t1 n1 r1 => by
    show Q (V.bl (!decide (v = V.non))) H1
    rw [isN_rep r1]
    refine o (.bl (!isN d)) S1 _ H1 ?_ n1 (by simp only [Rep])
    cases d <;> exact t1⟩
theorem de_isN {j pos'} (ha : DE X G0 a ta) : DE X G0 (.Compare a [.Is] [.Constant .none j pos'] pos) (dIsN ta) := PE.imp (pe_cmp (pc_isN ha) rfl) up_isN
theorem de_notN {j pos'} (ha : DE X G0 a ta) : DE X G0 (.Compare a [.IsNot] [.Constant .none j pos'] pos) (dNotN ta) := PE.imp (pe_cmp (pc_notN ha) rfl) up_notN
theorem dt_isN {j pos'} (ha : DE X G0 a ta) : DT X G0 (.Compare a [.Is] [.Constant .none j pos'] pos) (dB (dIsN ta)) := PT.imp (pt_cmp (pc_isN ha) rfl) (up_test up_isN)
theorem dt_notN {j pos'} (ha : DE X G0 a ta) : DT X G0 (.Compare a [.IsNot] [.Constant .none j pos'] pos) (dB (dNotN ta)) := PT.imp (pt_cmp (pc_notN ha) rfl) (up_test up_notN)
def dNeg (ta : TDE) : TDE := fun ρ S P => ta ρ S fun x S1 => match x with
  | .int i => P (.int (-i)) S1
  | _ => False
theorem de_neg (ha : DE X G0 a ta) : DE X G0 (.UnaryOp .USub a pos) (dNeg ta) := PE.imp (pe_un un_neg ha) fun σ H Q ⟨ρ, S, P, st, t, o⟩ =>
  ⟨ρ, S, _, st, t, fun d S1 v H1 t1 n1 r1 => by
    cases d with
    | int i =>
      simp only [Rep] at r1
      exact ⟨i, r1, o _ _ _ _ t1 n1 (by simp only [Rep])⟩
    | _ => exact t1.elim⟩
end
mutual
def toP : D → PyData
  | .bl b => .bool b
  | .int i => .int i
  | .str x => .str x
  | .lst xs => .list (toPs xs)
  | .tup xs => .tuple (toPs xs)
  | _ => .none
def toPs : List D → List PyData
  | [] => []
  | d :: ds => toP d :: toPs ds
end
mutual
def pureD : D → Bool
  | .ref _ => false
  | .ty _ => false
  | .scr _ => false
  | .lst xs => pureDs xs
  | .tup xs => pureDs xs
  | _ => true
def pureDs : List D → Bool
  | [] => true
  | d :: ds => pureD d && pureDs ds
end
mutual
theorem Rep.dp {K : PySem.W.Frag} {G H : Hp} (s : Same G H) : ∀ (d : D) (v : V), pureD d = true → Rep K G d v → Dp K H v (toP d)
  | .non, v, _, r => by simp only [Rep] at r; subst r; simp only [toP]; exact .non
  | .bl b, v, _, r => by simp only [Rep] at r; subst r; simp only [toP]; exact .bl b
  | .int i, v, _, r => by simp only [Rep] at r; subst r; simp only [toP]; exact .int i
  | .str x, v, _, r => by simp only [Rep] at r; subst r; simp only [toP]; exact .str x
  | .lst ds, v, p, r => by
    simp only [Rep] at r
    simp only [pureD] at p
    obtain ⟨a, vs, rfl, q, t⟩ := r
    simp only [toP]
    exact .lst (SqL.of (s _ _ q)) (Reps.dp s ds vs p t)
  | .tup ds, v, p, r => by
    simp only [Rep] at r
    simp only [pureD] at p
    obtain ⟨a, vs, rfl, q, t⟩ := r
    simp only [toP]
    exact .tup (SqT.of (s _ _ q)) (Reps.dp s ds vs p t)
  | .ref a, v, p, r => by simp only [pureD] at p; cases p
  | .ty n, v, p, r => by simp only [pureD] at p; cases p
  | .scr ns, v, p, r => by simp only [pureD] at p; cases p
theorem Reps.dp {K : PySem.W.Frag} {G H : Hp} (s : Same G H) : ∀ (ds : List D) (vs : List V), pureDs ds = true → Reps K G ds vs → DpAll K H vs (toPs ds)
  | [], vs, _, r => by simp only [Reps] at r; subst r; simp only [toPs]; exact .nil
  | d :: ds, vs, p, r => by
    simp only [Reps] at r
    simp only [pureDs, Bool.and_eq_true] at p
    obtain ⟨v, t, rfl, q, s'⟩ := r
    simp only [toPs]
    exact .cons (Rep.dp s d v p.1 q) (Reps.dp s ds t p.2 s')
end
def okD (d : D) : Bool := pureD d && SeqAt.shaped (toP d)
def dEq (a b : D) : Bool := PyData.eqv (toP a) (toP b)
theorem rs_dp {K : PySem.W.Frag} {G H : Hp} {S : Sto} {d : D} {v : V} (n : Nx K G S H) (r : Rep K (wo H S) d v) (p : pureD (rs S d) = true) : Dp K H v (toP (rs S d)) := by
  unfold rs at p ⊢
  cases e : vm S d with
  | none =>
    rw [e] at p
    exact Rep.dp (wo_le H S) d v p r
  | some xs =>
    rw [e] at p
    obtain ⟨a, vs, rfl, ha, t⟩ := vm_rep n r e
    simp only [pureD] at p
    simp only [toP]
    exact .lst (SqL.of ha) (Reps.dp (wo_le H S) xs vs p t)
def eqR (neg : Bool) : R2D := fun x y S P => okD (rs S x) = true ∧ okD (rs S y) = true ∧ P (.bl (neg ^^ dEq (rs S x) (rs S y))) S
theorem okD_and {d : D} (h : okD d = true) : pureD d = true ∧ SeqAt.shaped (toP d) = true := Bool.and_eq_true_iff.mp h
theorem lift_eq {K : PySem.W.Frag} : Lift2 K (rEqD K) (eqR false) := by
  intro x y u v G S H P Q n ru rv t o
  obtain ⟨h1, h2, t⟩ := t
  refine ⟨_, _, rs_dp n ru (okD_and h1).1, rs_dp n rv (okD_and h2).1, (okD_and h1).2, (okD_and h2).2, ?_⟩
  refine o.now n t ?_
  simp only [Rep, Bool.false_bne]; rfl
theorem lift_ne {K : PySem.W.Frag} : Lift2 K (rNeD K) (eqR true) := by
  intro x y u v G S H P Q n ru rv t o
  obtain ⟨h1, h2, t⟩ := t
  refine ⟨_, _, rs_dp n ru (okD_and h1).1, rs_dp n rv (okD_and h2).1, (okD_and h1).2, (okD_and h2).2, ?_⟩
  refine o.now n t ?_
  simp only [Rep, Bool.true_bne]; rfl
section
variable {X : Cx} {G0 : Hp} {pos : Pos} {a b : Expr} {ta tb : TDE} {k : Nat}
theorem de_eq (hr : Room k X.A) (ha : DE X G0 a ta) (hb : DE X G0 b tb) : DE X G0 (.Compare a [.Eq] [b] pos) (dOp (eqR false) ta tb) := de_cmp (op_eqD hr.units) lift_eq ha hb (nomark _)
theorem dt_eq (hr : Room k X.A) (ha : DE X G0 a ta) (hb : DE X G0 b tb) : DT X G0 (.Compare a [.Eq] [b] pos) (dB (dOp (eqR false) ta tb)) := dt_cmp (op_eqD hr.units) lift_eq ha hb (nomark _)
theorem de_ne (hr : Room k X.A) (ha : DE X G0 a ta) (hb : DE X G0 b tb) : DE X G0 (.Compare a [.NotEq] [b] pos) (dOp (eqR true) ta tb) := de_cmp (op_neD hr.units) lift_ne ha hb (nomark _)
theorem dt_ne (hr : Room k X.A) (ha : DE X G0 a ta) (hb : DE X G0 b tb) : DT X G0 (.Compare a [.NotEq] [b] pos) (dB (dOp (eqR true) ta tb)) := dt_cmp (op_neD hr.units) lift_ne ha hb (nomark _)
end
end DL
namespace DL
open PySem L2
def ORep (K : PySem.W.Frag) (G : Hp) : Option D → Option V → Prop
  | some d, some v => Rep K G d v
  | none, none => True
  | _, _ => False
theorem ORep.isSome {K : PySem.W.Frag} {G : Hp} : ∀ {o : Option D} {u : Option V}, ORep K G o u → u.isSome = o.isSome
  | some _, some _, _ => rfl
  | none, none, _ => rfl
theorem ORep.some_of {K : PySem.W.Frag} {G : Hp} {d : D} : ∀ {u : Option V}, ORep K G (some d) u → ∃ v, u = some v ∧ Rep K G d v
  | some v, h => ⟨v, rfl, h⟩
  | none, h => h.elim
theorem ORep.getD {K : PySem.W.Frag} {G : Hp} {d : D} {v : V} : ∀ {o : Option D} {u : Option V}, ORep K G o u → Rep K G d v → Rep K G (o.getD d) (u.getD v)
  | some _, some _, h, _ => h
  | none, none, _, h => h
section
variable {κ κ' : Type} [DecidableEq κ] [DecidableEq κ']
def dget (kvs : List (κ × D)) (k : κ) : Option D := (kvs.find? fun p => decide (p.1 = k)).map (·.2)
def dput (kvs : List (κ × D)) (k : κ) (d : D) : List (κ × D) :=
  if kvs.any (fun p => decide (p.1 = k)) then kvs.map (fun p => if p.1 = k then (p.1, d) else p) else kvs ++ [(k, d)]
def ddrop (kvs : List (κ × D)) (k : κ) : List (κ × D) := kvs.filter fun p => decide (p.1 ≠ k)
variable {K : PySem.W.Frag} {G : Hp} {f : κ → κ'}
theorem zip_get (hf : ∀ a b, f a = f b → a = b) (k : κ) : ∀ {kvs : List (κ × D)} {vs : List V}, Reps K G (kvs.map (·.2)) vs →
    ORep K G (dget kvs k) (valV ((kvs.map fun p => f p.1).zip vs) (f k))
  | [], vs, r => True.intro
  | (a, d) :: kvs, vs, r => by
    simp only [List.map_cons, Reps] at r
    obtain ⟨v, t, rfl, q, s⟩ := r
    simp only [List.map_cons, List.zip_cons_cons]
    by_cases e : a = k
    · have e1 : dget ((a, d) :: kvs) k = some d := by simp [dget, List.find?_cons, e]
      have e2 : valV ((f a, v) :: (kvs.map fun p => f p.1).zip t) (f k) = some v := valV_pos (p := (f a, v)) (by rw [e])
      rw [e1, e2]
      exact q
    · have e1 : dget ((a, d) :: kvs) k = dget kvs k := by simp [dget, List.find?_cons, e]
      have e2 : valV ((f a, v) :: (kvs.map fun p => f p.1).zip t) (f k) = valV ((kvs.map fun p => f p.1).zip t) (f k) := valV_neg (p := (f a, v)) fun z => e (hf _ _ z)
      rw [e1, e2]
      exact zip_get hf k s
theorem zip_isSome (hf : ∀ a b, f a = f b → a = b) (k : κ) {kvs : List (κ × D)} {vs : List V} (r : Reps K G (kvs.map (·.2)) vs) : (valV ((kvs.map fun p => f p.1).zip vs) (f k)).isSome = (dget kvs k).isSome :=
  (zip_get hf k r).isSome
theorem any_get (k : κ) : ∀ kvs : List (κ × D), (kvs.any fun p => decide (p.1 = k)) = (dget kvs k).isSome
  | [] => rfl
  | (a, d) :: r => by
    have ih := any_get k r
    by_cases e : a = k
    · simp [dget, List.find?_cons, e]
    · have e1 : dget ((a, d) :: r) k = dget r k := by simp [dget, List.find?_cons, e]
      rw [e1, List.any_cons, ← ih]
      simp [e]
theorem zip_map (hf : ∀ a b, f a = f b → a = b) (k : κ) {d : D} {v : V} (q : Rep K G d v) : ∀ {kvs : List (κ × D)} {vs : List V}, Reps K G (kvs.map (·.2)) vs →
    ∃ us, ((kvs.map fun p => f p.1).zip vs).map (fun kv => if kv.1 = f k then (kv.1, v) else kv) = (((kvs.map fun p => if p.1 = k then (p.1, d) else p)).map fun p => f p.1).zip us ∧ Reps K G ((kvs.map fun p => if p.1 = k then (p.1, d) else p).map (·.2)) us
  | [], vs, r => by
    simp only [List.map_nil, Reps] at r; subst r
    exact ⟨[], rfl, Reps.nil⟩
  | (a, d') :: kvs, vs, r => by
    simp only [List.map_cons, Reps] at r
    obtain ⟨v', t, rfl, q', s⟩ := r
    obtain ⟨us, e, ru⟩ := zip_map hf k q s
    by_cases h : a = k
    · subst h
      refine ⟨v :: us, ?_, ?_⟩
      · simp only [List.map_cons, List.zip_cons_cons, if_true, e]
      · simp only [List.map_cons, if_true]
        exact Reps.cons q ru
    · have h' : ¬ f a = f k := fun z => h (hf _ _ z)
      refine ⟨v' :: us, ?_, ?_⟩
      · simp only [List.map_cons, List.zip_cons_cons, if_neg h, if_neg h', e]
      · simp only [List.map_cons, if_neg h]
        exact Reps.cons q' ru
theorem zip_put (hf : ∀ a b, f a = f b → a = b) (k : κ) {d : D} {v : V} (q : Rep K G d v) {kvs : List (κ × D)} {vs : List V} (r : Reps K G (kvs.map (·.2)) vs) :
    ∃ us, putK ((kvs.map fun p => f p.1).zip vs) (f k) v = ((dput kvs k d).map fun p => f p.1).zip us ∧ Reps K G ((dput kvs k d).map (·.2)) us := by
  unfold putK dput
  rw [valV_any, zip_isSome hf k r, any_get]
  cases e : (dget kvs k).isSome with
  | true =>
    simp only [if_true]
    exact zip_map hf k q r
  | false =>
    have hl := r.len
    rw [List.length_map] at hl
    refine ⟨vs ++ [v], ?_, ?_⟩
    · simp only [Bool.false_eq_true, if_false, List.map_append, List.map_cons, List.map_nil]
      rw [List.zip_append (by rw [List.length_map]; exact hl)]
      rfl
    · simp only [Bool.false_eq_true, if_false, List.map_append, List.map_cons, List.map_nil]
      exact r.app (Reps.cons q Reps.nil)
theorem dput_len (kvs : List (κ × D)) (k : κ) (d : D) : (dput kvs k d).length ≤ kvs.length + 1 := by
  unfold dput
  split
  · rw [List.length_map]; omega
  · rw [List.length_append]; simp
end
theorem inl_inj : ∀ a b : List Int, (a.map Sum.inl : List Key) = b.map Sum.inl → a = b := by
  intro a
  induction a with
  | nil => intro b h; cases b with | nil => rfl | cons _ _ => simp at h
  | cons x xs ih =>
    intro b h
    cases b with
    | nil => simp at h
    | cons y ys =>
      simp only [List.map_cons, List.cons.injEq, Sum.inl.injEq] at h
      rw [h.1, ih _ h.2]
theorem inr_inj : ∀ a b : Str, (Sum.inr a : Key) = Sum.inr b → a = b := fun a b h => Sum.inr.inj h
def kInts : List D → Option (List Int)
  | [] => some []
  | .int i :: r => (kInts r).map (i :: ·)
  | _ => none
def kI : D → Option (List Int)
  | .tup xs => kInts xs
  | _ => none
theorem kInts_map : ∀ ns : List Int, kInts (ns.map D.int) = some ns
  | [] => rfl
  | n :: r => by simp only [List.map_cons, kInts, kInts_map r, Option.map_some]
theorem kInts_eq : ∀ {xs : List D} {ns : List Int}, kInts xs = some ns → xs = ns.map D.int
  | [], ns, h => by cases h; rfl
  | .int i :: r, ns, h => by
    simp only [kInts] at h
    cases e : kInts r with
    | none => rw [e] at h; cases h
    | some t =>
      rw [e] at h; cases h
      rw [List.map_cons, kInts_eq e]
  | .non :: r, ns, h => by cases h
  | .bl _ :: r, ns, h => by cases h
  | .str _ :: r, ns, h => by cases h
  | .lst _ :: r, ns, h => by cases h
  | .tup _ :: r, ns, h => by cases h
  | .ref _ :: r, ns, h => by cases h
  | .ty _ :: r, ns, h => by cases h
  | .scr _ :: r, ns, h => by cases h
theorem kI_rep {K : PySem.W.Frag} {G H : Hp} (s : Same G H) {d : D} {v : V} {ns : List Int} (r : Rep K G d v) (e : kI d = some ns) : ∃ b, v = .ref b ∧ H b = some (.tup ((ns.map Sum.inl : List Key).map kV)) := by
  cases d with
  | tup xs =>
    have e' := kInts_eq (xs := xs) e
    subst e'
    simp only [Rep] at r
    obtain ⟨b, vs, rfl, q, t⟩ := r
    have := Reps.ints t
    subst this
    refine ⟨b, rfl, ?_⟩
    rw [s _ _ q, List.map_map]
    rfl
  | _ => cases e
def dgetS (S : Sto) (x y : D) : Option (Option D) := match x with
  | .ref p => match S p with
    | some (.dI kvs) => (kI y).map fun k => dget kvs k
    | some (.dS kvs) => match y with
      | .str z => some (dget kvs z)
      | _ => none
    | _ => none
  | _ => none
theorem dgetS_ok {K : PySem.W.Frag} {G H : Hp} {S : Sto} {x y : D} {u v : V} {o : Option D} (n : Nx K G S H) (ru : Rep K (wo H S) x u) (rv : Rep K (wo H S) y v) (e : dgetS S x y = some o) :
    ∃ a ov, u = .ref a ∧ DGet H a v ov ∧ IsD H a ∧ ORep K (wo H S) o ov := by
  cases x with
  | ref p =>
    simp only [Rep] at ru
    simp only [dgetS] at e
    cases h : S p with
    | none => rw [h] at e; cases e
    | some c =>
      rw [h] at e
      cases c with
      | ml _ => cases e
      | ins _ _ => cases e
      | dI kvs =>
        dsimp only at e
        cases ek : kI y with
        | none => rw [ek] at e; cases e
        | some k =>
          rw [ek] at e
          cases e
          obtain ⟨vs, hH, r⟩ := n.ok p _ h
          obtain ⟨b, rfl, hb⟩ := kI_rep (wo_le H S) rv ek
          exact ⟨p, _, ru, DGet.t hH hb, .inr ⟨_, .inl hH⟩, zip_get (f := fun k : List Int => (k.map Sum.inl : List Key)) inl_inj k r⟩
      | dS kvs =>
        dsimp only at e
        cases y with
        | str z =>
          cases e
          obtain ⟨vs, hH, r⟩ := n.ok p _ h
          simp only [Rep] at rv
          subst rv
          exact ⟨p, _, ru, DGet.k (k := Sum.inr z) hH, .inl ⟨_, .inl hH⟩, zip_get (f := fun k : Str => (Sum.inr k : Key)) inr_inj z r⟩
        | _ => cases e
  | _ => cases e
section
variable {X : Cx}
theorem ix_dict (hu : X.A.units + 1 < cLine) : IxR X (fun x y H Q => ∃ a v, x = .ref a ∧ DGet H a y (some v) ∧ Q v H) := by
  intro value slice pins s σ H x y v u Q I rx ry h hs
  obtain ⟨a, z, rfl, g, q⟩ := h
  cases (show v = Value.ref a from rx)
  exact PyProof.Rows.tail_any (dict_typeIs I g) PySem.F.slot_dict_getitem.lookup (d_getItem hu I g ry fun w' s3 I3 rw' => ⟨z, H, I3, rw', q⟩) hs
theorem op_in_dict (hu : X.A.units + 1 < cLine) : OpR X (compareOp .In) (fun x y H Q => ∃ a o, y = .ref a ∧ DGet H a x o ∧ Q (.bl o.isSome) H) := by
  intro pins s σ H x y v u Q I rx ry h
  obtain ⟨a, o, rfl, g, q⟩ := h
  cases (show u = Value.ref a from ry)
  exact d_in hu I g rx fun s' I' => ⟨.bl o.isSome, H, I', rfl, q⟩
theorem op_notIn_dict (hu : X.A.units + 1 < cLine) : OpR X (compareOp .NotIn) (fun x y H Q => ∃ a o, y = .ref a ∧ DGet H a x o ∧ Q (.bl (!o.isSome)) H) := by
  intro pins s σ H x y v u Q I rx ry h
  obtain ⟨a, o, rfl, g, q⟩ := h
  cases (show u = Value.ref a from ry)
  exact d_notIn hu I g rx fun s' I' => ⟨.bl (!o.isSome), H, I', rfl, q⟩
theorem set_dict (hu : X.A.units + 1 < cLine) : PSet X (fun o i v H Q => ∃ a H', o = .ref a ∧ DPut H a i v H' ∧ Q H') := by
  intro pins s σ H o i v ov iv u Q I ro ri rv h
  obtain ⟨a, H', rfl, g, q⟩ := h
  cases (show ov = Value.ref a from ro)
  exact d_setItem hu I g ri rv fun s' I' => ⟨H', I', q⟩
theorem PSet.or {t t' : TSet} (h : PSet X t) (h' : PSet X t') : PSet X (fun o i v H Q => t o i v H Q ∨ t' o i v H Q) := by
  intro pins s σ H o i v ov iv u Q I ro ri rv q
  rcases q with q | q
  · exact h pins s σ H o i v ov iv u Q I ro ri rv q
  · exact h' pins s σ H o i v ov iv u Q I ro ri rv q
end
def ixL (xs : List D) (y : D) (S : Sto) (P : D → Sto → Prop) : Prop := match y with
  | .int i => match atI xs i with
    | some d => P d S
    | none => False
  | _ => False
def ixT (z : Str) (y : D) (S : Sto) (P : D → Sto → Prop) : Prop := match y with
  | .int i => z.length ≤ sizeLine ∧ match atI z.cps.toList i with
    | some c => P (.str ⟨#[c]⟩) S
    | none => False
  | _ => False
def ixK (o : Option (Option D)) (S : Sto) (P : D → Sto → Prop) : Prop := match o with
  | some (some d) => P d S
  | _ => False
def ixLK (l : Option (List D)) (x y : D) (S : Sto) (P : D → Sto → Prop) : Prop := match l with
  | some xs => ixL xs y S P
  | none => ixK (dgetS S x y) S P
def ixD : R2D := fun x y S P => match x with
  | .tup xs => ixL xs y S P
  | .str z => ixT z y S P
  | x => ixLK (vl S x) x y S P
theorem Reps.at {K : PySem.W.Frag} {G : Hp} {ds : List D} {vs : List V} {i : Int} {d : D} (r : Reps K G ds vs) (e : atI ds i = some d) : ∃ v, atI vs i = some v ∧ Rep K G d v := by
  unfold atI at e ⊢
  rw [← r.len]
  cases h : ixN ds.length i with
  | none => rw [h] at e; cases e
  | some j =>
    rw [h] at e
    exact r.get e
theorem ixL_ok {ds : List D} {y : D} {S : Sto} {P : D → Sto → Prop} (t : ixL ds y S P) : ∃ i d, y = .int i ∧ atI ds i = some d ∧ P d S := by
  cases y with
  | int i =>
    simp only [ixL] at t
    cases h : atI ds i with
    | none => rw [h] at t; exact t.elim
    | some d => rw [h] at t; exact ⟨i, d, rfl, h, t⟩
  | _ => exact t.elim
theorem ixT_ok {z : Str} {y : D} {S : Sto} {P : D → Sto → Prop} (t : ixT z y S P) : ∃ i c, y = .int i ∧ z.length ≤ sizeLine ∧ atI z.cps.toList i = some c ∧ P (.str ⟨#[c]⟩) S := by
  cases y with
  | int i =>
    simp only [ixT] at t
    cases h : atI z.cps.toList i with
    | none => rw [h] at t; exact t.2.elim
    | some c => rw [h] at t; exact ⟨i, c, rfl, t.1, h, t.2⟩
  | _ => exact t.elim
theorem lift_ix {K : PySem.W.Frag} : Lift2 K (fun x y H Q => rIx K x y H Q ∨ ∃ a v, x = .ref a ∧ DGet H a y (some v) ∧ Q v H) ixD := by
  intro x y u v G S H P Q n ru rv t o
  have lk : ixLK (vl S x) x y S P → (rIx K u v H Q ∨ ∃ a w, u = .ref a ∧ DGet H a v (some w) ∧ Q w H) := fun t => by
    cases e : vl S x with
    | some xs =>
      rw [e] at t
      obtain ⟨i, d, rfl, h, p⟩ := ixL_ok t
      obtain ⟨a, vs, rfl, q, r⟩ := vl_rep n ru e
      obtain ⟨w, hw, rw'⟩ := r.at h
      simp only [Rep] at rv
      exact .inl (.inl ⟨a, vs, i, w, rfl, rv, q, hw, o.now n p rw'⟩)
    | none =>
      rw [e] at t
      simp only [ixLK] at t
      cases e : dgetS S x y with
      | none => rw [e] at t; exact t.elim
      | some z =>
        cases z with
        | none => rw [e] at t; exact t.elim
        | some d =>
          rw [e] at t
          obtain ⟨a, ov, rfl, g, _, r⟩ := dgetS_ok n ru rv e
          obtain ⟨w, rfl, rw'⟩ := r.some_of
          exact .inr ⟨a, w, rfl, g, o.now n t rw'⟩
  cases x with
  | tup xs =>
    obtain ⟨i, d, rfl, h, p⟩ := ixL_ok (ds := xs) t
    simp only [Rep] at ru rv
    obtain ⟨a, vs, rfl, q, r⟩ := ru
    obtain ⟨w, hw, rw'⟩ := r.at h
    exact .inl (.inr (.inl ⟨a, vs, i, w, rfl, rv, SqT.of (wo_le _ _ _ _ q), hw, o.now n p rw'⟩))
  | str z =>
    obtain ⟨i, c, rfl, hl, h, p⟩ := ixT_ok (z := z) t
    simp only [Rep] at ru rv
    exact .inl (.inr (.inr ⟨z, i, c, ru, rv, hl, h, o.now n p (by simp only [Rep])⟩))
  | _ => exact lk t
def inS (neg : Bool) (x : D) (j : Str) (S : Sto) (P : D → Sto → Prop) : Prop := match x with
  | .str i => P (.bl (neg ^^ !(Builtin.Str.occurrences j i 0 j.length 1).isEmpty)) S
  | _ => False
def inK (neg : Bool) (o : Option (Option D)) (S : Sto) (P : D → Sto → Prop) : Prop := match o with
  | some o => P (.bl (neg ^^ o.isSome)) S
  | none => False
def inL (neg : Bool) (l : Option (List D)) (x y : D) (S : Sto) (P : D → Sto → Prop) : Prop := match l with
  | some ys => okD (rs S x) = true ∧ okD (.lst ys) = true ∧ P (.bl (neg ^^ ys.any fun z => dEq z (rs S x))) S
  | none => inK neg (dgetS S y x) S P
def inR (neg : Bool) : R2D := fun x y S P => match y with
  | .str j => inS neg x j S P
  | y => inL neg (vm S y) x y S P
theorem toPs_any (x : D) : ∀ ys : List D, ((toPs ys).any fun z => PyData.eqv z (toP x)) = ys.any fun z => dEq z x
  | [] => rfl
  | y :: ys => by simp only [toPs, List.any_cons, toPs_any x ys]; rfl
theorem lift_in {K : PySem.W.Frag} (neg : Bool) (rl rd rstr : R2)
    (hl : rl = fun x y H Q => ∃ d ds, Dp K H x d ∧ Dp K H y (.list ds) ∧ SeqAt.shaped d = true ∧ SeqAt.shaped (.list ds) = true ∧ Q (.bl (neg ^^ ds.any fun z => PyData.eqv z d)) H)
    (hd : rd = fun x y H Q => ∃ a o, y = .ref a ∧ DGet H a x o ∧ Q (.bl (neg ^^ o.isSome)) H)
    (hs : rstr = fun x y H Q => ∃ i j, x = .str i ∧ y = .str j ∧ Q (.bl (neg ^^ !(Builtin.Str.occurrences j i 0 j.length 1).isEmpty)) H) :
    Lift2 K (fun x y H Q => (rl x y H Q ∨ rd x y H Q) ∨ rstr x y H Q) (inR neg) := by
  subst hl hd hs
  intro x y u v G S H P Q n ru rv t o
  have main : inL neg (vm S y) x y S P → ((∃ d ds, Dp K H u d ∧ Dp K H v (.list ds) ∧ SeqAt.shaped d = true ∧ SeqAt.shaped (.list ds) = true ∧ Q (.bl (neg ^^ ds.any fun z => PyData.eqv z d)) H) ∨ ∃ a o, v = .ref a ∧ DGet H a u o ∧ Q (.bl (neg ^^ o.isSome)) H) := fun t => by
    cases e : vm S y with
    | some ys =>
      rw [e] at t
      obtain ⟨h1, h2, t⟩ := t
      obtain ⟨a, vs, rfl, ha, r⟩ := vm_rep n rv e
      have o2 := okD_and h2
      simp only [pureD, toP] at o2
      refine .inl ⟨_, _, rs_dp n ru (okD_and h1).1, Dp.lst (SqL.of ha) (Reps.dp (wo_le H S) ys vs o2.1 r), (okD_and h1).2, o2.2, ?_⟩
      rw [toPs_any]
      exact o.now n t (by simp only [Rep])
    | none =>
      rw [e] at t
      simp only [inL] at t
      cases e2 : dgetS S y x with
      | none => rw [e2] at t; exact t.elim
      | some z =>
        rw [e2] at t
        obtain ⟨a, ov, rfl, g, _, r⟩ := dgetS_ok n rv ru e2
        refine .inr ⟨a, ov, rfl, g, ?_⟩
        rw [r.isSome]
        exact o.now n t (by simp only [Rep])
  cases y with
  | str j =>
    cases x with
    | str i =>
      simp only [Rep] at ru rv
      exact .inr ⟨i, j, ru, rv, o.now n t (by simp only [Rep])⟩
    | _ => exact t.elim
  | _ => exact .inl (main t)
section
variable {X : Cx} {G0 : Hp} {pos : Pos} {a b : Expr} {ta tb : TDE} {k : Nat}
theorem de_at (hr : Room k X.A) (ha : DE X G0 a ta) (hb : DE X G0 b tb) (hs : PlainIx b := by exact fun _ _ => rfl) : DE X G0 (.Subscript a b pos) (dOp ixD ta tb) := de_ix (ix_seq.or (ix_dict (hu_of hr))) lift_ix ha hb hs
theorem de_in (hr : Room k X.A) (ha : DE X G0 a ta) (hb : DE X G0 b tb) (hm : behindInMarks .In b = false := by rfl) : DE X G0 (.Compare a [.In] [b] pos) (dOp (inR false) ta tb) :=
  de_cmp (((op_inD (by have := hr.un; omega)).or (op_in_dict (hu_of hr))).or op_in_str) (lift_in false _ _ _ (by funext x y H Q; simp only [rInD, Bool.false_bne]) (by funext x y H Q; simp only [Bool.false_bne]) (by funext x y H Q; simp only [Bool.false_bne])) ha hb hm
theorem dt_in (hr : Room k X.A) (ha : DE X G0 a ta) (hb : DE X G0 b tb) (hm : behindInMarks .In b = false := by rfl) : DT X G0 (.Compare a [.In] [b] pos) (dB (dOp (inR false) ta tb)) :=
  dt_cmp (((op_inD (by have := hr.un; omega)).or (op_in_dict (hu_of hr))).or op_in_str) (lift_in false _ _ _ (by funext x y H Q; simp only [rInD, Bool.false_bne]) (by funext x y H Q; simp only [Bool.false_bne]) (by funext x y H Q; simp only [Bool.false_bne])) ha hb hm
theorem de_notIn (hr : Room k X.A) (ha : DE X G0 a ta) (hb : DE X G0 b tb) (hm : behindInMarks .NotIn b = false := by rfl) : DE X G0 (.Compare a [.NotIn] [b] pos) (dOp (inR true) ta tb) :=
  de_cmp (((op_notInD (by have := hr.un; omega)).or (op_notIn_dict (hu_of hr))).or op_notin_str) (lift_in true _ _ _ (by funext x y H Q; simp only [rNotInD, Bool.true_bne]) (by funext x y H Q; simp only [Bool.true_bne]) (by funext x y H Q; simp only [Bool.true_bne])) ha hb hm
theorem dt_notIn (hr : Room k X.A) (ha : DE X G0 a ta) (hb : DE X G0 b tb) (hm : behindInMarks .NotIn b = false := by rfl) : DT X G0 (.Compare a [.NotIn] [b] pos) (dB (dOp (inR true) ta tb)) :=
  dt_cmp (((op_notInD (by have := hr.un; omega)).or (op_notIn_dict (hu_of hr))).or op_notin_str) (lift_in true _ _ _ (by funext x y H Q; simp only [rNotInD, Bool.true_bne]) (by funext x y H Q; simp only [Bool.true_bne]) (by funext x y H Q; simp only [Bool.true_bne])) ha hb hm
end
end DL
namespace DL
open PySem L2
def dNil : TDA := fun _ S P => P [] S
def dCons (ta : TDE) (tr : TDA) : TDA := fun ρ S P => ta ρ S fun x S1 => tr ρ S1 fun xs S2 => P (x :: xs) S2
def dLst (m : Bool) (ta : TDA) : TDE := fun ρ S P => ta ρ S fun xs S1 => xs.length ≤ sizeLine ∧ newL m xs S1 P
def dTup (ta : TDA) : TDE := fun ρ S P => ta ρ S fun xs S1 => xs.length ≤ sizeLine ∧ P (.tup xs) S1
def dNewI : TDE := fun _ S P => ∀ p, S p = none → P (.ref p) (su S p (.dI []))
def dFrz (t : TDE) : TDE := fun ρ S P => t ρ S fun d S1 => match d with
  | .ref p => match S1 p with
    | some (.ml xs) => P (.lst xs) (sd S1 p)
    | _ => P d S1
  | _ => P d S1
abbrev RCD := List D → Sto → (D → Sto → Prop) → Prop
def dCB (r : RCD) (ta : TDA) : TDE := fun ρ S P => ta ρ S fun xs S1 => r xs S1 P
def LiftC (K : PySem.W.Frag) (r : List V → Hp → VK → Prop) (r' : RCD) : Prop := ∀ xs vs G S H P Q, Nx K G S H → Reps K (wo H S) xs vs → r' xs S P → Owe K S H P Q → r vs H Q
theorem LiftC.or {K : PySem.W.Frag} {r s : List V → Hp → VK → Prop} {r' s' : RCD} (h : LiftC K r r') (h' : LiftC K s s') : LiftC K (fun x H Q => r x H Q ∨ s x H Q) (fun x S P => r' x S P ∨ s' x S P) :=
  fun x u G S H P Q n ru t o => t.elim (fun t => .inl (h x u G S H P Q n ru t o)) fun t => .inr (h' x u G S H P Q n ru t o)
section
variable {X : Cx} {G0 : Hp} {pos : Pos} {e : Expr} {es : List Expr} {te : TDE} {ta : TDA}
theorem da_nil : DA X G0 [] dNil := PA.imp pa_nil fun σ H Q ⟨ρ, S, P, st, t, o⟩ => o _ _ _ _ t st.refl Reps.nil
theorem da_cons (he : DE X G0 e te) (ha : DA X G0 es ta) (hs : starEach (e :: es) X.env = (false, eval e X.env) :: starEach es X.env := by rfl) : DA X G0 (e :: es) (dCons te ta) :=
  PA.imp (pa_cons he ha hs) fun σ H Q ⟨ρ, S, P, st, t, o⟩ => ⟨ρ, S, _, st, t, fun d S1 v H1 t1 n1 r1 => ⟨ρ, S1, _, st.next n1, t1, fun ds S2 vs H2 t2 n2 r2 => o _ _ _ _ t2 (n1.trans n2) (Reps.cons (r1.mono n2.st) r2)⟩⟩
theorem de_lst (m : Bool) (ha : DA X G0 es ta) : DE X G0 (.List es pos) (dLst m ta) :=
  PE.imp (pe_lst ha) fun σ H Q ⟨ρ, S, P, st, t, o⟩ => ⟨ρ, S, _, st, t, fun ds S1 vs H1 t1 n1 r1 => ⟨by rw [← r1.len]; exact t1.1, fun p hp => newL_ok n1 r1 hp t1.2 fun d S' v H' a b c => o _ _ _ _ a (n1.trans b) c⟩⟩
theorem de_tup {x1} (ha : DA X G0 es ta) : DE X G0 (.Tuple es x1 pos) (dTup ta) :=
  PE.imp (pe_tup ha) fun σ H Q ⟨ρ, S, P, st, t, o⟩ => ⟨ρ, S, _, st, t, fun ds S1 vs H1 t1 n1 r1 => ⟨by rw [← r1.len]; exact t1.1, fun p hp => newT_ok n1 r1 hp t1.2 fun d S' v H' a b c => o _ _ _ _ a (n1.trans b) c⟩⟩
theorem de_dict0 : DE X G0 (.Dict [] [] pos) dNewI :=
  PE.imp pe_dnewT fun σ H Q ⟨ρ, S, P, st, t, o⟩ p hp => o _ _ _ _ (t p (st.nx.free hp)) (st.nx.cell hp fun G' s => ⟨[], upd_same, Reps.nil⟩) (by simp only [Rep])
theorem de_frz (he : DE X G0 e te) : DE X G0 e (dFrz te) := PE.imp he fun σ H Q ⟨ρ, S, P, st, t, o⟩ => ⟨ρ, S, _, st, t, fun d S1 v H1 t1 n1 r1 => by
    cases d with
    | ref p =>
      dsimp only at t1
      cases h : S1 p with
      | none => rw [h] at t1; exact o _ _ _ _ t1 n1 r1
      | some c =>
        rw [h] at t1
        cases c with
        | ml xs =>
          obtain ⟨n2, r2⟩ := n1.frz h
          simp only [Rep] at r1
          subst r1
          exact o _ _ _ _ t1 (n1.trans n2) r2
        | dI _ => exact o _ _ _ _ t1 n1 r1
        | dS _ => exact o _ _ _ _ t1 n1 r1
        | ins _ _ => exact o _ _ _ _ t1 n1 r1
    | _ => exact o _ _ _ _ t1 n1 r1⟩
theorem up_cb {r : List V → Hp → VK → Prop} {r' : RCD} (hl : LiftC X.K r r') (σ : St) (H : Hp) (Q : VK) (h : upE X.K G0 (dCB r' ta) σ H Q) : tCB r (upA X.K G0 ta) σ H Q := by
  obtain ⟨ρ, S, P, st, t, o⟩ := h
  exact ⟨ρ, S, _, st, t, fun ds S1 vs H1 t1 n1 r1 => hl ds vs _ S1 H1 P Q n1 r1 t1 fun d S' v H' a b c => o _ _ _ _ a (n1.trans b) c⟩
theorem de_callB {x : Str} {p : Pos} {id : String} {r : List V → Hp → VK → Prop} {r' : RCD} (hc : CallR X (.builtin id) r) (hl : LiftC X.K r r') (hg : Gl X x) (hm : X.mg x = none) (hv : bootBuiltins x = some (.builtin id)) (ha : DA X G0 (e :: es) ta)
    (hn : x ≠ "__name__" := by decide) (hdb : (x == ("__debug__" : Str)) = false := by decide)
    (he : starEach (e :: es) X.env = (false, eval e X.env) :: starEach es X.env := by rfl) (hpl : (backTo pos (starEach es X.env)).any (·.1) = false := by rfl) : DE X G0 (.Call (.Name x p) (e :: es) [] pos) (dCB r' ta) :=
  PE.imp (pe_callB hc hg hm hv ha hn hdb he hpl) (up_cb hl)
theorem de_callTy {x : Str} {p : Pos} {T : String} {r : List V → Hp → VK → Prop} {r' : RCD} (hc : CallR X (.type T) r) (hl : LiftC X.K r r') (hg : Gl X x) (hm : X.mg x = none) (hv : bootBuiltins x = some (.type T)) (ha : DA X G0 (e :: es) ta)
    (hn : x ≠ "__name__" := by decide) (hdb : (x == ("__debug__" : Str)) = false := by decide)
    (he : starEach (e :: es) X.env = (false, eval e X.env) :: starEach es X.env := by rfl) (hpl : (backTo pos (starEach es X.env)).any (·.1) = false := by rfl) : DE X G0 (.Call (.Name x p) (e :: es) [] pos) (dCB r' ta) :=
  PE.imp (pe_callTy hc hg hm hv ha hn hdb he hpl) (up_cb hl)
end
def lenS (S : Sto) : D → Option Nat
  | .tup xs => some xs.length
  | .ref p => match S p with
    | some (.ml xs) => some xs.length
    | some (.dI kvs) => some kvs.length
    | _ => none
  | .lst xs => some xs.length
  | .scr ns => some ns.length
  | _ => none
def lenD : RCD := fun xs S P => match xs with
  | [.str z] => z.length ≤ sizeLine ∧ P (.int z.length) S
  | [x] => match lenS S x with
    | some n => P (.int n) S
    | none => False
  | _ => False
theorem Reps.one {K : PySem.W.Frag} {G : Hp} {d : D} {vs : List V} (r : Reps K G [d] vs) : ∃ v, vs = [v] ∧ Rep K G d v := by
  simp only [Reps] at r
  obtain ⟨v, t, rfl, q, rfl⟩ := r
  exact ⟨v, rfl, q⟩
theorem Reps.two {K : PySem.W.Frag} {G : Hp} {d e : D} {vs : List V} (r : Reps K G [d, e] vs) : ∃ v u, vs = [v, u] ∧ Rep K G d v ∧ Rep K G e u := by
  simp only [Reps] at r
  obtain ⟨v, t, rfl, q, u, t', rfl, q', rfl⟩ := r
  exact ⟨v, u, rfl, q, q'⟩
theorem lift_len {K : PySem.W.Frag} : LiftC K (fun xs H Q => (∃ x n, xs = [x] ∧ LenV K x H n ∧ Q (.int n) H) ∨ rLenT xs H Q) lenD := by
  intro xs vs G S H P Q n r t o
  match xs, t with
  | [], t => exact t.elim
  | _ :: _ :: _, t => cases (show False by first | exact t | (unfold lenD at t; split at t <;> simp_all))
  | [x], t =>
    obtain ⟨v, ev, rx⟩ := r.one
    clear r
    subst ev
    have r := rx
    clear rx
    cases x with
    | str z =>
      simp only [Rep] at r
      subst r
      exact .inl ⟨_, z.length, rfl, ⟨t.1, rfl⟩, o.now n t.2 (by simp only [Rep])⟩
    | tup ds =>
      simp only [Rep] at r
      obtain ⟨a, us, rfl, q, r⟩ := r
      exact .inl ⟨_, ds.length, rfl, .inr ⟨us, SqT.of (wo_le _ _ _ _ q), r.len⟩, o.now n t (by simp only [Rep])⟩
    | lst ds =>
      simp only [Rep] at r
      obtain ⟨a, us, rfl, q, r⟩ := r
      exact .inl ⟨_, ds.length, rfl, .inl ⟨us, SqL.of (wo_le _ _ _ _ q), r.len⟩, o.now n t (by simp only [Rep])⟩
    | scr ns =>
      simp only [Rep] at r
      obtain ⟨a, rfl, q⟩ := r
      exact .inl ⟨_, ns.length, rfl, .inl ⟨_, (wo_le H S).seq q, by rw [List.length_map]⟩, o.now n t (by simp only [Rep])⟩
    | ref p =>
      simp only [lenD, lenS] at t
      simp only [Rep] at r
      subst r
      cases h : S p with
      | none => rw [h] at t; exact t.elim
      | some c =>
        rw [h] at t
        cases c with
        | ml ds =>
          obtain ⟨us, q, r⟩ := n.ok p _ h
          exact .inl ⟨_, ds.length, rfl, .inl ⟨us, SqL.of q, r.len⟩, o.now n t (by simp only [Rep])⟩
        | dI kvs =>
          obtain ⟨us, q, r⟩ := n.ok p _ h
          refine .inr ⟨p, _, rfl, q, ?_⟩
          have e : (((kvs.map fun p => (p.1.map Sum.inl : List Key)).zip us).length : Int) = kvs.length := by
            have := r.len
            simp only [List.length_map] at this
            rw [List.length_zip, List.length_map, ← this, Nat.min_self]
          rw [e]
          exact o.now n t (by simp only [Rep])
        | dS _ => exact t.elim
        | ins _ _ => exact t.elim
    | non => exact t.elim
    | bl b => exact t.elim
    | int i => exact t.elim
    | ty s => exact t.elim
def i2D (f : Int → Int → Int) : RCD := fun xs S P => match xs with
  | [.int i, .int j] => P (.int (f i j)) S
  | _ => False
theorem i2D_ok {f : Int → Int → Int} {xs : List D} {S : Sto} {P : D → Sto → Prop} (t : i2D f xs S P) : ∃ i j, xs = [.int i, .int j] ∧ P (.int (f i j)) S := by
  unfold i2D at t
  split at t
  · exact ⟨_, _, rfl, t⟩
  · exact t.elim
theorem lift_min {K : PySem.W.Frag} : LiftC K (fun xs H Q => ∃ i j, xs = [.int i, .int j] ∧ Q (.int (if j < i then j else i)) H) (i2D min) := by
  intro xs vs G S H P Q n r t o
  obtain ⟨i, j, rfl, t⟩ := i2D_ok t
  obtain ⟨v, u, rfl, r1, r2⟩ := r.two
  simp only [Rep] at r1 r2
  subst r1 r2
  refine ⟨i, j, rfl, ?_⟩
  have e : (if j < i then j else i) = min i j := by split <;> omega
  rw [e]
  exact o.now n t (by simp only [Rep])
theorem lift_max {K : PySem.W.Frag} : LiftC K (fun xs H Q => ∃ i j, xs = [.int i, .int j] ∧ Q (.int (if j > i then j else i)) H) (i2D max) := by
  intro xs vs G S H P Q n r t o
  obtain ⟨i, j, rfl, t⟩ := i2D_ok t
  obtain ⟨v, u, rfl, r1, r2⟩ := r.two
  simp only [Rep] at r1 r2
  subst r1 r2
  refine ⟨i, j, rfl, ?_⟩
  have e : (if j > i then j else i) = max i j := by split <;> omega
  rw [e]
  exact o.now n t (by simp only [Rep])
def absD : RCD := fun xs S P => match xs with
  | [.int i] => P (.int (if i < 0 then -i else i)) S
  | _ => False
theorem lift_abs {K : PySem.W.Frag} : LiftC K (fun xs H Q => ∃ i, xs = [.int i] ∧ Q (.int (if i < 0 then -i else i)) H) absD := by
  intro xs vs G S H P Q n r t o
  unfold absD at t
  split at t
  · obtain ⟨v, ev, rx⟩ := r.one
    clear r
    subst ev
    have r := rx
    clear rx
    simp only [Rep] at r
    subst r
    exact ⟨_, rfl, o.now n t (by simp only [Rep])⟩
  · exact t.elim
def keysS (S : Sto) : D → Option (List (List Int))
  | .ref p => match S p with
    | some (.dI kvs) => some (kvs.map (·.1))
    | _ => none
  | _ => none
def listD (m : Bool) : RCD := fun xs S P => match xs with
  | [.tup ds] => newL m ds S P
  | [x] => match vl S x with
    | some ds => newL m ds S P
    | none => match keysS S x with
      | some ks => newL m (ks.map fun k => .tup (k.map .int)) S P
      | none => False
  | _ => False
theorem keys_reps {K : PySem.W.Frag} {G H : Hp} {S : Sto} (n : Nx K G S H) : ∀ {ks : List (List Int)} {vs : List V} {bs : List Addr}, ks.length = vs.length → IsKeys H ((ks.map fun k => (k.map Sum.inl : List Key)).zip vs) bs →
    Reps K (wo H S) (ks.map fun k => .tup (k.map .int)) (bs.map V.ref)
  | [], vs, bs, hl, h => by
    cases vs with
    | nil => cases h; exact Reps.nil
    | cons _ _ => simp at hl
  | k :: ks, vs, bs, hl, h => by
    cases vs with
    | nil => simp at hl
    | cons v vs =>
      cases h with
      | cons h t =>
        rename_i b bs
        refine Reps.cons ?_ (keys_reps n (by simpa using hl) t)
        simp only [Rep]
        have e : ((k.map Sum.inl : List Key).map kV) = k.map V.int := by rw [List.map_map]; rfl
        dsimp only at h
        rw [e] at h
        refine ⟨b, _, rfl, ?_, Reps.of_ints k⟩
        cases q : S b with
        | none => rw [wo_none q]; exact h
        | some c =>
          exfalso
          cases c with
          | ml _ => obtain ⟨_, z, _⟩ := n.ok b _ q; rw [h] at z; cases z
          | dI _ => obtain ⟨_, z, _⟩ := n.ok b _ q; rw [h] at z; cases z
          | dS _ => obtain ⟨_, z, _⟩ := n.ok b _ q; rw [h] at z; cases z
          | ins _ _ => obtain ⟨_, _, z, _⟩ := n.ok b _ q; rw [h] at z; cases z
def newLk (m : Bool) (o : Option (List (List Int))) (S : Sto) (P : D → Sto → Prop) : Prop := match o with
  | some ks => newL m (ks.map fun k => .tup (k.map .int)) S P
  | none => False
def newLo (m : Bool) (o : Option (List D)) (k : Option (List (List Int))) (S : Sto) (P : D → Sto → Prop) : Prop := match o with
  | some ds => newL m ds S P
  | none => newLk m k S P
theorem listD_eq (m : Bool) (x : D) (S : Sto) (P : D → Sto → Prop) (h : ∀ ds, x ≠ .tup ds) : listD m [x] S P = newLo m (vl S x) (keysS S x) S P := by
  unfold listD newLo newLk
  cases x with
  | tup ds => exact absurd rfl (h ds)
  | _ => rfl
theorem lift_list {K : PySem.W.Frag} {m : Bool} : LiftC K (fun xs H Q => (∃ p ys, xs = [.ref p] ∧ (SqL K H p ys ∨ SqT K H p ys) ∧ ∀ l, H l = none → Q (.ref l) (upd H l (.lst ys))) ∨
    (∃ d kvs, xs = [V.ref d] ∧ Rd H d (.dT kvs) ∧ ∀ p bs, H p = none → IsKeys H kvs bs → Q (.ref p) (upd H p (.lst (bs.map V.ref))))) (listD m) := by
  intro xs vs G S H P Q n r t o
  match xs, t with
  | [], t => exact t.elim
  | _ :: _ :: _, t => cases (show False by first | exact t | (unfold listD at t; split at t <;> simp_all))
  | [x], t =>
    obtain ⟨v, ev, rx⟩ := r.one
    clear r
    subst ev
    have r := rx
    clear rx
    by_cases ht : ∃ ds, x = .tup ds
    · obtain ⟨ds, rfl⟩ := ht
      simp only [Rep] at r
      obtain ⟨a, us, rfl, q, r⟩ := r
      exact .inl ⟨a, us, rfl, .inr (SqT.of (wo_le _ _ _ _ q)), fun l hl => newL_ok n r hl t o⟩
    · rw [listD_eq m x S P fun ds e => ht ⟨ds, e⟩] at t
      cases e : vl S x with
      | some ds =>
        rw [e] at t
        obtain ⟨a, us, rfl, q, r⟩ := vl_rep n r e
        exact .inl ⟨a, us, rfl, .inl q, fun l hl => newL_ok n r hl t o⟩
      | none =>
        rw [e] at t
        simp only [newLo] at t
        cases x with
        | ref p =>
          simp only [keysS] at t
          cases h : S p with
          | none => rw [h] at t; exact t.elim
          | some c =>
            rw [h] at t
            cases c with
            | dI kvs =>
              obtain ⟨us, q, r2⟩ := n.ok p _ h
              simp only [Rep] at r
              subst r
              refine .inr ⟨p, _, rfl, .inl q, fun l bs hl hk => ?_⟩
              have hlen := r2.len
              rw [List.length_map] at hlen
              have hk' : IsKeys H (((kvs.map (·.1)).map fun k => (k.map Sum.inl : List Key)).zip us) bs := by rw [List.map_map]; exact hk
              exact newL_ok n (keys_reps n (by rw [List.length_map]; exact hlen) hk') hl t o
            | ml _ => exact t.elim
            | dS _ => exact t.elim
            | ins _ _ => exact t.elim
        | _ => exact t.elim
def tupleD : RCD := fun xs S P => match xs with
  | [x] => match vm S x with
    | some ds => P (.tup ds) S
    | none => False
  | _ => False
theorem lift_tuple {K : PySem.W.Frag} : LiftC K (fun xs H Q => ∃ p ys, xs = [.ref p] ∧ ((SqL K H p ys ∧ ∀ l, H l = none → Q (.ref l) (upd H l (.tup ys))) ∨ (SqT K H p ys ∧ Q (.ref p) H))) tupleD := by
  intro xs vs G S H P Q n r t o
  match xs, t with
  | [], t => exact t.elim
  | _ :: _ :: _, t => exact t.elim
  | [x], t =>
    obtain ⟨v, ev, rx⟩ := r.one
    clear r
    subst ev
    have r := rx
    clear rx
    simp only [tupleD] at t
    cases e : vm S x with
    | none => rw [e] at t; exact t.elim
    | some ds =>
      rw [e] at t
      obtain ⟨a, us, rfl, q, r⟩ := vm_rep n r e
      exact ⟨a, us, rfl, .inl ⟨SqL.of q, fun l hl => newT_ok n r hl t o⟩⟩
def sortI (ns : List Int) : List Int := ns.mergeSort fun a b => decide (a ≤ b)
theorem sortI_perm (ns : List Int) : (sortI ns).Perm ns := List.mergeSort_perm ns _
theorem sortI_sorted (ns : List Int) : (sortI ns).Pairwise (· ≤ ·) := by
  have h := List.pairwise_mergeSort (le := fun a b : Int => decide (a ≤ b)) (by intro a b c; simp; omega) (by intro a b; simp; omega) ns
  exact h.imp fun h => by simpa using h
theorem sorted_uniq : ∀ {a b : List Int}, a.Perm b → a.Pairwise (· ≤ ·) → b.Pairwise (· ≤ ·) → a = b
  | [], b, p, _, _ => (List.nil_perm.mp p).symm
  | x :: xs, [], p, _, _ => absurd p (by simp)
  | x :: xs, y :: ys, p, ha, hb => by
    have h1 : x = y := by
      have m1 : x ∈ y :: ys := p.subset List.mem_cons_self
      have m2 : y ∈ x :: xs := p.symm.subset List.mem_cons_self
      rw [List.pairwise_cons] at ha hb
      rcases List.mem_cons.mp m1 with e | m1
      · exact e
      · rcases List.mem_cons.mp m2 with e | m2
        · exact e.symm
        · have l1 := hb.1 _ m1
          have l2 := ha.1 _ m2
          omega
    subst h1
    rw [sorted_uniq (List.Perm.cons_inv p) (List.Pairwise.of_cons ha) (List.Pairwise.of_cons hb)]
def sortedD (m : Bool) : RCD := fun xs S P => match xs with
  | [x] => match (vm S x).bind kInts with
    | some ns => newL m ((sortI ns).map .int) S P
    | none => False
  | _ => False
theorem lift_sorted {K : PySem.W.Frag} {m : Bool} : LiftC K (rSortedI K) (sortedD m) := by
  intro xs vs G S H P Q n r t o
  match xs, t with
  | [], t => exact t.elim
  | _ :: _ :: _, t => exact t.elim
  | [x], t =>
    obtain ⟨v, ev, rx⟩ := r.one
    clear r
    subst ev
    have r := rx
    clear rx
    simp only [sortedD] at t
    cases e : vm S x with
    | none => rw [e] at t; exact t.elim
    | some ds =>
      rw [e] at t
      simp only [Option.bind_some] at t
      cases e2 : kInts ds with
      | none => rw [e2] at t; exact t.elim
      | some ns =>
        rw [e2] at t
        have := kInts_eq e2
        subst this
        obtain ⟨a, us, rfl, q, r⟩ := vm_rep n r e
        have := r.ints
        subst this
        refine ⟨a, ns, rfl, SqL.of q, fun ns' p hp hs hl => ?_⟩
        have := sorted_uniq (hp.trans (sortI_perm ns).symm) hs (sortI_sorted ns)
        subst this
        exact newL_ok n (Reps.of_ints _) hl t o
section
variable {X : Cx} {G0 : Hp} {pos : Pos} {e e2 : Expr} {te te2 : TDE} {ta : TDA} {k : Nat}
theorem de_len {p : Pos} (hm : X.mg "len" = none) (ha : DA X G0 [e] ta) (hg : Gl X "len" := by rfl) (he : starEach [e] X.env = (false, eval e X.env) :: starEach [] X.env := by rfl) : DE X G0 (.Call (.Name "len" p) [e] [] pos) (dCB lenD ta) := de_callB (call_len.or call_len_dT) lift_len hg hm boot_len ha (he := he)
theorem de_min {p : Pos} (hc : X.calm = true) (hm : X.mg "min" = none) (ha : DA X G0 [e, e2] ta) (hg : Gl X "min" := by rfl) (he : starEach [e, e2] X.env = (false, eval e X.env) :: starEach [e2] X.env := by rfl) (hpl : (backTo pos (starEach [e2] X.env)).any (·.1) = false := by rfl) : DE X G0 (.Call (.Name "min" p) [e, e2] [] pos) (dCB (i2D min) ta) := de_callB (call_min2 hc) lift_min hg hm (by decide +kernel) ha (he := he) (hpl := hpl)
theorem de_max {p : Pos} (hc : X.calm = true) (hm : X.mg "max" = none) (ha : DA X G0 [e, e2] ta) (hg : Gl X "max" := by rfl) (he : starEach [e, e2] X.env = (false, eval e X.env) :: starEach [e2] X.env := by rfl) (hpl : (backTo pos (starEach [e2] X.env)).any (·.1) = false := by rfl) : DE X G0 (.Call (.Name "max" p) [e, e2] [] pos) (dCB (i2D max) ta) := de_callB (call_max2 hc) lift_max hg hm (by decide +kernel) ha (he := he) (hpl := hpl)
theorem de_abs {p : Pos} (hm : X.mg "abs" = none) (ha : DA X G0 [e] ta) (hg : Gl X "abs" := by rfl) (he : starEach [e] X.env = (false, eval e X.env) :: starEach [] X.env := by rfl) : DE X G0 (.Call (.Name "abs" p) [e] [] pos) (dCB absD ta) := de_callB call_abs lift_abs hg hm (by decide +kernel) ha (he := he)
theorem de_list {p : Pos} (m : Bool) (hc : X.calm = true) (hm : X.mg "list" = none) (ha : DA X G0 [e] ta) (hg : Gl X "list" := by rfl) (he : starEach [e] X.env = (false, eval e X.env) :: starEach [] X.env := by rfl) : DE X G0 (.Call (.Name "list" p) [e] [] pos) (dCB (listD m) ta) := de_callTy (call_list_of.or (call_list_dT hc)) lift_list hg hm (by decide +kernel) ha (he := he)
theorem de_tuple {p : Pos} (hm : X.mg "tuple" = none) (ha : DA X G0 [e] ta) (hg : Gl X "tuple" := by rfl) (he : starEach [e] X.env = (false, eval e X.env) :: starEach [] X.env := by rfl) : DE X G0 (.Call (.Name "tuple" p) [e] [] pos) (dCB tupleD ta) := de_callTy call_tuple_of lift_tuple hg hm (by decide +kernel) ha (he := he)
theorem de_sorted {p : Pos} (m : Bool) (hm : X.mg "sorted" = none) (ha : DA X G0 [e] ta) (hg : Gl X "sorted" := by rfl) (he : starEach [e] X.env = (false, eval e X.env) :: starEach [] X.env := by rfl) : DE X G0 (.Call (.Name "sorted" p) [e] [] pos) (dCB (sortedD m) ta) := de_callB cr_sortedI lift_sorted hg hm (by decide +kernel) ha (he := he)
end
end DL
namespace DL
open PySem L2
abbrev RMD := D → List D → Sto → (D → Sto → Prop) → Prop
def dLM (r : RMD) (to : TDE) (ta : TDA) : TDE := fun ρ S P => to ρ S fun x S1 => (vm S1 x).isSome = true ∧ ta ρ S1 fun ys S2 => r x ys S2 P
def dLM0 (r : RMD) (to : TDE) : TDE := fun ρ S P => to ρ S fun x S1 => (vm S1 x).isSome = true ∧ r x [] S1 P
def LiftM (K : PySem.W.Frag) (r : V → List V → Hp → VK → Prop) (r' : RMD) : Prop := ∀ x xs v vs G S H P Q, Nx K G S H → Rep K (wo H S) x v → Reps K (wo H S) xs vs → r' x xs S P → Owe K S H P Q → r v vs H Q
section
variable {X : Cx} {G0 : Hp} {o e : Expr} {es : List Expr} {to : TDE} {ta : TDA} {name : Str} {apos cpos : Pos} {id : String} {r : V → List V → Hp → VK → Prop} {r' : RMD}
theorem ty_list {K : PySem.W.Frag} {G H : Hp} {S : Sto} {d : D} {v : V} (n : Nx K G S H) (r : Rep K (wo H S) d v) (h : (vm S d).isSome = true) : tyV K "list" v H := by
  cases e : vm S d with
  | none => rw [e] at h; cases h
  | some xs =>
    obtain ⟨a, vs, rfl, q, _⟩ := vm_rep n r e
    exact .inl ⟨rfl, vs, SqL.of q⟩
theorem de_lm (slot : Slot "list" name id) (hty : typeOf (.builtin id) = pure (.type "method_descriptor")) (hm : MtR X id r) (hl : LiftM X.K r r') (ho : DE X G0 o to) (ha : DA X G0 (e :: es) ta)
    (hbase : attributeBase o name X.env (eval o X.env) = eval o X.env := by rfl)
    (hfew : ((backTo cpos (starEach (e :: es) X.env)).all (fun x => !x.1) && (backToKw cpos (keywordEach [] X.env)).all (fun x => x.1.isSome)
      && decide ((e :: es).length + ([] : List Keyword).length + (if ([] : List Keyword).isEmpty then 0 else 1) < 30)) = true := by rfl)
    (hline : (apos.endLine == cpos.line) = true := by rfl) (hs : starEach (e :: es) X.env = (false, eval e X.env) :: starEach es X.env := by rfl) (hplain : (backTo cpos (starEach es X.env)).any (·.1) = false := by rfl) :
    DE X G0 (.Call (.Attribute o name apos) (e :: es) [] cpos) (dLM r' to ta) :=
  PE.imp (pe_bm PySem.F.plainAttrs_list slot hty hm ho ha hbase hfew hline hs hplain) fun σ H Q ⟨ρ, S, P, st, t, oo⟩ =>
    ⟨ρ, S, _, st, t, fun d S1 v H1 t1 n1 r1 => ⟨ty_list n1 r1 t1.1, ρ, S1, _, st.next n1, t1.2, fun ds S2 vs H2 t2 n2 r2 =>
      hl d ds v vs _ S2 H2 P Q n2 (r1.mono n2.st) r2 t2 fun d S' v H' a b c => oo _ _ _ _ a (n1.trans (n2.trans b)) c⟩⟩
theorem de_lm0 (slot : Slot "list" name id) (hty : typeOf (.builtin id) = pure (.type "method_descriptor")) (hm : MtR X id r) (hl : LiftM X.K r r') (ho : DE X G0 o to)
    (hbase : attributeBase o name X.env (eval o X.env) = eval o X.env := by rfl) (hline : (apos.endLine == cpos.line) = true := by rfl) : DE X G0 (.Call (.Attribute o name apos) [] [] cpos) (dLM0 r' to) :=
  PE.imp (pe_bm0 PySem.F.plainAttrs_list slot hty hm ho hbase hline) fun σ H Q ⟨ρ, S, P, st, t, oo⟩ =>
    ⟨ρ, S, _, st, t, fun d S1 v H1 t1 n1 r1 => ⟨ty_list n1 r1 t1.1, hl d [] v [] _ S1 H1 P Q n1 r1 Reps.nil t1.2 fun d S' v H' a b c => oo _ _ _ _ a (n1.trans b) c⟩⟩
end
def cellL (S : Sto) : D → Option (Addr × List D)
  | .ref p => match S p with
    | some (.ml xs) => some (p, xs)
    | _ => none
  | _ => none
theorem cellL_ok {S : Sto} {d : D} {p : Addr} {xs : List D} (e : cellL S d = some (p, xs)) : d = .ref p ∧ S p = some (.ml xs) := by
  cases d with
  | ref q =>
    simp only [cellL] at e
    cases h : S q with
    | none => rw [h] at e; cases e
    | some c =>
      rw [h] at e
      cases c with
      | ml ys => cases e; exact ⟨rfl, h⟩
      | dI _ => cases e
      | dS _ => cases e
      | ins _ _ => cases e
  | _ => cases e
def onCell (S : Sto) (d : D) (k : Addr → List D → Prop) : Prop := match cellL S d with
  | some (p, xs) => k p xs
  | none => False
theorem onCell_ok {S : Sto} {d : D} {k : Addr → List D → Prop} (t : onCell S d k) : ∃ p xs, d = .ref p ∧ S p = some (.ml xs) ∧ k p xs := by
  unfold onCell at t
  cases e : cellL S d with
  | none => rw [e] at t; exact t.elim
  | some z =>
    obtain ⟨p, xs⟩ := z
    rw [e] at t
    obtain ⟨h1, h2⟩ := cellL_ok e
    exact ⟨p, xs, h1, h2, t⟩
theorem onCell_ml {S : Sto} {p : Addr} {xs : List D} {k : Addr → List D → Prop} (h : S p = some (.ml xs)) : onCell S (.ref p) k = k p xs := by
  simp only [onCell, cellL, h]
theorem wr_list {K : PySem.W.Frag} {G H : Hp} {S : Sto} {p : Addr} {xs : List D} {vs : List V} (n : Nx K G S H) {c0 : Cl} (h : S p = some c0) (r : Reps K (wo H S) xs vs) : Nx K (wo H S) (su S p (.ml xs)) (upd H p (.lst vs)) :=
  n.write h ⟨vs, upd_same, r⟩
def appendD : RMD := fun x ys S P => match ys with
  | [y] => onCell S x fun p xs => xs.length < sizeLine ∧ P .non (su S p (.ml (xs ++ [y])))
  | _ => False
theorem lift_append {K : PySem.W.Frag} : LiftM K rAppend appendD := by
  intro x ys v vs G S H P Q n rx ry t o
  match ys, t with
  | [], t => exact t.elim
  | _ :: _ :: _, t => exact t.elim
  | [y], t =>
    obtain ⟨u, rfl, ru⟩ := ry.one
    obtain ⟨p, xs, rfl, h, hl, t⟩ := onCell_ok t
    simp only [Rep] at rx
    obtain ⟨us, q, r⟩ := n.ok p _ h
    have n2 := wr_list n h (r.app (Reps.cons ru Reps.nil))
    exact ⟨p, us, u, rx, rfl, q, by rw [← r.len]; exact hl, o _ _ _ _ t n2 (by simp only [Rep])⟩
def popAtD : RMD := fun x ys S P => match ys with
  | [.int i] => onCell S x fun p xs => -(2 ^ 63) ≤ i ∧ i < 2 ^ 63 ∧ match seqIndex? i xs.length with
    | some k => match xs[k]? with
      | some d => P d (su S p (.ml (xs.eraseIdx k)))
      | none => False
    | none => False
  | _ => False
theorem Reps.eraseIdx {K : PySem.W.Frag} {G : Hp} : ∀ {ds : List D} {vs : List V} (k : Nat), Reps K G ds vs → Reps K G (ds.eraseIdx k) (vs.eraseIdx k)
  | [], vs, k, h => by simp only [Reps] at h; subst h; simpa using Reps.nil
  | d :: ds, vs, 0, h => by
    simp only [Reps] at h
    obtain ⟨v, r, rfl, q, s⟩ := h
    exact s
  | d :: ds, vs, k + 1, h => by
    simp only [Reps] at h
    obtain ⟨v, r, rfl, q, s⟩ := h
    exact Reps.cons q (Reps.eraseIdx k s)
theorem lift_popAt {K : PySem.W.Frag} : LiftM K rPopAt popAtD := by
  intro x ys v vs G S H P Q n rx ry t o
  unfold popAtD at t
  split at t
  · rename_i i
    obtain ⟨u, rfl, ru⟩ := ry.one
    obtain ⟨p, xs, rfl, h, h1, h2, t⟩ := onCell_ok t
    simp only [Rep] at rx ru
    subst ru
    obtain ⟨us, q, r⟩ := n.ok p _ h
    cases e : seqIndex? i xs.length with
    | none => rw [e] at t; exact t.elim
    | some k =>
      rw [e] at t
      dsimp only at t
      cases e2 : xs[k]? with
      | none => rw [e2] at t; exact t.elim
      | some d =>
        rw [e2] at t
        obtain ⟨w, hw, rw'⟩ := r.get e2
        have n2 := wr_list n h (r.eraseIdx k)
        exact ⟨p, us, i, k, w, rx, rfl, q, h1, h2, by rw [← r.len]; exact e, hw, o _ _ _ _ t n2 (rw'.mono n2.st)⟩
  · exact t.elim
def rev0D : RMD := fun x ys S P => match ys with
  | [] => onCell S x fun p xs => P .non (su S p (.ml xs.reverse))
  | _ => False
theorem lift_reverse {K : PySem.W.Frag} : LiftM K rReverse rev0D := by
  intro x ys v vs G S H P Q n rx ry t o
  match ys, t with
  | [], t =>
    simp only [Reps] at ry
    obtain ⟨p, xs, rfl, h, t⟩ := onCell_ok t
    simp only [Rep] at rx
    obtain ⟨us, q, r⟩ := n.ok p _ h
    exact ⟨p, us, rx, ry, q, o _ _ _ _ t (wr_list n h r.rev) (by simp only [Rep])⟩
  | _ :: _, t => exact t.elim
def clearD : RMD := fun x ys S P => match ys with
  | [] => onCell S x fun p xs => P .non (su S p (.ml []))
  | _ => False
theorem lift_clear {K : PySem.W.Frag} : LiftM K rClear clearD := by
  intro x ys v vs G S H P Q n rx ry t o
  match ys, t with
  | [], t =>
    simp only [Reps] at ry
    obtain ⟨p, xs, rfl, h, t⟩ := onCell_ok t
    simp only [Rep] at rx
    obtain ⟨us, q, r⟩ := n.ok p _ h
    exact ⟨p, us, rx, ry, q, o _ _ _ _ t (wr_list n h Reps.nil) (by simp only [Rep])⟩
  | _ :: _, t => exact t.elim
def isDS (S : Sto) : D → Bool
  | .ref p => match S p with
    | some (.dI _) => true
    | some (.dS _) => true
    | _ => false
  | _ => false
theorem isDS_ok {K : PySem.W.Frag} {G H : Hp} {S : Sto} {d : D} {v : V} (n : Nx K G S H) (r : Rep K (wo H S) d v) (h : isDS S d = true) : ∃ a, v = .ref a ∧ IsD H a := by
  cases d with
  | ref p =>
    simp only [Rep] at r
    simp only [isDS] at h
    cases e : S p with
    | none => rw [e] at h; cases h
    | some c =>
      rw [e] at h
      cases c with
      | dI _ => obtain ⟨_, z, _⟩ := n.ok p _ e; exact ⟨p, r, .inr ⟨_, .inl z⟩⟩
      | dS _ => obtain ⟨_, z, _⟩ := n.ok p _ e; exact ⟨p, r, .inl ⟨_, .inl z⟩⟩
      | ml _ => cases h
      | ins _ _ => cases h
  | _ => cases h
def getK (o : Option (Option D)) (z : D) (S : Sto) (P : D → Sto → Prop) : Prop := match o with
  | some o => P (o.getD z) S
  | none => False
def dGet1 (td ty : TDE) : TDE := fun ρ S P => td ρ S fun x S1 => isDS S1 x = true ∧ ty ρ S1 fun y S2 => getK (dgetS S2 x y) .non S2 P
def dGet2 (td ty tx : TDE) : TDE := fun ρ S P => td ρ S fun x S1 => isDS S1 x = true ∧ ty ρ S1 fun y S2 => tx ρ S2 fun z S3 => getK (dgetS S3 x y) z S3 P
section
variable {X : Cx} {G0 : Hp} {o e f : Expr} {td ty tx : TDE} {apos cpos : Pos} {k : Nat}
theorem de_get1 (hr : Room k X.A) (ho : DE X G0 o td) (he : DE X G0 e ty) (m : M1 X o "get" apos e cpos := by exact ⟨rfl, rfl, rfl, rfl⟩) : DE X G0 (.Call (.Attribute o "get" apos) [e] [] cpos) (dGet1 td ty) :=
  PE.imp (pe_dget1 (hu_of hr) ho he m) fun σ H Q ⟨ρ, S, P, st, t, oo⟩ => ⟨ρ, S, _, st, t, fun x S1 v H1 t1 n1 r1 => by
    obtain ⟨a, rfl, hi⟩ := isDS_ok n1 r1 t1.1
    refine ⟨a, rfl, hi, ρ, S1, _, st.next n1, t1.2, fun y S2 u H2 t2 n2 r2 => ?_⟩
    cases e : dgetS S2 x y with
    | none => rw [e] at t2; exact t2.elim
    | some z =>
      rw [e] at t2
      obtain ⟨b, ov, eb, g, _, r⟩ := dgetS_ok n2 (r1.mono n2.st) r2 e
      cases eb
      exact ⟨ov, g, oo _ _ _ _ t2 (n1.trans n2) (r.getD (by simp only [Rep]))⟩⟩
theorem de_get2 (hr : Room k X.A) (ho : DE X G0 o td) (he : DE X G0 e ty) (hf : DE X G0 f tx) (m : M2 X o "get" apos e f cpos := by exact ⟨rfl, rfl, rfl, rfl⟩) : DE X G0 (.Call (.Attribute o "get" apos) [e, f] [] cpos) (dGet2 td ty tx) :=
  PE.imp (pe_dget2 (hu_of hr) ho he hf m) fun σ H Q ⟨ρ, S, P, st, t, oo⟩ => ⟨ρ, S, _, st, t, fun x S1 v H1 t1 n1 r1 => by
    obtain ⟨a, rfl, hi⟩ := isDS_ok n1 r1 t1.1
    refine ⟨a, rfl, hi, ρ, S1, _, st.next n1, t1.2, fun y S2 u H2 t2 n2 r2 => ⟨ρ, S2, _, (st.next n1).next n2, t2, fun z S3 w H3 t3 n3 r3 => ?_⟩⟩
    cases e : dgetS S3 x y with
    | none => rw [e] at t3; exact t3.elim
    | some z' =>
      rw [e] at t3
      obtain ⟨b, ov, eb, g, _, r⟩ := dgetS_ok n3 (r1.mono (n2.trans n3).st) (r2.mono n3.st) e
      cases eb
      exact ⟨ov, g, oo _ _ _ _ t3 (n1.trans (n2.trans n3)) (r.getD r3)⟩⟩
end
theorem lookup_zip {K : PySem.W.Frag} {G : Hp} (f : Str) : ∀ {fs : List (Str × D)} {vs : List V}, Reps K G (fs.map (·.2)) vs → ORep K G (fs.lookup f) (((fs.map (·.1)).zip vs).lookup f)
  | [], vs, r => True.intro
  | (g, d) :: fs, vs, r => by
    simp only [List.map_cons, Reps] at r
    obtain ⟨v, t, rfl, q, s⟩ := r
    simp only [List.map_cons, List.zip_cons_cons, List.lookup_cons]
    cases h : f == g with
    | true => exact q
    | false => exact lookup_zip f s
def onIns (C : Addr) (S : Sto) (d : D) (k : Addr → List (Str × D) → Prop) : Prop := match d with
  | .ref p => match S p with
    | some (.ins C' fs) => C' = C ∧ k p fs
    | _ => False
  | _ => False
theorem onIns_ok {C : Addr} {S : Sto} {d : D} {k : Addr → List (Str × D) → Prop} (t : onIns C S d k) : ∃ p fs, d = .ref p ∧ S p = some (.ins C fs) ∧ k p fs := by
  unfold onIns at t
  split at t
  · rename_i p
    split at t
    · rename_i e
      obtain ⟨rfl, t⟩ := t
      exact ⟨p, _, rfl, e, t⟩
    · exact t.elim
  · exact t.elim
theorem onIns_at {C : Addr} {S : Sto} {p : Addr} {fs : List (Str × D)} {k : Addr → List (Str × D) → Prop} (h : S p = some (.ins C fs)) : onIns C S (.ref p) k = k p fs := by
  simp only [onIns, h, true_and]
def getF (o : Option D) (S : Sto) (P : D → Sto → Prop) : Prop := match o with
  | some d => P d S
  | none => False
def dFld (C : Addr) (f : Str) (te : TDE) : TDE := fun ρ S P => te ρ S fun x S1 => onIns C S1 x fun _ fs => getF (fs.lookup f) S1 P
def putFD (f : Str) (v : D) : List (Str × D) → List (Str × D)
  | [] => [(f, v)]
  | (g, u) :: r => if g = f then (g, v) :: r else (g, u) :: putFD f v r
def dSetFld (C : Addr) (f : Str) (to te : TDE) : TDS := fun D ρ S => te ρ S fun y S1 => to ρ S1 fun x S2 => onIns C S2 x fun p fs => fs.length < 1000 ∧ D.nx ρ (su S2 p (.ins C (putFD f y fs)))
end DL
namespace DL
open PySem L2

section
variable {X : Cx} {G0 : Hp} {o e value : Expr} {f : Str} {pos pos' : Pos} {to te : TDE} {C : Addr}
theorem de_fld (c : Cls X.K C) (na : NoAttr X.K C f) (he : DE X G0 e te) (hb : attributeBase e f X.env (eval e X.env) = eval e X.env := by rfl) : DE X G0 (.Attribute e f pos) (dFld C f te) :=
  PE.imp (pe_fld he hb) fun σ H Q ⟨ρ, S, P, st, t, oo⟩ => ⟨ρ, S, _, st, t, fun x S1 v H1 t1 n1 r1 => by
    obtain ⟨p, fs, rfl, h, t1⟩ := onIns_ok t1
    simp only [Rep] at r1
    obtain ⟨dx, vs, q, r⟩ := n1.ok p _ h
    cases e : fs.lookup f with
    | none => rw [e] at t1; exact t1.elim
    | some d =>
      rw [e] at t1
      have l := lookup_zip f r
      rw [e] at l
      obtain ⟨w, hw, rw'⟩ := l.some_of
      exact ⟨p, C, dx, _, w, r1, q, c, na, hw, oo _ _ _ _ t1 n1 rw'⟩⟩
theorem putF_zip {K : PySem.W.Frag} {G : Hp} {f : Str} {d : D} {v : V} (q : Rep K G d v) : ∀ {fs : List (Str × D)} {vs : List V}, Reps K G (fs.map (·.2)) vs →
    ∃ us, putF f v ((fs.map (·.1)).zip vs) = ((putFD f d fs).map (·.1)).zip us ∧ Reps K G ((putFD f d fs).map (·.2)) us
  | [], vs, r => by
    simp only [List.map_nil, Reps] at r; subst r
    exact ⟨[v], rfl, Reps.cons q Reps.nil⟩
  | (g, u) :: fs, vs, r => by
    simp only [List.map_cons, Reps] at r
    obtain ⟨w, t, rfl, q', s⟩ := r
    by_cases e : g = f
    · refine ⟨v :: t, ?_, ?_⟩
      · simp only [putFD, putF, List.map_cons, List.zip_cons_cons, if_pos e]
      · simp only [putFD, if_pos e, List.map_cons]; exact Reps.cons q s
    · obtain ⟨us, e1, r1⟩ := putF_zip (f := f) q s
      refine ⟨w :: us, ?_, ?_⟩
      · simp only [putFD, putF, List.map_cons, List.zip_cons_cons, if_neg e, e1]
      · simp only [putFD, if_neg e, List.map_cons]; exact Reps.cons q' r1
theorem ds_fld (c : Cls X.K C) (na : NoAttr X.K C f) (ho : DE X G0 o to) (hv : DE X G0 value te) (hs : swapsWith value (some (.Attribute o f pos')) pos.line X.env = pure false := by rfl) : DS X G0 (.Assign [.Attribute o f pos'] value pos) (dSetFld C f to te) :=
  PS.imp (ps_fld ho hv hs) fun D σ H ⟨ρ, S, dD, st, t, oo⟩ => ⟨ρ, S, _, st, t, fun y S1 v H1 t1 n1 r1 => ⟨ρ, S1, _, st.next n1, t1, fun x S2 u H2 t2 n2 r2 => by
    obtain ⟨p, fs, rfl, h, hl, t2⟩ := onIns_ok t2
    simp only [Rep] at r2
    obtain ⟨dx, vs, q, r⟩ := n2.ok p _ h
    obtain ⟨us, e1, r3⟩ := putF_zip (f := f) (r1.mono n2.st) r
    have hl2 : ((fs.map (·.1)).zip vs).length < 1000 := by rw [List.length_zip, List.length_map]; omega
    refine ⟨p, C, dx, _, r2, q, c, na, hl2, oo.nx _ _ _ _ t2 ?_⟩
    rw [e1]
    exact ((st.next n1).next n2).next (n2.write h ⟨dx, us, upd_same, r3⟩)⟩⟩
end
abbrev DSp := List D → Sto → (D → Sto → Prop) → (Addr → Sto → Prop) → Prop
def upSp (K : PySem.W.Frag) (p : DSp) : Sp := fun vs H Q E => ∃ ds S P dE, Nx K (wo H S) S H ∧ Reps K (wo H S) ds vs ∧ p ds S P dE ∧ Owe K S H P Q ∧
  ∀ C S' H', dE C S' → Nx K (wo H S) S' H' → E (.ref C) none H'
def dCall (sp : DSp) (W : WD) (ta : TDA) : TDE := fun ρ S P => ta ρ S fun ds S1 => sp ds S1 P fun C S' => W C ρ S'
def dMeth (C : Addr) (m : Str) (sp : DSp) (W : WD) (to : TDE) (ta : TDA) : TDE := fun ρ S P => to ρ S fun x S1 => onIns C S1 x fun _ fs => (fs.lookup m).isNone = true ∧ ta ρ S1 fun ds S2 => sp (x :: ds) S2 P fun C S' => W C ρ S'
def dMake (C : Addr) (sp : DSp) (W : WD) (ta : TDA) : TDE := fun ρ S P => ta ρ S fun ds S1 => ∀ x, S1 x = none → sp (.ref x :: ds) (su S1 x (.ins C [])) (fun d S2 => d = .non ∧ P (.ref x) S2) fun C S' => W C ρ S'
section
variable {X : Cx} {G0 : Hp} {k : Nat} {f C : Addr} {fd : FuncData} {ps : List Str} {sp : DSp} {W : WD} {x m : Str} {p pos apos : Pos} {e o : Expr} {es : List Expr} {ta : TDA} {to : TDE}
theorem de_call (F : FnOk X.prog X.w X.K X.mg X.base (L2.CX X.prog X.w) k f fd ps (upSp X.K sp)) (hr : Room k X.A) (hm : X.mg x = some (.ref f)) (hk : PySem.W.keepIn X.K (.ref f) = true) (hb : Binds X.K fd ps []) (tk : Takes X (upW X.K G0 W))
    (ha : DA X G0 (e :: es) ta) (hg : Gl X x := by rfl) (hdb : (x == ("__debug__" : Str)) = false := by decide) (he : starEach (e :: es) X.env = (false, eval e X.env) :: starEach es X.env := by rfl) (hpl : (backTo pos (starEach es X.env)).any (·.1) = false := by rfl) :
    DE X G0 (.Call (.Name x p) (e :: es) [] pos) (dCall sp W ta) :=
  PE.imp (pe_callS (E := WE (upW X.K G0 W)) F hr hg hm hk hb (passAt tk) ha hdb he hpl) fun σ H Q ⟨ρ, S, P, st, t, oo⟩ => ⟨ρ, S, _, st, t, fun ds S1 vs H1 t1 n1 r1 =>
    ⟨ds, S1, P, _, n1.refl, r1, t1, fun d S' v H' a b c => oo _ _ _ _ a (n1.trans b) c, fun C' S' H' w n2 => ⟨ρ, S', C', rfl, rfl, (st.next n1).next n2, w⟩⟩⟩
theorem pe_methE {sp : Sp} {E : St → XK} {pl : Sem Bool} {ta : TE} {t : TA} (he : PE X o ta) (c : Cls X.K C) (hm : Meth X.K C m f) (F : FnOk X.prog X.w X.K X.mg X.base (L2.CX X.prog X.w) k f fd ps sp) (hr : Room k X.A) (hb : Binds X.K fd ps []) (hx : ∀ σ, PassesAt (L2.CX X.prog X.w) X σ (E σ)) (ha : PA X (e :: es) t)
    (hst : starEach (e :: es) X.env = (false, eval e X.env) :: starEach es X.env := by rfl) (hpl : (backTo pos (starEach es X.env)).any (·.1) = false := by rfl)
    (ht : eval (.Call (.Attribute o m apos) (e :: es) [] pos) X.env = (do
      let ov ← eval o X.env
      standAt apos.atName
      let (f, first) ← holding [ov] (getMethod ov m pl)
      callWith pos f first (backTo pos (starEach (e :: es) X.env)) (backToKw pos (keywordEach [] X.env))) := by rfl) :
    PE X (.Call (.Attribute o m apos) (e :: es) [] pos) (fun σ H Q => ta σ H fun x H1 => ∃ a dx fs, x = .ref a ∧ H1 a = some (.ins C dx fs) ∧ fs.lookup m = none ∧ t σ H1 fun vs H2 => sp (x :: vs) H2 Q (E σ)) := by
  refine ⟨fun pins s σ H Q I h => ?_⟩
  refine PySem.W.methodCall_KW (pl := pl) (thn (he.run pins s σ H _ I h) fun u s1 ⟨x, H1, I1, rx, a, dx, fs, ex, ea, l, q⟩ => ?_) ht
  subst ex
  obtain rfl : u = Value.ref a := rx
  refine getmeth_ok I1 ea c hm l ?_
  refine PySem.W.callWith_K (first := [.ref a]) (h₀ := X.base) I.ok.mod.kin hm.kp (thn (ha.run pos pins s1 σ H1 _ I1 q) fun us s2 ⟨vs, H2, I2, r, q2⟩ => ⟨I2.kIn, ?_⟩) hst hpl
  exact run_fnS (us := .ref a :: us) (vs := .ref a :: vs) F hr hb (hx σ) I2 (.cons rfl r) q2
theorem pe_methE0 {sp : Sp} {E : St → XK} {pl : Sem Bool} {ta : TE} (he : PE X o ta) (c : Cls X.K C) (hm : Meth X.K C m f) (F : FnOk X.prog X.w X.K X.mg X.base (L2.CX X.prog X.w) k f fd ps sp) (hr : Room k X.A) (hb : Binds X.K fd ps []) (hx : ∀ σ, PassesAt (L2.CX X.prog X.w) X σ (E σ))
    (ht : eval (.Call (.Attribute o m apos) [] [] pos) X.env = (do
      let ov ← eval o X.env
      standAt apos.atName
      let (f, first) ← holding [ov] (getMethod ov m pl)
      callWith pos f first (backTo pos (starEach [] X.env)) (backToKw pos (keywordEach [] X.env))) := by rfl) :
    PE X (.Call (.Attribute o m apos) [] [] pos) (fun σ H Q => ta σ H fun x H1 => ∃ a dx fs, x = .ref a ∧ H1 a = some (.ins C dx fs) ∧ fs.lookup m = none ∧ sp [x] H1 Q (E σ)) := by
  refine ⟨fun pins s σ H Q I h => ?_⟩
  refine PySem.W.methodCall_KW (pl := pl) (thn (he.run pins s σ H _ I h) fun u s1 ⟨x, H1, I1, rx, a, dx, fs, ex, ea, l, q⟩ => ?_) ht
  subst ex
  obtain rfl : u = Value.ref a := rx
  refine getmeth_ok I1 ea c hm l ?_
  exact PySem.W.callWith_K0 (first := [.ref a]) I1.kIn hm.kp (run_fnS (us := [.ref a]) (vs := [.ref a]) F hr hb (hx σ) I1 (.cons rfl .nil) q)
theorem lookup_none {K : PySem.W.Frag} {G : Hp} {fs : List (Str × D)} {vs : List V} (r : Reps K G (fs.map (·.2)) vs) (h : (fs.lookup m).isNone = true) : ((fs.map (·.1)).zip vs).lookup m = none := by
  have l := lookup_zip m r
  cases e : fs.lookup m with
  | some d => rw [e] at h; cases h
  | none =>
    rw [e] at l
    cases e2 : ((fs.map (·.1)).zip vs).lookup m with
    | none => rfl
    | some v => rw [e2] at l; exact l.elim
theorem de_meth {pl : Sem Bool} (F : FnOk X.prog X.w X.K X.mg X.base (L2.CX X.prog X.w) k f fd ps (upSp X.K sp)) (hr : Room k X.A) (c : Cls X.K C) (hm : Meth X.K C m f) (hb : Binds X.K fd ps []) (tk : Takes X (upW X.K G0 W)) (ho : DE X G0 o to) (ha : DA X G0 (e :: es) ta)
    (hst : starEach (e :: es) X.env = (false, eval e X.env) :: starEach es X.env := by rfl) (hpl : (backTo pos (starEach es X.env)).any (·.1) = false := by rfl)
    (ht : eval (.Call (.Attribute o m apos) (e :: es) [] pos) X.env = (do
      let ov ← eval o X.env
      standAt apos.atName
      let (f, first) ← holding [ov] (getMethod ov m pl)
      callWith pos f first (backTo pos (starEach (e :: es) X.env)) (backToKw pos (keywordEach [] X.env))) := by rfl) :
    DE X G0 (.Call (.Attribute o m apos) (e :: es) [] pos) (dMeth C m sp W to ta) :=
  PE.imp (pe_methE (E := WE (upW X.K G0 W)) (pl := pl) ho c hm F hr hb (passAt tk) ha hst hpl ht) fun σ H Q ⟨ρ, S, P, st, t, oo⟩ => ⟨ρ, S, _, st, t, fun d S1 v H1 t1 n1 r1 => by
    obtain ⟨a, fs, rfl, h, hl, t1⟩ := onIns_ok t1
    simp only [Rep] at r1
    obtain ⟨dx, vs, q, r⟩ := n1.ok a _ h
    refine ⟨a, dx, _, r1, q, lookup_none r hl, ρ, S1, _, st.next n1, t1, fun ds S2 us H2 t2 n2 r2 => ?_⟩
    exact ⟨_, S2, P, _, n2.refl, Reps.cons (by simp only [Rep]; exact r1) r2, t2, fun d S' v H' a b c => oo _ _ _ _ a (n1.trans (n2.trans b)) c, fun C' S' H' w n3 => ⟨ρ, S', C', rfl, rfl, ((st.next n1).next n2).next n3, w⟩⟩⟩
theorem de_meth0 {pl : Sem Bool} (F : FnOk X.prog X.w X.K X.mg X.base (L2.CX X.prog X.w) k f fd ps (upSp X.K sp)) (hr : Room k X.A) (c : Cls X.K C) (hm : Meth X.K C m f) (hb : Binds X.K fd ps []) (tk : Takes X (upW X.K G0 W)) (ho : DE X G0 o to)
    (ht : eval (.Call (.Attribute o m apos) [] [] pos) X.env = (do
      let ov ← eval o X.env
      standAt apos.atName
      let (f, first) ← holding [ov] (getMethod ov m pl)
      callWith pos f first (backTo pos (starEach [] X.env)) (backToKw pos (keywordEach [] X.env))) := by rfl) :
    DE X G0 (.Call (.Attribute o m apos) [] [] pos) (dMeth C m sp W to dNil) :=
  PE.imp (pe_methE0 (E := WE (upW X.K G0 W)) (pl := pl) ho c hm F hr hb (passAt tk) ht) fun σ H Q ⟨ρ, S, P, st, t, oo⟩ => ⟨ρ, S, _, st, t, fun d S1 v H1 t1 n1 r1 => by
    obtain ⟨a, fs, rfl, h, hl, t1⟩ := onIns_ok t1
    simp only [Rep] at r1
    obtain ⟨dx, vs, q, r⟩ := n1.ok a _ h
    refine ⟨a, dx, _, r1, q, lookup_none r hl, ?_⟩
    exact ⟨_, S1, P, _, n1.refl, Reps.cons (by simp only [Rep]; exact r1) Reps.nil, t1, fun d S' v H' a b c => oo _ _ _ _ a (n1.trans b) c, fun C' S' H' w n3 => ⟨ρ, S', C', rfl, rfl, (st.next n1).next n3, w⟩⟩⟩
theorem run_makeE {sp : Sp} {E : St → XK} {pins : List (Addr × Obj)} {σ : St} {H : Hp} {s : Shared} {Q : VK} {us : List Value} {vs : List V} (M : Mk X.K C f) (F : FnOk X.prog X.w X.K X.mg X.base (L2.CX X.prog X.w) k f fd ps sp) (hr : Room (k + 1) X.A) (hb : Binds X.K fd ps [])
    (hx : PassesAt (L2.CX X.prog X.w) X σ (E σ)) (I : Inv X pins σ H s) (r : Vals vs us)
    (h : ∀ x dx, H x = none → H dx = none → dx ≠ x → sp (.ref x :: vs) (upd (upd H dx (.own x)) x (.ins C dx [])) (fun v H2 => v = .non ∧ Q (.ref x) H2) (E σ)) :
    wpAny (model X.prog X.w) X.A (call (.ref C) us) (EP X pins σ Q) X.xe s := by
  have hq := h (s.heap.objs.size + 1) s.heap.objs.size (I.hok.fresh (Nat.le_succ _)) (I.hok.fresh (Nat.le_refl _)) (Nat.ne_of_lt (Nat.lt_succ_self _))
  have I2 := Inv.made (C := C) I
  have r2 : Vals (V.ref (s.heap.objs.size + 1) :: vs) (Value.ref (s.heap.objs.size + 1) :: us) := .cons rfl r
  have hl : (Value.ref (s.heap.objs.size + 1) :: us ++ []).length = ps.length := by
    have e := r2.length
    rw [F.len _ _ _ _ hq] at e
    rw [List.append_nil]
    exact e.symm
  have b := hb _ (Value.ref (s.heap.objs.size + 1) :: us) I2.kIn hl
  rw [List.append_nil] at b
  refine wpAny_call (make_map (f := f) I.kIn M.makes M.init (beq_iff_eq.mp M.fn) (codeAny_mono (F.run _ X.stack _ _ ⟨Value.ref (s.heap.objs.size + 1) :: us, []⟩ (Value.ref (s.heap.objs.size + 1) :: us) _ _ (E σ) (hr.make C us [])
    (I2.env0.make C us []) b r2 hq) fun r s' hq' => ?_))
  cases r with
  | error e => exact hx pins _ _ e s' I2 hq'
  | ok fl =>
    cases fl with
    | ret u =>
      obtain ⟨v, H', I3, rv, ev, q3⟩ := I2.after hq'
      subst ev
      exact ⟨rv, ⟨V.ref (s.heap.objs.size + 1), H', I3, rfl, q3⟩⟩
    | next => exact False.elim hq'
    | brk => exact False.elim hq'
    | cont => exact False.elim hq'
theorem de_make (M : Mk X.K C f) (F : FnOk X.prog X.w X.K X.mg X.base (L2.CX X.prog X.w) k f fd ps (upSp X.K sp)) (hr : Room (k + 1) X.A) (hm : X.mg x = some (.ref C)) (hb : Binds X.K fd ps []) (tk : Takes X (upW X.K G0 W))
    (ha : DA X G0 (e :: es) ta) (hg : Gl X x := by rfl) (hdb : (x == ("__debug__" : Str)) = false := by decide) (he : starEach (e :: es) X.env = (false, eval e X.env) :: starEach es X.env := by rfl) (hpl : (backTo pos (starEach es X.env)).any (·.1) = false := by rfl) :
    DE X G0 (.Call (.Name x p) (e :: es) [] pos) (dMake C sp W ta) := by
  refine ⟨fun pins s σ H Q I h => ?_⟩
  obtain ⟨ρ, S, P, st, t, oo⟩ := h
  refine wpAny_Call_Name_kw (ld_glob I hg hm ?_ hdb)
  refine PySem.W.callWith_K (h₀ := X.base) I.ok.mod.kin M.kp (thn (ha.run pos pins s σ H (fun vs H1 => ∃ ds S1, Nx X.K (wo H S) S1 H1 ∧ Reps X.K (wo H1 S1) ds vs ∧ ∀ x, S1 x = none → sp (.ref x :: ds) (su S1 x (.ins C [])) (fun d S2 => d = .non ∧ P (.ref x) S2) fun C S' => W C ρ S') I
    ⟨ρ, S, _, st, t, fun ds S1 vs H1 t1 n1 r1 => ⟨ds, S1, n1, r1, t1⟩⟩) fun us s1 ⟨vs, H1, I1, r, ds, S1, n1, r1, t1⟩ => ⟨I1.kIn, ?_⟩) he hpl
  refine run_makeE (E := WE (upW X.K G0 W)) M F hr hb (passAt tk σ) I1 r fun x dx hx hdx hne => ?_
  have nA : Nx X.K (wo H1 S1) S1 (upd H1 dx (.own x)) := n1.alloc hdx
  have hx2 : upd H1 dx (.own x) x = none := by rw [upd_ne (Ne.symm hne)]; exact hx
  have nB : Nx X.K (wo (upd H1 dx (.own x)) S1) (su S1 x (.ins C [])) (upd (upd H1 dx (.own x)) x (.ins C dx [])) := nA.cell hx2 fun G' s => ⟨dx, [], upd_same, Reps.nil⟩
  have n2 := nA.trans nB
  refine ⟨_, _, _, _, n2.refl, Reps.cons (by simp only [Rep]) (r1.mono n2.st), t1 x (n1.free hx), fun d S' v H' a b c => ?_, fun C' S' H' w n3 => ⟨ρ, S', C', rfl, rfl, ((st.next n1).next n2).next n3, w⟩⟩
  obtain ⟨rfl, a⟩ := a
  simp only [Rep] at c
  exact ⟨c, oo _ _ _ _ a (n1.trans (n2.trans b)) (by simp only [Rep])⟩
end
def dAndT (t u : TDT) : TDT := fun ρ S P => t ρ S fun c S1 => if c = true then u ρ S1 P else P false S1
def dOrT (t u : TDT) : TDT := fun ρ S P => t ρ S fun c S1 => if c = true then P true S1 else u ρ S1 P
def dNotT (t : TDT) : TDT := fun ρ S P => t ρ S fun c S1 => P (!c) S1
def dAndV (ta tb : TDE) : TDE := fun ρ S P => ta ρ S fun x S1 => match x with
  | .bl c => if c = true then tb ρ S1 P else P (.bl false) S1
  | _ => False
def dOrV (ta tb : TDE) : TDE := fun ρ S P => ta ρ S fun x S1 => match x with
  | .bl c => if c = true then P (.bl true) S1 else tb ρ S1 P
  | _ => False
def dNotV (ta : TDE) : TDE := fun ρ S P => ta ρ S fun x S1 => match x with
  | .bl c => P (.bl (!c)) S1
  | _ => False
def dIf (t : TDT) (ta tb : TDE) : TDE := fun ρ S P => t ρ S fun c S1 => if c = true then ta ρ S1 P else tb ρ S1 P
section
variable {X : Cx} {G0 : Hp} {a b : Expr} {rest : List Expr} {ta tb : TDE} {tA tB : TDT} {pos : Pos}
theorem bl_rep {K : PySem.W.Frag} {G : Hp} {d : D} {v : V} {P : Bool → Prop} (t : match d with | .bl c => P c | _ => False) (r : Rep K G d v) : ∃ c, v = .bl c ∧ P c := by
  cases d with
  | bl c => simp only [Rep] at r; exact ⟨c, r, t⟩
  | _ => exact t.elim
theorem dt_val (h : DE X G0 a ta) (he : ∀ whole, isTrue a X.env whole = (do let v ← whole; standAt a.pos; holding [v] (truthy v)) := by intro _; rfl) : DT X G0 a (dB ta) :=
  PT.imp (pt_val h he) fun σ H Q ⟨ρ, S, P, st, t, o⟩ => ⟨ρ, S, _, st, t, fun d S1 v H1 t1 n1 r1 => by
    cases d with
    | bl c => simp only [Rep] at r1; exact ⟨c, r1, o _ _ _ t1 n1⟩
    | _ => exact t1.elim⟩
theorem up_and (σ : St) (H : Hp) (Q : Bool → Hp → Prop) (h : upT X.K G0 (dAndT tA tB) σ H Q) : tAnd (upT X.K G0 tA) (upT X.K G0 tB) σ H Q := by
  obtain ⟨ρ, S, P, st, t, o⟩ := h
  refine ⟨ρ, S, _, st, t, fun c S1 H1 t1 n1 => ?_⟩
  cases c with
  | true => exact ⟨ρ, S1, _, st.next n1, t1, fun b S' H' p n => o _ _ _ p (n1.trans n)⟩
  | false => exact o _ _ _ t1 n1
theorem up_or (σ : St) (H : Hp) (Q : Bool → Hp → Prop) (h : upT X.K G0 (dOrT tA tB) σ H Q) : tOr (upT X.K G0 tA) (upT X.K G0 tB) σ H Q := by
  obtain ⟨ρ, S, P, st, t, o⟩ := h
  refine ⟨ρ, S, _, st, t, fun c S1 H1 t1 n1 => ?_⟩
  cases c with
  | true => exact o _ _ _ t1 n1
  | false => exact ⟨ρ, S1, _, st.next n1, t1, fun b S' H' p n => o _ _ _ p (n1.trans n)⟩
theorem dw_and1 (ha : DT X G0 a tA) : DW X G0 (.BoolOp .And [a] pos) tA := pw_and1 ha
theorem dw_or1 (ha : DT X G0 a tA) : DW X G0 (.BoolOp .Or [a] pos) tA := pw_or1 ha
theorem dw_and (ha : DT X G0 a tA) (hb : DW X G0 (.BoolOp .And (b :: rest) pos) tB) : DW X G0 (.BoolOp .And (a :: b :: rest) pos) (dAndT tA tB) := PW.imp (pw_and ha hb) up_and
theorem dw_or (ha : DT X G0 a tA) (hb : DW X G0 (.BoolOp .Or (b :: rest) pos) tB) : DW X G0 (.BoolOp .Or (a :: b :: rest) pos) (dOrT tA tB) := PW.imp (pw_or ha hb) up_or
theorem dt_w {e : Expr} (h : DW X G0 e tA) : DT X G0 e tA := PW.pt h
theorem dt_not (ha : DT X G0 a tA) : DT X G0 (.UnaryOp .Not a pos) (dNotT tA) := PT.imp (pt_not ha) fun σ H Q ⟨ρ, S, P, st, t, o⟩ => ⟨ρ, S, _, st, t, fun c S1 H1 t1 n1 => o _ _ _ t1 n1⟩
theorem de_one {op} (h : DE X G0 a ta) : DE X G0 (.BoolOp op [a] pos) ta := pe_one h
theorem de_and (ha : DE X G0 a ta) (hb : DE X G0 (.BoolOp .And (b :: rest) pos) tb) : DE X G0 (.BoolOp .And (a :: b :: rest) pos) (dAndV ta tb) :=
  PE.imp (pe_and ha hb) fun σ H Q ⟨ρ, S, P, st, t, o⟩ => ⟨ρ, S, _, st, t, fun d S1 v H1 t1 n1 r1 => by
    cases d with
    | bl c =>
      simp only [Rep] at r1
      refine ⟨c, r1, ?_⟩
      cases c with
      | true => exact ⟨ρ, S1, _, st.next n1, t1, fun d S' v H' p n r => o _ _ _ _ p (n1.trans n) r⟩
      | false => exact o _ _ _ _ t1 n1 (by simp only [Rep])
    | _ => exact t1.elim⟩
theorem de_or (ha : DE X G0 a ta) (hb : DE X G0 (.BoolOp .Or (b :: rest) pos) tb) : DE X G0 (.BoolOp .Or (a :: b :: rest) pos) (dOrV ta tb) :=
  PE.imp (pe_or ha hb) fun σ H Q ⟨ρ, S, P, st, t, o⟩ => ⟨ρ, S, _, st, t, fun d S1 v H1 t1 n1 r1 => by
    cases d with
    | bl c =>
      simp only [Rep] at r1
      refine ⟨c, r1, ?_⟩
      cases c with
      | true => exact o _ _ _ _ t1 n1 (by simp only [Rep])
      | false => exact ⟨ρ, S1, _, st.next n1, t1, fun d S' v H' p n r => o _ _ _ _ p (n1.trans n) r⟩
    | _ => exact t1.elim⟩
theorem de_not (ha : DE X G0 a ta) : DE X G0 (.UnaryOp .Not a pos) (dNotV ta) :=
  PE.imp (pe_not ha) fun σ H Q ⟨ρ, S, P, st, t, o⟩ => ⟨ρ, S, _, st, t, fun d S1 v H1 t1 n1 r1 => by
    cases d with
    | bl c => simp only [Rep] at r1; exact ⟨c, r1, o _ _ _ _ t1 n1 (by simp only [Rep])⟩
    | _ => exact t1.elim⟩
theorem de_if {c : Expr} (hc : DT X G0 c tA) (ha : DE X G0 a ta) (hb : DE X G0 b tb) : DE X G0 (.IfExp c a b pos) (dIf tA ta tb) :=
  PE.imp (pe_ifExp hc ha hb) fun σ H Q ⟨ρ, S, P, st, t, o⟩ => ⟨ρ, S, _, st, t, fun c S1 H1 t1 n1 => by
    cases c with
    | true => exact ⟨ρ, S1, _, st.next n1, t1, fun d S' v H' p n r => o _ _ _ _ p (n1.trans n) r⟩
    | false => exact ⟨ρ, S1, _, st.next n1, t1, fun d S' v H' p n r => o _ _ _ _ p (n1.trans n) r⟩⟩
end
end DL
namespace DL
open PySem L2
def dNext : TDS := fun D ρ S => D.nx ρ S
def dSeq (t u : TDS) : TDS := fun D ρ S => t { D with nx := u D } ρ S
def dDrop (te : TDE) : TDS := fun D ρ S => te ρ S fun _ S1 => D.nx ρ S1
def dRet (te : TDE) : TDS := fun D ρ S => te ρ S D.rt
def dRetN : TDS := fun D _ S => D.rt .non S
def dIfS (c : TDT) (t u : TDS) : TDS := fun D ρ S => c ρ S fun b S1 => if b = true then t D ρ S1 else u D ρ S1
def dCont : TDS := fun D ρ S => D.ct ρ S
abbrev TDG := D → Env' → Sto → (Env' → Sto → Prop) → Prop
def dgN (i : Nat) : TDG := fun d ρ S P => P (ρ.set i (some d)) S
def dgSeq : List Nat → List D → Env' → Option Env'
  | [], [], ρ => some ρ
  | i :: is, d :: ds, ρ => dgSeq is ds (ρ.set i (some d))
  | _, _, _ => none
def dgT (is : List Nat) : TDG := fun d ρ S P => match d with
  | .tup ds => match dgSeq is ds ρ with
    | some ρ' => P ρ' S
    | none => False
  | _ => False
def dAsg (te : TDE) (g : TDG) : TDS := fun D ρ S => te ρ S fun d S1 => g d ρ S1 D.nx
def setD (o i d : D) (S : Sto) (P : Sto → Prop) : Prop := match o with
  | .ref p => match S p with
    | some (.ml xs) => match i with
      | .int k => match ixN xs.length k with
        | some j => P (su S p (.ml (xs.set j d)))
        | none => False
      | _ => False
    | some (.dI kvs) => match kI i with
      | some k => kvs.length < sizeLine ∧ P (su S p (.dI (dput kvs k d)))
      | none => False
    | some (.dS kvs) => match i with
      | .str z => kvs.length < sizeLine ∧ P (su S p (.dS (dput kvs z d)))
      | _ => False
    | _ => False
  | _ => False
def dSetIx (to ti te : TDE) : TDS := fun D ρ S => te ρ S fun d S1 => to ρ S1 fun o S2 => ti ρ S2 fun i S3 => setD o i d S3 fun S4 => D.nx ρ S4

section
variable {X : Cx} {G0 : Hp} {st : Stmt} {rest : List Stmt} {t u : TDS} {pos : Pos} {e : Expr} {te : TDE}
theorem EndsUp.nx' {K : PySem.W.Frag} {dD : DEnds} {D : Ends} (x : EndsUp K G0 dD D) {n' : Env' → Sto → Prop} {n : St → Hp → Prop} (h : ∀ ρ S σ H, n' ρ S → Stt K G0 ρ S σ H → n σ H) : EndsUp K G0 { dD with nx := n' } { D with nx := n } :=
  ⟨h, x.rt, x.bk, x.ct⟩
theorem dss_nil : DSs X G0 [] dNext := PSs.imp pss_nil fun D σ H ⟨ρ, S, dD, s, t, o⟩ => o.nx _ _ _ _ t s
theorem dss_cons (h1 : DS X G0 st t) (h2 : DSs X G0 rest u) : DSs X G0 (st :: rest) (dSeq t u) := PSs.imp (pss_cons h1 h2) fun D σ H ⟨ρ, S, dD, s, t, o⟩ =>
  ⟨ρ, S, _, s, t, o.nx' fun ρ S σ H x s' => ⟨ρ, S, dD, s', x, o⟩⟩
theorem dss_one (h1 : DS X G0 st t) : DSs X G0 [st] t := pss_one h1
theorem ds_pass : DS X G0 (.Pass pos) dNext := PS.imp ps_pass fun D σ H ⟨ρ, S, dD, s, t, o⟩ => o.nx _ _ _ _ t s
theorem ds_cont : DS X G0 (.Continue pos) dCont := PS.imp ps_continue fun D σ H ⟨ρ, S, dD, s, t, o⟩ => o.ct _ _ _ _ t s
theorem ds_doc {x j pos pos'} : DS X G0 (.Expr (.Constant (.str x) j pos) pos') dNext := PS.imp ps_doc fun D σ H ⟨ρ, S, dD, s, t, o⟩ => o.nx _ _ _ _ t s
theorem ds_expr (he : DE X G0 e te) (hs : swapsWith e none pos.line X.env = pure false := by rfl) : DS X G0 (.Expr e pos) (dDrop te) := PS.imp (ps_expr he hs) fun D σ H ⟨ρ, S, dD, s, t, o⟩ =>
  ⟨ρ, S, _, s, t, fun d S' v H' a b c => o.nx _ _ _ _ a (s.next b)⟩
theorem ds_ret (he : DE X G0 e te) : DS X G0 (.Return (some e) pos) (dRet te) := PS.imp (ps_ret he) fun D σ H ⟨ρ, S, dD, s, t, o⟩ =>
  ⟨ρ, S, _, s, t, fun d S' v H' a b c => o.rt _ _ _ _ a (s.nx.trans b) c⟩
theorem ds_retN : DS X G0 (.Return none pos) dRetN := PS.imp ps_retN fun D σ H ⟨ρ, S, dD, s, t, o⟩ => o.rt _ _ _ _ t s.nx (by simp only [Rep])
theorem ds_if {c : Expr} {a b : List Stmt} {tc : TDT} (hc : DT X G0 c tc) (ha : DSs X G0 a t) (hb : DSs X G0 b u) : DS X G0 (.If c a b pos) (dIfS tc t u) := PS.imp (ps_if hc ha hb) fun D σ H ⟨ρ, S, dD, s, t, o⟩ =>
  ⟨ρ, S, _, s, t, fun c S1 H1 t1 n1 => by
    cases c with
    | true => exact ⟨ρ, S1, dD, s.next n1, t1, o⟩
    | false => exact ⟨ρ, S1, dD, s.next n1, t1, o⟩⟩
def LiftG (K : PySem.W.Frag) (g : TG) (g' : TDG) : Prop := ∀ G0 d v ρ S σ H P Q, Stt K G0 ρ S σ H → Rep K (wo H S) d v → g' d ρ S P → (∀ ρ' σ', P ρ' S → Stt K G0 ρ' S σ' H → Q σ' H) → g v σ H Q
theorem lift_gN {K : PySem.W.Frag} {i : Nat} : LiftG K (gName i) (dgN i) := fun G0 d v ρ S σ H P Q s r t o => o _ _ t ⟨s.env.set r, s.nx⟩
theorem lift_gSeq {K : PySem.W.Frag} {tg : TGs} : ∀ {is : List Nat}, tg = (is.foldr (fun i t => gCons (gName i) t) gNil) → ∀ {G0 : Hp} {ds : List D} {vs : List V} {ρ ρ' : Env'} {S : Sto} {σ : St} {H : Hp} {Q : St → Hp → Prop},
    Stt K G0 ρ S σ H → Reps K (wo H S) ds vs → dgSeq is ds ρ = some ρ' → (∀ σ', Stt K G0 ρ' S σ' H → Q σ' H) → tg vs σ H Q
  | [], e, G0, ds, vs, ρ, ρ', S, σ, H, Q, s, r, h, o => by
    subst e
    cases ds with
    | nil =>
      simp only [Reps] at r
      cases h
      exact ⟨r, o _ s⟩
    | cons _ _ => cases h
  | i :: is, e, G0, ds, vs, ρ, ρ', S, σ, H, Q, s, r, h, o => by
    subst e
    cases ds with
    | nil => cases h
    | cons d ds =>
      simp only [Reps] at r
      obtain ⟨v, t, rfl, q, r⟩ := r
      exact ⟨v, t, rfl, lift_gSeq rfl (ρ := ρ.set i (some d)) (σ := σ.set i (some v)) ⟨s.env.set q, s.nx⟩ r h o⟩
theorem dgSeq_len : ∀ {is : List Nat} {ds : List D} {ρ ρ' : Env'}, dgSeq is ds ρ = some ρ' → ds.length = is.length
  | [], [], _, _, _ => rfl
  | _ :: is, _ :: ds, ρ, ρ', h => by rw [List.length_cons, List.length_cons, dgSeq_len (is := is) (ds := ds) h]
  | [], _ :: _, _, _, h => by cases h
  | _ :: _, [], _, _, h => by cases h
theorem lift_gT {K : PySem.W.Frag} {is : List Nat} {n : Nat} (hn : n = is.length) : LiftG K (gTup K n (is.foldr (fun i t => gCons (gName i) t) gNil)) (dgT is) := fun G0 d v ρ S σ H P Q s r t o => by
  cases d with
  | tup ds =>
    simp only [dgT] at t
    cases e : dgSeq is ds ρ with
    | none => rw [e] at t; exact t.elim
    | some ρ' =>
      rw [e] at t
      simp only [Rep] at r
      obtain ⟨a, vs, rfl, q, r⟩ := r
      exact ⟨a, vs, rfl, SqT.of (wo_le _ _ _ _ q), by rw [← r.len, dgSeq_len e, hn], lift_gSeq rfl s r e fun σ' s' => o _ _ t s'⟩
  | _ => exact t.elim
theorem ds_asg {tg : Expr} {g : TG} {g' : TDG} (he : DE X G0 e te) (hg : PG X tg g) (hl : LiftG X.K g g') (hs : swapsWithSole [tg] e pos.line X.env = pure false := by rfl) (hw : swappedStores [tg] e X.env = pure none := by rfl)
    (h1 : (assignEach [tg] X.env).map (·.2) = [assign tg X.env] := by rfl) : DS X G0 (.Assign [tg] e pos) (dAsg te g') :=
  PS.imp (ps_asg he hg hs hw h1) fun D σ H ⟨ρ, S, dD, s, t, o⟩ => ⟨ρ, S, _, s, t, fun d S' v H' a b c => hl _ _ _ _ _ _ _ _ _ (s.next b) c a fun ρ' σ' p s' => o.nx _ _ _ _ p s'⟩
theorem ds_set (i : Nat) {x : Str} {pos' : Pos} (hN : X.N.Nodup) (he : DE X G0 e te) (hi : X.N[i]? = some x := by rfl) (hx : Loc X.env.scope x := by first | exact Or.inl rfl | exact Or.inr rfl) (hs : swapsWith e (some (.Name x pos')) pos.line X.env = pure false := by rfl)
    (hf : X.fn x = true ∨ X.env.scope.names.lookup x = some .local := by first | exact .inr rfl | exact .inl rfl) : DS X G0 (.Assign [.Name x pos'] e pos) (dAsg te (dgN i)) :=
  PS.imp (ps_set hN hi hx he hs hf) fun D σ H ⟨ρ, S, dD, s, t, o⟩ => ⟨ρ, S, _, s, t, fun d S' v H' a b c => lift_gN _ _ _ _ _ _ _ _ _ (s.next b) c a fun ρ' σ' p s' => o.nx _ _ _ _ p s'⟩
theorem setD_ok {K : PySem.W.Frag} {G H : Hp} {S : Sto} {o i d : D} {ov iv v : V} {P : Sto → Prop} {Q : Hp → Prop} (n : Nx K G S H) (ro : Rep K (wo H S) o ov) (ri : Rep K (wo H S) i iv) (rd : Rep K (wo H S) d v) (t : setD o i d S P)
    (oo : ∀ S' H', P S' → Nx K (wo H S) S' H' → Q H') : rSetL ov iv v H Q ∨ ∃ a H', ov = .ref a ∧ DPut H a iv v H' ∧ Q H' := by
  cases o with
  | ref p =>
    simp only [Rep] at ro
    simp only [setD] at t
    cases h : S p with
    | none => rw [h] at t; exact t.elim
    | some c =>
      rw [h] at t
      cases c with
      | ml xs =>
        cases i with
        | int k =>
          dsimp only at t
          cases e : ixN xs.length k with
          | none => rw [e] at t; exact t.elim
          | some j =>
            rw [e] at t
            simp only [Rep] at ri
            obtain ⟨us, q, r⟩ := n.ok p _ h
            exact .inl ⟨p, us, k, j, ro, ri, q, by rw [← r.len]; exact e, oo _ _ t (n.write h ⟨_, upd_same, r.set rd j⟩)⟩
        | _ => exact t.elim
      | dI kvs =>
        dsimp only at t
        cases e : kI i with
        | none => rw [e] at t; exact t.elim
        | some k =>
          rw [e] at t
          obtain ⟨us, q, r⟩ := n.ok p _ h
          obtain ⟨b, rfl, hb⟩ := kI_rep (wo_le H S) ri e
          obtain ⟨ws, e2, r2⟩ := zip_put (f := fun k : List Int => (k.map Sum.inl : List Key)) inl_inj k rd r
          refine .inr ⟨p, _, ro, DPut.t (v := v) q hb ?_, oo _ _ t.2 (n.write h ⟨ws, ?_, r2⟩)⟩
          · rw [List.length_zip, List.length_map]; have := t.1; omega
          · rw [upd_same]; exact congrArg (fun z => some (HO.dT z)) e2
      | dS kvs =>
        cases i with
        | str z =>
          dsimp only at t
          simp only [Rep] at ri
          subst ri
          obtain ⟨us, q, r⟩ := n.ok p _ h
          obtain ⟨ws, e2, r2⟩ := zip_put (f := fun k : Str => (Sum.inr k : Key)) inr_inj z rd r
          refine .inr ⟨p, _, ro, DPut.k (k := Sum.inr z) (v := v) q ?_, oo _ _ t.2 (n.write h ⟨ws, ?_, r2⟩)⟩
          · rw [List.length_zip, List.length_map]; have := t.1; omega
          · rw [upd_same]; exact congrArg (fun z => some (HO.dK z)) e2
        | _ => exact t.elim
      | ins _ _ => exact t.elim
  | _ => exact t.elim
theorem ds_setIx {k : Nat} {o i : Expr} {pos' : Pos} {to ti : TDE} (hr : Room k X.A) (ho : DE X G0 o to) (hi : DE X G0 i ti) (he : DE X G0 e te)
    (ha : ∀ v, assign (.Subscript o i pos') X.env v = (do
      let ov ← holding [v] (eval o X.env)
      let iv ← holding [v, ov] (eval i X.env)
      standAt pos'
      holding [v, ov, iv] (setItem ov iv v)
      release [v, ov, iv] []) := by intro _; rfl)
    (hs : swapsWithSole [.Subscript o i pos'] e pos.line X.env = pure false := by rfl) (hw : swappedStores [.Subscript o i pos'] e X.env = pure none := by rfl)
    (h1 : (assignEach [.Subscript o i pos'] X.env).map (·.2) = [assign (.Subscript o i pos') X.env] := by rfl) : DS X G0 (.Assign [.Subscript o i pos'] e pos) (dSetIx to ti te) :=
  PS.imp (ps_asg he (pg_sub ho hi (PSet.or set_list (set_dict (hu_of hr))) ha) hs hw h1) fun D σ H ⟨ρ, S, dD, s, t, oo⟩ => ⟨ρ, S, _, s, t, fun d S1 v H1 t1 n1 r1 => ⟨ρ, S1, _, s.next n1, t1, fun o S2 ov H2 t2 n2 r2 => ⟨ρ, S2, _, (s.next n1).next n2, t2, fun i S3 iv H3 t3 n3 r3 =>
    setD_ok n3 (r2.mono n3.st) r3 (r1.mono (n2.trans n3).st) t3 fun S' H' p n => oo.nx _ _ _ _ p ((((s.next n1).next n2).next n3).next n)⟩⟩⟩
end
def dGo (still : Sto → Prop) (g : TDG) (tb : TDS) (E : DEnds) : List D → Env' → Sto → Prop
  | [], ρ, S => still S ∧ E.nx ρ S
  | x :: r, ρ, S => still S ∧ g x ρ S fun ρ' S' => tb { nx := dGo still g tb E r, ct := dGo still g tb E r, bk := E.nx, rt := E.rt } ρ' S'
def dForK (o : Option (List D)) (d : D) (g : TDG) (tb : TDS) (E : DEnds) (ρ : Env') (S : Sto) : Prop := match o with
  | some xs => dGo (fun S' => vl S' d = some xs) g tb E xs ρ S
  | none => False
def dFor (te : TDE) (g : TDG) (tb : TDS) : TDS := fun E ρ S => te ρ S fun d S1 => dForK (vl S1 d) d g tb E ρ S1
def intsD (lo : Int) (n : Nat) : List D := (List.range n).map fun i => .int (lo + (i : Nat))
def rng1 (k : Int → Nat → Sto → Prop) : List D → Sto → Prop := fun xs S1 => match xs with
  | [.int j] => (-(2 ^ 62) ≤ j ∧ j < 2 ^ 62) ∧ k 0 j.toNat S1
  | _ => False
def rng2 (k : Int → Nat → Sto → Prop) : List D → Sto → Prop := fun xs S1 => match xs with
  | [.int i, .int j] => (-(2 ^ 62) ≤ i ∧ i < 2 ^ 62 ∧ -(2 ^ 62) ≤ j ∧ j < 2 ^ 62) ∧ k i (j - i).toNat S1
  | _ => False
def dFor1 (ta : TDA) (g : TDG) (tb : TDS) : TDS := fun E ρ S => ta ρ S fun xs S1 => rng1 (fun lo n S1 => dGo (fun _ => True) g tb E (intsD lo n) ρ S1) xs S1
def dFor2 (ta : TDA) (g : TDG) (tb : TDS) : TDS := fun E ρ S => ta ρ S fun xs S1 => rng2 (fun lo n S1 => dGo (fun _ => True) g tb E (intsD lo n) ρ S1) xs S1
def dWh (c : TDT) (tb : TDS) (E : DEnds) : Nat → Env' → Sto → Prop
  | 0, _, _ => False
  | n + 1, ρ, S => c ρ S fun b S1 => if b = true then tb { nx := dWh c tb E n, ct := dWh c tb E n, bk := E.nx, rt := E.rt } ρ S1 else E.nx ρ S1
def dWhile (c : TDT) (tb : TDS) : TDS := fun E ρ S => ∃ n, dWh c tb E n ρ S
section
variable {X : Cx} {G0 : Hp} {pos : Pos} {te : TDE} {W : WD}
theorem dGo_still {still : Sto → Prop} {g : TDG} {tb : TDS} {E : DEnds} {xs : List D} {ρ : Env'} {S : Sto} (h : dGo still g tb E xs ρ S) : still S := by
  cases xs with
  | nil => exact h.1
  | cons _ _ => exact h.1
theorem intsD_len {lo : Int} {n : Nat} : (intsD lo n).length = n := by simp [intsD]
theorem intsD_get {lo : Int} {n i : Nat} (h : i < (intsD lo n).length) : (intsD lo n)[i] = .int (lo + (i : Nat)) := by
  simp [intsD]
theorem Stt.le {K : PySem.W.Frag} {G G' H : Hp} {ρ : Env'} {S : Sto} {σ : St} (x : Stt K G' ρ S σ H) (h : Same G G') : Stt K G ρ S σ H := ⟨x.env, x.nx.le h⟩
theorem Takes.le {K : PySem.W.Frag} {G G' : Hp} (tk : Takes X (upW K G W)) (h : Same G G') : Takes X (upW K G' W) := tk.imp fun c d σ H ⟨ρ, S, C, e1, e2, s, w⟩ => ⟨ρ, S, C, e1, e2, s.le h, w⟩
theorem EndsUp.loop {K : PySem.W.Frag} {G G' : Hp} {dD : DEnds} {D : Ends} (x : EndsUp K G dD D) (le : Same G G') {n' : Env' → Sto → Prop} {n : St → Hp → Prop} (h : ∀ ρ S σ H, n' ρ S → Stt K G' ρ S σ H → n σ H) :
    EndsUp K G' { nx := n', ct := n', bk := dD.nx, rt := dD.rt } { D with nx := n, ct := n, bk := D.nx } := ⟨h, fun d S v H a b c => x.rt d S v H a (b.le le) c, fun ρ S σ H a b => x.nx ρ S σ H a (b.le le), h⟩
theorem ds_for {iter tg : Expr} {body : List Stmt} {g : TG} {g' : TDG} {tb : TDS} (hp : PassesOwn (model X.prog X.w) X.A X.env X.xe) (hc : X.calm = true) (tk : Takes X (upW X.K G0 W)) (hi : DE X G0 iter te) (hg : PG X tg g) (hl : LiftG X.K g g')
    (hb : ∀ G1, Takes X (upW X.K G1 W) → DSs X G1 body tb) (hs : ∀ x, foldedSetIterable iter X.env x = pure x := by intro _; rfl) : DS X G0 (.For tg iter body [] pos) (dFor te g' tb) := by
  have key : PS X (.For tg iter body [] pos) (tFor (iList X.K (upE X.K G0 te)) g (fun D σ H => ∃ G1, Takes X (upW X.K G1 W) ∧ upS X.K G1 tb D σ H)) :=
    ps_for hp hc (pi_list hi) hg (tb := fun D σ H => ∃ G1, Takes X (upW X.K G1 W) ∧ upS X.K G1 tb D σ H) ⟨fun pins s σ H D I ⟨G1, tk1, h⟩ => (hb G1 tk1).run pins s σ H D I h⟩ hs
  refine PS.imp key fun E σ H ⟨ρ, S, dD, s, t, o⟩ => ⟨ρ, S, _, s, t, fun d S1 v H1 t1 n1 r1 => ?_⟩
  cases e : vl S1 d with
  | none => rw [e] at t1; exact t1.elim
  | some xs =>
    rw [e] at t1
    simp only [dForK] at t1
    obtain ⟨a, vs, ev, q, r⟩ := vl_rep n1 r1 e
    refine ⟨a, ev, ⟨vs, q⟩, fun i m σ H => m = xs.length - i ∧ i ≤ xs.length ∧ ∃ ρ' S', Stt X.K G0 ρ' S' σ H ∧ Rep X.K (wo H S') d v ∧ dGo (fun S' => vl S' d = some xs) g' tb dD (xs.drop i) ρ' S', ⟨_, rfl, Nat.zero_le _, ρ, S1, s.next n1, r1, t1⟩, ?_⟩
    rintro i m σ2 H2 ⟨rfl, hi', ρ2, S2, s2, rd, go⟩
    have st := dGo_still go
    obtain ⟨a', vs', ev', q', r'⟩ := vl_rep s2.nx.refl rd st
    have ea : a' = a := by rw [ev] at ev'; exact (V.ref.inj ev').symm
    subst ea
    by_cases hlt : i < xs.length
    · rw [List.drop_eq_getElem_cons hlt] at go
      refine .inr ⟨⟨vs', vs'[i]'(by rw [← r'.len]; exact hlt), q', by simp⟩, fun σ3 H3 => i + 1 ≤ xs.length ∧ ∃ ρ' S', Stt X.K G0 ρ' S' σ3 H3 ∧ Rep X.K (wo H3 S') d v ∧ dGo (fun S' => vl S' d = some xs) g' tb dD (xs.drop (i + 1)) ρ' S',
        fun σ3 H3 z => ⟨xs.length - (i + 1), by omega, rfl, z.1, z.2⟩, fun x H3 y => ?_⟩
      obtain ⟨e3, y⟩ := y
      cases e3
      have hx := y vs' q'
      obtain ⟨w, hw, rw'⟩ := r'.get (i := i) (d := xs[i]) (by simp [hlt])
      have ew : x = w := by rw [hx] at hw; exact Option.some.inj hw
      subst ew
      refine hl (wo H2 S2) _ _ _ _ _ _ _ _ ⟨s2.env, s2.nx.refl⟩ rw' go.2 fun ρ3 σ3 p s3 => ?_
      exact ⟨wo H2 S2, Takes.le tk s2.nx.st, ρ3, S2, _, s3, p, o.loop s2.nx.st fun ρ4 S4 σ4 H4 z s4 => ⟨hlt, ρ4, S4, s4.le s2.nx.st, rd.mono s4.nx.st, z⟩⟩
    · have e' : i = xs.length := by omega
      subst e'
      rw [List.drop_length] at go
      exact .inl ⟨⟨vs', q', by rw [← r'.len]; exact Nat.le_refl _⟩, o.nx _ _ _ _ go.2 s2⟩
theorem go_rng {body : List Stmt} {g : TG} {g' : TDG} {tb : TDS} {lo : Int} {n : Nat} (tk : Takes X (upW X.K G0 W)) (hl : LiftG X.K g g') {dD : DEnds} {E : Ends} (o : EndsUp X.K G0 dD E) {ρ : Env'} {S : Sto} {σ : St} {H : Hp} (s : Stt X.K G0 ρ S σ H)
    (t : dGo (fun _ => True) g' tb dD (intsD lo n) ρ S) : ∃ Wi : Nat → Nat → St → Hp → Prop, (∃ m, Wi 0 m σ H) ∧ ∀ i m σ H, Wi i m σ H →
      ((Itr lo n).stop i H ∧ E.nx σ H) ∨ ((Itr lo n).go i H ∧ ∃ N : St → Hp → Prop, (∀ σ' H', N σ' H' → ∃ m', m' < m ∧ Wi (i + 1) m' σ' H') ∧ ∀ x H', (Itr lo n).yld i H x H' → g x σ H' fun σ2 H2 => (fun D σ H => ∃ G1, Takes X (upW X.K G1 W) ∧ upS X.K G1 tb D σ H) { E with nx := N, ct := N, bk := E.nx } σ2 H2) := by
  refine ⟨fun i m σ H => m = n - i ∧ i ≤ n ∧ ∃ ρ' S', Stt X.K G0 ρ' S' σ H ∧ dGo (fun _ => True) g' tb dD ((intsD lo n).drop i) ρ' S', ⟨_, rfl, Nat.zero_le _, ρ, S, s, t⟩, ?_⟩
  rintro i m σ2 H2 ⟨rfl, hi', ρ2, S2, s2, go⟩
  by_cases hlt : i < n
  · have hlt' : i < (intsD lo n).length := by rw [intsD_len]; exact hlt
    rw [List.drop_eq_getElem_cons hlt', intsD_get hlt'] at go
    refine .inr ⟨hlt, fun σ3 H3 => i + 1 ≤ n ∧ ∃ ρ' S', Stt X.K G0 ρ' S' σ3 H3 ∧ dGo (fun _ => True) g' tb dD ((intsD lo n).drop (i + 1)) ρ' S', fun σ3 H3 z => ⟨n - (i + 1), by omega, rfl, z.1, z.2⟩, fun x H3 y => ?_⟩
    obtain ⟨e3, e4⟩ := y
    cases e3
    cases e4
    refine hl G0 (.int (lo + (i : Nat))) _ _ _ _ _ _ _ s2 (by simp only [Rep]) go.2 fun ρ3 σ3 p s3 => ?_
    exact ⟨G0, tk, ρ3, S2, _, s3, p, o.loop (Same.refl _) fun ρ4 S4 σ4 H4 z s4 => ⟨hlt, ρ4, S4, s4, z⟩⟩
  · have e' : i = n := by omega
    subst e'
    rw [List.drop_of_length_le (by rw [intsD_len]; exact Nat.le_refl _)] at go
    exact .inl ⟨Nat.le_refl _, o.nx _ _ _ _ go.2 s2⟩
theorem rng1_ok {k : Int → Nat → Sto → Prop} {xs : List D} {S : Sto} (t : rng1 k xs S) : ∃ j : Int, xs = [.int j] ∧ (-(2 ^ 62) ≤ j ∧ j < 2 ^ 62) ∧ k 0 j.toNat S := by
  unfold rng1 at t
  split at t
  · exact ⟨_, rfl, t⟩
  · exact t.elim
theorem rng2_ok {k : Int → Nat → Sto → Prop} {xs : List D} {S : Sto} (t : rng2 k xs S) : ∃ i j : Int, xs = [.int i, .int j] ∧ (-(2 ^ 62) ≤ i ∧ i < 2 ^ 62 ∧ -(2 ^ 62) ≤ j ∧ j < 2 ^ 62) ∧ k i (j - i).toNat S := by
  unfold rng2 at t
  split at t
  · exact ⟨_, _, rfl, t⟩
  · exact t.elim
theorem ds_for1 {a tg : Expr} {ta : TDA} {body : List Stmt} {g : TG} {g' : TDG} {tb : TDS} {p pos2 : Pos} (hp : PassesOwn (model X.prog X.w) X.A X.env X.xe) (hc : X.calm = true) (tk : Takes X (upW X.K G0 W)) (hm : X.mg "range" = none) (ha : DA X G0 [a] ta) (hg : PG X tg g) (hl : LiftG X.K g g')
    (hb : ∀ G1, Takes X (upW X.K G1 W) → DSs X G1 body tb) (hgl : Gl X "range" := by rfl) (hse : starEach [a] X.env = [(false, eval a X.env)] := by rfl)
    (hs : ∀ x, foldedSetIterable (.Call (.Name "range" p) [a] [] pos2) X.env x = pure x := by intro _; rfl) : DS X G0 (.For tg (.Call (.Name "range" p) [a] [] pos2) body [] pos) (dFor1 ta g' tb) := by
  have key : PS X (.For tg (.Call (.Name "range" p) [a] [] pos2) body [] pos) (tFor (iRng1 (upA X.K G0 ta)) g (fun D σ H => ∃ G1, Takes X (upW X.K G1 W) ∧ upS X.K G1 tb D σ H)) :=
    ps_for hp hc (pi_range1 hgl hm ha hse) hg (tb := fun D σ H => ∃ G1, Takes X (upW X.K G1 W) ∧ upS X.K G1 tb D σ H) ⟨fun pins s σ H D I ⟨G1, tk1, h⟩ => (hb G1 tk1).run pins s σ H D I h⟩ hs
  refine PS.imp key fun E σ H ⟨ρ, S, dD, s, t, o⟩ => ⟨ρ, S, _, s, t, fun xs S1 vs H1 t1 n1 r1 => ?_⟩
  obtain ⟨j, rfl, hj, t1⟩ := rng1_ok t1
  obtain ⟨v, rfl, r⟩ := r1.one
  simp only [Rep] at r
  subst r
  exact ⟨j, rfl, hj.1, hj.2, go_rng (body := body) tk hl o (s.next n1) t1⟩
theorem ds_for2 {a b tg : Expr} {ta : TDA} {body : List Stmt} {g : TG} {g' : TDG} {tb : TDS} {p pos2 : Pos} (hp : PassesOwn (model X.prog X.w) X.A X.env X.xe) (hc : X.calm = true) (tk : Takes X (upW X.K G0 W)) (hm : X.mg "range" = none) (ha : DA X G0 [a, b] ta) (hg : PG X tg g) (hl : LiftG X.K g g')
    (hb : ∀ G1, Takes X (upW X.K G1 W) → DSs X G1 body tb) (hgl : Gl X "range" := by rfl) (hse : starEach [a, b] X.env = [(false, eval a X.env), (false, eval b X.env)] := by rfl) (hse2 : starEach [b] X.env = [(false, eval b X.env)] := by rfl)
    (hs : ∀ x, foldedSetIterable (.Call (.Name "range" p) [a, b] [] pos2) X.env x = pure x := by intro _; rfl) : DS X G0 (.For tg (.Call (.Name "range" p) [a, b] [] pos2) body [] pos) (dFor2 ta g' tb) := by
  have key : PS X (.For tg (.Call (.Name "range" p) [a, b] [] pos2) body [] pos) (tFor (iRng2 (upA X.K G0 ta)) g (fun D σ H => ∃ G1, Takes X (upW X.K G1 W) ∧ upS X.K G1 tb D σ H)) :=
    ps_for hp hc (pi_range2 hgl hm ha hse hse2) hg (tb := fun D σ H => ∃ G1, Takes X (upW X.K G1 W) ∧ upS X.K G1 tb D σ H) ⟨fun pins s σ H D I ⟨G1, tk1, h⟩ => (hb G1 tk1).run pins s σ H D I h⟩ hs
  refine PS.imp key fun E σ H ⟨ρ, S, dD, s, t, o⟩ => ⟨ρ, S, _, s, t, fun xs S1 vs H1 t1 n1 r1 => ?_⟩
  obtain ⟨i, j, rfl, hj, t1⟩ := rng2_ok t1
  obtain ⟨v, u, rfl, r, r'⟩ := r1.two
  simp only [Rep] at r r'
  subst r r'
  exact ⟨i, j, rfl, hj, go_rng (body := body) tk hl o (s.next n1) t1⟩
theorem ds_while {c : Expr} {body : List Stmt} {tc : TDT} {tb : TDS} (hp : PassesOwn (model X.prog X.w) X.A X.env X.xe) (hc : DT X G0 c tc) (hb : DSs X G0 body tb) : DS X G0 (.While c body [] pos) (dWhile tc tb) :=
  PS.imp (ps_while hp hc hb) fun E σ H ⟨ρ, S, dD, s, ⟨n, t⟩, o⟩ => by
    refine ⟨fun m σ H => ∃ ρ' S', Stt X.K G0 ρ' S' σ H ∧ dWh tc tb dD m ρ' S', ⟨n, ρ, S, s, t⟩, ?_⟩
    rintro m σ2 H2 ⟨ρ2, S2, s2, t2⟩
    cases m with
    | zero => exact t2.elim
    | succ m =>
      refine ⟨ρ2, S2, _, s2, t2, fun b S3 H3 t3 n3 => ?_⟩
      cases b with
      | true =>
        refine ⟨fun σ4 H4 => ∃ ρ' S', Stt X.K G0 ρ' S' σ4 H4 ∧ dWh tc tb dD m ρ' S', fun σ4 H4 z => ⟨m, Nat.lt_succ_self m, z⟩, ρ2, S3, _, s2.next n3, t3, o.loop (Same.refl _) fun ρ4 S4 σ4 H4 z s4 => ⟨ρ4, S4, s4, z⟩⟩
      | false => exact o.nx _ _ _ _ t3 (s2.next n3)
def dRaise (C : Addr) (W : WD) : TDS := fun _ ρ S => W C ρ S
theorem ds_raise {e : Expr} {C : Addr} (hc : X.calm = true) (tk : Takes X (upW X.K G0 W)) (he : PMk X e (fun _ H Q => Q (.ref C) none H)) : DS X G0 (.Raise (some e) none pos) (dRaise C W) :=
  PS.imp (ps_raise hc tk he) fun E σ H ⟨ρ, S, dD, s, t, o⟩ => ⟨ρ, S, C, rfl, rfl, s, t⟩
end
def SLe (S S' : Sto) : Prop := ∀ a c, S a = some c → S' a = some c
theorem SLe.refl (S : Sto) : SLe S S := fun _ _ h => h
theorem SLe.trans {S S' S'' : Sto} (a : SLe S S') (b : SLe S' S'') : SLe S S'' := fun c o h => b c o (a c o h)
theorem SLe.su {S : Sto} {p : Addr} {c : Cl} (h : S p = none) : SLe S (su S p c) := fun a o e => by
  rw [su_ne (fun z => by rw [z, h] at e; cases e)]; exact e
def dstart (N : List Str) (ds : List D) : Env' := ds.map some ++ List.replicate (N.length - ds.length) none
theorem start_env {K : PySem.W.Frag} {G : Hp} {N : List Str} {ds : List D} {vs : List V} (r : Reps K G ds vs) : REnv K G (dstart N ds) (L2.start N vs) := by
  unfold dstart L2.start
  have hl := r.len
  refine ⟨by simp [hl], fun i d e => ?_⟩
  rw [List.getElem?_append] at e ⊢
  rw [List.length_map] at e ⊢
  by_cases h : i < ds.length
  · rw [if_pos h] at e
    rw [if_pos (by rw [← hl]; exact h)]
    rw [List.getElem?_map] at e ⊢
    cases q : ds[i]? with
    | none => rw [q] at e; cases e
    | some d' =>
      rw [q] at e
      have : d' = d := by simpa using e
      subst this
      obtain ⟨v, hv, rv⟩ := r.get q
      exact ⟨v, by rw [hv]; rfl, rv⟩
  · rw [if_neg h] at e
    rw [List.getElem?_replicate] at e
    split at e <;> cases e
section
variable {P : Program} {w : World} {K : PySem.W.Frag} {mg : Str → Option Value} {base : Heap}
def endsOf (Q : D → Sto → Prop) : DEnds := { nx := fun _ S' => ∃ S'', SLe S'' S' ∧ Q .non S'', rt := fun d S' => ∃ S'', SLe S'' S' ∧ Q d S'' }
def wishOf (E : Addr → Sto → Prop) : WD := fun C _ S' => ∃ S'', SLe S'' S' ∧ E C S''
theorem def_ok {x qual : Str} {st : Stmt} {f : Addr} {fd : FuncData} {N ps : List Str} {k : Nat} {sp : DSp} {t : WD → TDS} (F : Fun K x qual st f fd) (S : FnScope N ps (defScope st)) (len : ∀ ds S Q E, sp ds S Q E → ds.length = ps.length)
    (body : ∀ (cdv : Value) (A : Around) (outer : List Env) (s : Shared) (H : Hp) (E : XK) (G0 : Hp) (W : WD), Room k (A.deeper (PyProof.Rows.envOfC qual (defScope st) s.heap.objs.size f cdv)) →
      Takes (cxOf (L2.CX P w) P w K mg base N qual (defScope st) f cdv A outer s H E) (upW K G0 W) → PassesOwn (model P w) (A.deeper (PyProof.Rows.envOfC qual (defScope st) s.heap.objs.size f cdv)) (cxOf (L2.CX P w) P w K mg base N qual (defScope st) f cdv A outer s H E).env (cxOf (L2.CX P w) P w K mg base N qual (defScope st) f cdv A outer s H E).xe →
      DSs (cxOf (L2.CX P w) P w K mg base N qual (defScope st) f cdv A outer s H E) G0 (defBody st) (t W))
    (read : ∀ ds S Q E, sp ds S Q E → t (wishOf E) (endsOf Q) (dstart N ds) S) : FnOk P w K mg base (L2.CX P w) (k + 1) f fd ps (upSp K sp) := by
  refine F.okX S (fun vs H Q E ⟨ds, S, P, dE, _, r, h, _⟩ => by rw [← r.len]; exact len _ _ _ _ h) fun cdv A outer s H vs Q E hr ⟨ds, S0, P0, dE, n, r, h, oo, ox⟩ => ?_
  have tk : Takes (cxOf (L2.CX P w) P w K mg base N qual (defScope st) f cdv A outer s H E) (upW K (wo H S0) (wishOf dE)) :=
    (takes_of (X := cxOf (L2.CX P w) P w K mg base N qual (defScope st) f cdv A outer s H E) (E := E) rfl rfl rfl rfl).imp fun c d σ H' ⟨ρ, S', C, e1, e2, s', S'', le, w'⟩ => by
      subst e1 e2
      exact ox _ _ _ w' (s'.nx.trans (s'.nx.refl.less le))
  refine ⟨_, body cdv A outer s H E (wo H S0) (wishOf dE) hr tk (passes_of rfl), dstart N ds, S0, endsOf P0, ⟨start_env r, n⟩, read ds S0 P0 dE h, ⟨fun ρ S' σ H' ⟨S'', le, p⟩ s' => ?_, fun d S' v H' ⟨S'', le, p⟩ n' r' => ?_, fun _ _ _ _ z _ => z.elim, fun _ _ _ _ z _ => z.elim⟩⟩
  · exact oo _ _ _ _ p (s'.nx.trans (s'.nx.refl.less le)) (by simp only [Rep])
  · have n2 := n'.refl.less le
    exact oo _ _ _ _ p (n'.trans n2) (r'.mono n2.st)
end
end DL
namespace DL
open PySem L2
abbrev TDI := Env' → Sto → (List D → (Sto → Prop) → Sto → Prop) → Prop
structure Serves (K : PySem.W.Frag) (J : It) (xs : List D) (still : Sto → Prop) (S1 : Sto) (H1 : Hp) : Prop where
  ex : ∃ I : Sto → Hp → Prop, I S1 H1 ∧ (∀ S H S' H', I S H → Nx K (wo H S) S' H' → I S' H') ∧
    (∀ S H i (h : i < xs.length), I S H → Nx K (wo H S) S H → still S → J.go i H ∧ ∀ x H', J.yld i H x H' → H' = H ∧ Rep K (wo H S) xs[i] x) ∧
    (∀ S H, I S H → Nx K (wo H S) S H → still S → J.stop xs.length H)
def LiftI (K : PySem.W.Frag) (G0 : Hp) (wi : TI) (ti : TDI) : Prop := ∀ σ H (R : It → Hp → Prop) ρ S P, Stt K G0 ρ S σ H → ti ρ S P →
  (∀ xs still S1 H1 J, P xs still S1 → Nx K (wo H S) S1 H1 → Serves K J xs still S1 H1 → R J H1) → wi σ H R
def diLk (o : Option (List D)) (d : D) (S1 : Sto) (P : List D → (Sto → Prop) → Sto → Prop) : Prop := match o with
  | some xs => P xs (fun S' => vl S' d = some xs) S1
  | none => False
def diL (te : TDE) : TDI := fun ρ S P => te ρ S fun d S1 => diLk (vl S1 d) d S1 P
def diR1 (ta : TDA) : TDI := fun ρ S P => ta ρ S fun xs S1 => rng1 (fun lo n S1 => P (intsD lo n) (fun _ => True) S1) xs S1
def diR2 (ta : TDA) : TDI := fun ρ S P => ta ρ S fun xs S1 => rng2 (fun lo n S1 => P (intsD lo n) (fun _ => True) S1) xs S1
section
variable {K : PySem.W.Frag} {G0 : Hp}
theorem serves_list {K : PySem.W.Frag} {G H1 : Hp} {S1 : Sto} {d : D} {v : V} {a : Addr} {xs : List D} (r1 : Rep K (wo H1 S1) d v) (ev : v = .ref a) : Serves K (Itl K a) xs (fun S' => vl S' d = some xs) S1 H1 := by
  subst ev
  refine ⟨fun S H => Rep K (wo H S) d (.ref a), r1, fun S H S' H' r n => r.mono n.st, fun S H i h r n st => ?_, fun S H r n st => ?_⟩
  · obtain ⟨a', vs, ev, q, rr⟩ := vl_rep n r st
    cases ev
    refine ⟨⟨vs, vs[i]'(by rw [← rr.len]; exact h), q, by simp⟩, fun x H' y => ?_⟩
    obtain ⟨e, y⟩ := y
    have hx := y vs q
    obtain ⟨w, hw, rw'⟩ := rr.get (i := i) (d := xs[i]) (by simp [h])
    have ew : x = w := by rw [hx] at hw; exact Option.some.inj hw
    subst ew
    exact ⟨e, rw'⟩
  · obtain ⟨a', vs, ev, q, rr⟩ := vl_rep n r st
    cases ev
    exact ⟨vs, q, by rw [← rr.len]; exact Nat.le_refl _⟩
theorem lift_iL {te : TDE} : LiftI K G0 (iList K (upE K G0 te)) (diL te) := fun σ H R ρ S P s t o => ⟨ρ, S, _, s, t, fun d S1 v H1 t1 n1 r1 => by
  cases e : vl S1 d with
  | none => rw [e] at t1; exact t1.elim
  | some xs =>
    rw [e] at t1
    obtain ⟨a, vs, ev, q, r⟩ := vl_rep n1 r1 e
    exact ⟨a, ev, ⟨vs, q⟩, o xs _ S1 H1 _ t1 n1 (serves_list (G := G0) r1 ev)⟩⟩
theorem serves_rng {lo : Int} {n : Nat} {S1 : Sto} {H1 : Hp} : Serves K (Itr lo n) (intsD lo n) (fun _ => True) S1 H1 :=
  ⟨fun _ _ => True, trivial, fun _ _ _ _ _ _ => trivial, fun S H i h _ _ _ => ⟨by rw [intsD_len] at h; exact h, fun x H' y => ⟨y.1, by rw [intsD_get h, y.2]; simp only [Rep]⟩⟩, fun S H _ _ _ => by rw [intsD_len]; exact Nat.le_refl _⟩
theorem lift_iR1 {ta : TDA} : LiftI K G0 (iRng1 (upA K G0 ta)) (diR1 ta) := fun σ H R ρ S P s t o => ⟨ρ, S, _, s, t, fun xs S1 vs H1 t1 n1 r1 => by
  obtain ⟨j, rfl, hj, t1⟩ := rng1_ok t1
  obtain ⟨v, rfl, r⟩ := r1.one
  simp only [Rep] at r
  subst r
  exact ⟨j, rfl, hj.1, hj.2, o _ _ S1 H1 _ t1 n1 serves_rng⟩⟩
theorem lift_iR2 {ta : TDA} : LiftI K G0 (iRng2 (upA K G0 ta)) (diR2 ta) := fun σ H R ρ S P s t o => ⟨ρ, S, _, s, t, fun xs S1 vs H1 t1 n1 r1 => by
  obtain ⟨i, j, rfl, hj, t1⟩ := rng2_ok t1
  obtain ⟨v, u, rfl, r, r'⟩ := r1.two
  simp only [Rep] at r r'
  subst r r'
  exact ⟨i, j, rfl, hj, o _ _ S1 H1 _ t1 n1 serves_rng⟩⟩
end
def wipeD (ρ : Env') : List Nat → Env'
  | [] => ρ
  | v :: vs => (wipeD ρ vs).set v none
theorem wipe_env {K : PySem.W.Frag} {G : Hp} {ρ : Env'} {σ : St} (x : REnv K G ρ σ) : ∀ vs : List Nat, REnv K G (wipeD ρ vs) (wipe σ vs)
  | [] => x
  | v :: vs => (wipe_env x vs).wipe v
theorem wipe_get (σ : St) (j : Nat) : ∀ vs : List Nat, (wipe σ vs)[j]? = if j ∈ vs then σ[j]?.map (fun _ => none) else σ[j]?
  | [] => by rw [if_neg (by simp)]; rfl
  | v :: vs => by
    show ((wipe σ vs).set v none)[j]? = _
    rw [List.getElem?_set, wipe_length]
    have ih := wipe_get σ j vs
    by_cases e : v = j
    · subst e
      rw [if_pos rfl, if_pos List.mem_cons_self]
      by_cases h : v < σ.length
      · rw [if_pos h, List.getElem?_eq_getElem h]; rfl
      · rw [if_neg h, List.getElem?_eq_none (by omega)]; rfl
    · rw [if_neg e, ih]
      have : (j ∈ v :: vs) ↔ j ∈ vs := by simp [Ne.symm e]
      simp only [this]
theorem wipe_wipe (σ : St) (vs : List Nat) : wipe (wipe σ vs) vs = wipe σ vs := by
  apply List.ext_getElem?
  intro j
  rw [wipe_get, wipe_get]
  by_cases e : j ∈ vs
  · rw [if_pos e, if_pos e]; cases σ[j]? <;> rfl
  · rw [if_neg e, if_neg e]
def WipeG (g : TG) (vs : List Nat) : Prop := ∀ (x : V) (σ : St) (H : Hp) (Q : St → Hp → Prop), g x σ H Q → g x σ H fun σ2 H2 => wipe σ2 vs = wipe σ vs ∧ Q σ2 H2
theorem wipe_set {σ : St} {i : Nat} {x : Option V} {vs : List Nat} (h : i ∈ vs) : wipe (σ.set i x) vs = wipe σ vs := by
  apply List.ext_getElem?
  intro j
  rw [wipe_get, wipe_get, List.getElem?_set]
  by_cases e : j ∈ vs
  · rw [if_pos e, if_pos e]
    by_cases q : i = j
    · subst q
      rw [if_pos rfl]
      by_cases l : i < σ.length
      · rw [if_pos l, List.getElem?_eq_getElem l]; rfl
      · rw [if_neg l, List.getElem?_eq_none (by omega)]
    · rw [if_neg q]
  · have q : i ≠ j := fun z => e (z ▸ h)
    rw [if_neg e, if_neg e, if_neg q]
theorem wipeG_name {i : Nat} : WipeG (gName i) [i] := fun x σ H Q h => ⟨wipe_set (by simp), h⟩
theorem wipeG_seq {vs : List Nat} : ∀ (is : List Nat), (∀ i ∈ is, i ∈ vs) → ∀ (xs : List V) (σ : St) (H : Hp) (Q : St → Hp → Prop), (is.foldr (fun i t => gCons (gName i) t) gNil) xs σ H Q →
    (is.foldr (fun i t => gCons (gName i) t) gNil) xs σ H fun σ2 H2 => wipe σ2 vs = wipe σ vs ∧ Q σ2 H2
  | [], _, xs, σ, H, Q, h => ⟨h.1, rfl, h.2⟩
  | i :: is, hs, xs, σ, H, Q, h => by
    obtain ⟨v, r, e, h⟩ := h
    refine ⟨v, r, e, ?_⟩
    have ih := wipeG_seq is (fun j hj => hs j (List.mem_cons_of_mem _ hj)) r (σ.set i (some v)) H Q h
    rw [wipe_set (hs i List.mem_cons_self)] at ih
    exact ih
theorem wipeG_tup {K : PySem.W.Frag} {n : Nat} {is : List Nat} : WipeG (gTup K n (is.foldr (fun i t => gCons (gName i) t) gNil)) is := fun x σ H Q h => by
  obtain ⟨a, xs, e, q, hl, h⟩ := h
  exact ⟨a, xs, e, q, hl, wipeG_seq is (fun _ h => h) xs σ H Q h⟩
def lcAdd (o : Option Cl) (y : D) (k : List D → Prop) : Prop := match o with
  | some (.ml acc) => acc.length < sizeLine ∧ k (acc ++ [y])
  | _ => False
def lcFin (m : Bool) (p : Addr) (P : D → Sto → Prop) (S : Sto) : Prop := match S p with
  | some (.ml xs) => match m with
    | true => P (.ref p) S
    | false => P (.lst xs) (sd S p)
  | _ => False
def lcGo (still : Sto → Prop) (g : TDG) (tt : TDT) (te : TDE) (ρ0 : Env') (p : Addr) (F : Sto → Prop) : List D → Sto → Prop
  | [], S => still S ∧ F S
  | x :: r, S => still S ∧ g x ρ0 S fun ρ2 S2 => tt ρ2 S2 fun b S3 => if b = true then te ρ2 S3 fun y S4 => lcAdd (S4 p) y fun acc => lcGo still g tt te ρ0 p F r (su S4 p (.ml acc)) else lcGo still g tt te ρ0 p F r S3
def dLc (m : Bool) (ti : TDI) (g : TDG) (tt : TDT) (te : TDE) (vs : List Nat) : TDE := fun ρ S P => ti ρ S fun xs still S1 => ∀ p, S1 p = none → lcGo still g tt te (wipeD ρ vs) p (lcFin m p P) xs (su S1 p (.ml []))
def dYes : TDT := fun _ S P => P true S
abbrev W0 : WD := fun _ _ _ => False
theorem takesB {X : Cx} {G1 : Hp} (h : ∀ u s', X.xe u s' → X.xe u s' := fun _ _ x => x) : Takes X (upW X.K G1 W0) := takes0.imp fun c d σ H ⟨_, _, _, _, _, _, w⟩ => w
theorem lcGo_still {still : Sto → Prop} {g : TDG} {tt : TDT} {te : TDE} {ρ0 : Env'} {p : Addr} {F : Sto → Prop} {xs : List D} {S : Sto} (h : lcGo still g tt te ρ0 p F xs S) : still S := by
  cases xs with
  | nil => exact h.1
  | cons _ _ => exact h.1
theorem lc_up {K : PySem.W.Frag} {G0 : Hp} {m : Bool} {wi : TI} {ti : TDI} {g : TG} {g' : TDG} {tt : TDT} {te : TDE} {vs : List Nat} (hi : LiftI K G0 wi ti) (hl : LiftG K g g') (hw : WipeG g vs) (σ : St) (H : Hp) (Q : VK)
    (h : upE K G0 (dLc m ti g' tt te vs) σ H Q) : tLc wi g (fun σ H Q => ∃ G1, upT K G1 tt σ H Q) (fun σ H Q => ∃ G1, upE K G1 te σ H Q) vs σ H Q := by
  obtain ⟨ρ, S, P, s, t, o⟩ := h
  refine hi σ H _ ρ S _ s t fun xs still S1 H1 J t1 n1 sv p hp => ?_
  obtain ⟨I, i0, ik, ig, ie⟩ := sv.ex
  have hS := n1.free hp
  have n2 : Nx K (wo H1 S1) (su S1 p (.ml [])) (upd H1 p (.lst [])) := n1.cell hp fun G' s => ⟨[], upd_same, Reps.nil⟩
  refine ⟨fun i k H => k = xs.length - i ∧ i ≤ xs.length ∧ ∃ S', Nx K (wo H1 S1) S' H ∧ I S' H ∧ lcGo still g' tt te (wipeD ρ vs) p (lcFin m p P) (xs.drop i) S', ⟨_, rfl, Nat.zero_le _, _, n2, ik _ _ _ _ i0 n2, t1 p hS⟩, ?_⟩
  rintro i k H2 ⟨rfl, hi', S2, n3, i2, go⟩
  have st := lcGo_still go
  by_cases hlt : i < xs.length
  · rw [List.drop_eq_getElem_cons hlt] at go
    obtain ⟨g1, g2⟩ := ig S2 H2 i hlt i2 n3.refl st
    refine .inr ⟨g1, fun H3 => i + 1 ≤ xs.length ∧ ∃ S', Nx K (wo H1 S1) S' H3 ∧ I S' H3 ∧ lcGo still g' tt te (wipeD ρ vs) p (lcFin m p P) (xs.drop (i + 1)) S', fun H3 z => ⟨xs.length - (i + 1), by omega, rfl, z.1, z.2⟩, fun x H3 y => ?_⟩
    obtain ⟨e3, rx⟩ := g2 x H3 y
    subst e3
    have env : REnv K (wo H3 S2) (wipeD ρ vs) (wipe σ vs) := (wipe_env (s.env.mono (n1.st.trans n3.st)) vs)
    have z := hw x (wipe σ vs) H3 (fun σ2 H2 => ∃ G1, upT K G1 tt σ2 H2 fun b H3 => if b = true then ∃ G1, upE K G1 te σ2 H3 fun y H4 => ∃ acc, H4 p = some (.lst acc) ∧ acc.length < sizeLine ∧ (i + 1 ≤ xs.length ∧ ∃ S', Nx K (wo H1 S1) S' (upd H4 p (.lst (acc ++ [y]))) ∧ I S' (upd H4 p (.lst (acc ++ [y]))) ∧ lcGo still g' tt te (wipeD ρ vs) p (lcFin m p P) (xs.drop (i + 1)) S') else (i + 1 ≤ xs.length ∧ ∃ S', Nx K (wo H1 S1) S' H3 ∧ I S' H3 ∧ lcGo still g' tt te (wipeD ρ vs) p (lcFin m p P) (xs.drop (i + 1)) S')) ?_
    · rw [wipe_wipe] at z
      exact z
    · refine hl (wo H3 S2) _ _ _ _ _ _ _ _ ⟨env, n3.refl⟩ rx go.2 fun ρ3 σ3 q s3 => ?_
      refine ⟨wo H3 S2, ρ3, S2, _, s3, q, fun b S4 H4 t4 n4 => ?_⟩
      cases b with
      | false => exact ⟨hlt, S4, n3.trans n4, ik _ _ _ _ i2 n4, t4⟩
      | true =>
        refine ⟨wo H3 S2, ρ3, S4, _, s3.next n4, t4, fun y S5 u H5 t5 n5 r5 => ?_⟩
        cases e : S5 p with
        | none => rw [e] at t5; exact t5.elim
        | some c =>
          rw [e] at t5
          cases c with
          | ml acc =>
            obtain ⟨us, q5, r6⟩ := n5.ok p _ e
            have n6 : Nx K (wo H5 S5) (su S5 p (.ml (acc ++ [y]))) (upd H5 p (.lst (us ++ [u]))) := n5.write e ⟨_, upd_same, r6.app (Reps.cons r5 Reps.nil)⟩
            exact ⟨us, q5, by rw [← r6.len]; exact t5.1, hlt, _, ((n3.trans n4).trans n5).trans n6, ik _ _ _ _ (ik _ _ _ _ (ik _ _ _ _ i2 n4) n5) n6, t5.2⟩
          | dI _ => exact t5.elim
          | dS _ => exact t5.elim
          | ins _ _ => exact t5.elim
  · have e' : i = xs.length := by omega
    subst e'
    rw [List.drop_length] at go
    refine .inl ⟨ie S2 H2 i2 n3.refl st, ?_⟩
    have f := go.2
    unfold lcFin at f
    cases e : S2 p with
    | none => rw [e] at f; exact f.elim
    | some c =>
      rw [e] at f
      cases c with
      | ml ys =>
        cases m with
        | true => exact o _ _ _ _ f (n1.trans n3) (by simp only [Rep])
        | false =>
          obtain ⟨n4, r4⟩ := n3.refl.frz e
          exact o _ _ _ _ f ((n1.trans n3).trans n4) r4
      | dI _ => exact f.elim
      | dS _ => exact f.elim
      | ins _ _ => exact f.elim
section
variable {X : Cx} {G0 : Hp}
def DTs (X : Cx) (G0 : Hp) (ifs : List Expr) (t : TDT) : Prop := PTs X ifs (upT X.K G0 t)
theorem dts_nil : DTs X G0 [] dYes := ⟨fun pins s σ H Q I ⟨ρ, S, P, st, t, o⟩ => pts_nil.run pins s σ H Q I (o _ _ _ t st.refl)⟩
theorem dts_one {c : Expr} {t : TDT} (h : DT X G0 c t) : DTs X G0 [c] t := pts_one h
theorem de_lc (m : Bool) {elt tg iter : Expr} {ifs : List Expr} {scope : Scope} {own : List (Str × Nat)} {pos : Pos} {wi : TI} {ti : TDI} {g : TG} {g' : TDG} {tt : TDT} {te : TDE} (hc : X.calm = true) (hN : X.N.Nodup) (hi : PI X tg iter wi) (hli : LiftI X.K G0 wi ti) (hl : LiftG X.K g g') (hw : WipeG g (own.map (·.2)))
    (ok : BlkOk X.N X.env.scope scope own)
    (hg : ∀ (s : Shared) (H : Hp) (C : Addr) (cl : List (Str × Addr)) (fp : List Addr), PG (X.blk s H scope (compEnvC scope cl C X.env) fp) tg g)
    (ht : ∀ (s : Shared) (H : Hp) (C : Addr) (cl : List (Str × Addr)) (fp : List Addr) (G1 : Hp), Takes (X.blk s H scope (compEnvC scope cl C X.env) fp) (upW X.K G1 W0) → DTs (X.blk s H scope (compEnvC scope cl C X.env) fp) G1 ifs tt)
    (he : ∀ (s : Shared) (H : Hp) (C : Addr) (cl : List (Str × Addr)) (fp : List Addr) (G1 : Hp), Takes (X.blk s H scope (compEnvC scope cl C X.env) fp) (upW X.K G1 W0) → DE (X.blk s H scope (compEnvC scope cl C X.env) fp) G1 elt te)
    (hs : ∀ x, foldedSetIterable iter X.env x = pure x := by intro _; rfl) :
    DE X G0 (.ListComp elt [⟨tg, iter, ifs, 0⟩] scope pos) (dLc m ti g' tt te (own.map (·.2))) :=
  PE.imp (pe_lc (tt := fun σ H Q => ∃ G1, upT X.K G1 tt σ H Q) (te := fun σ H Q => ∃ G1, upE X.K G1 te σ H Q) hc hN hi ok hg
    (fun s H C cl fp => ⟨fun pins s1 σ H1 Q I ⟨G1, h⟩ => (ht s H C cl fp G1 (takesB (X := X.blk s H scope (compEnvC scope cl C X.env) fp))).run pins s1 σ H1 Q I h⟩)
    (fun s H C cl fp => ⟨fun pins s1 σ H1 Q I ⟨G1, h⟩ => (he s H C cl fp G1 (takesB (X := X.blk s H scope (compEnvC scope cl C X.env) fp))).run pins s1 σ H1 Q I h⟩) hs) (lc_up hli hl hw)
theorem ds_setLc (i : Nat) (m : Bool) {y : Str} {py : Pos} {elt tg iter : Expr} {ifs : List Expr} {scope : Scope} {own : List (Str × Nat)} {pos spos : Pos} {wi : TI} {ti : TDI} {g : TG} {g' : TDG} {tt : TDT} {te : TDE} (hc : X.calm = true) (hN : X.N.Nodup) (hy : X.N[i]? = some y) (hyl : X.env.scope.names.lookup y = some .local)
    (hsw : swapsWith (.ListComp elt [⟨tg, iter, ifs, 0⟩] scope pos) (some (.Name y py)) spos.line X.env = pure true) (hi : PI X tg iter wi) (hli : LiftI X.K G0 wi ti) (hl : LiftG X.K g g') (hw : WipeG g (own.map (·.2)))
    (ok : BlkOk X.N X.env.scope scope own)
    (hg : ∀ (s : Shared) (H : Hp) (C : Addr) (cl : List (Str × Addr)) (fp : List Addr), PG (X.blk s H scope (compEnvC scope cl C X.env) fp) tg g)
    (ht : ∀ (s : Shared) (H : Hp) (C : Addr) (cl : List (Str × Addr)) (fp : List Addr) (G1 : Hp), Takes (X.blk s H scope (compEnvC scope cl C X.env) fp) (upW X.K G1 W0) → DTs (X.blk s H scope (compEnvC scope cl C X.env) fp) G1 ifs tt)
    (he : ∀ (s : Shared) (H : Hp) (C : Addr) (cl : List (Str × Addr)) (fp : List Addr) (G1 : Hp), Takes (X.blk s H scope (compEnvC scope cl C X.env) fp) (upW X.K G1 W0) → DE (X.blk s H scope (compEnvC scope cl C X.env) fp) G1 elt te)
    (hs : ∀ x, foldedSetIterable iter X.env x = pure x := by intro _; rfl) :
    DS X G0 (.Assign [.Name y py] (.ListComp elt [⟨tg, iter, ifs, 0⟩] scope pos) spos) (dAsg (dLc m ti g' tt te (own.map (·.2))) (dgN i)) :=
  PS.imp (ps_setLc (tt := fun σ H Q => ∃ G1, upT X.K G1 tt σ H Q) (te := fun σ H Q => ∃ G1, upE X.K G1 te σ H Q) hc hN hy hyl hsw hi ok hg
    (fun s H C cl fp => ⟨fun pins s1 σ H1 Q I ⟨G1, h⟩ => (ht s H C cl fp G1 (takesB (X := X.blk s H scope (compEnvC scope cl C X.env) fp))).run pins s1 σ H1 Q I h⟩)
    (fun s H C cl fp => ⟨fun pins s1 σ H1 Q I ⟨G1, h⟩ => (he s H C cl fp G1 (takesB (X := X.blk s H scope (compEnvC scope cl C X.env) fp))).run pins s1 σ H1 Q I h⟩) hs)
    fun E σ H ⟨ρ, S, dD, s, t, o⟩ => lc_up hli hl hw σ H _ ⟨ρ, S, _, s, t, fun d S' v H' a b c => lift_gN _ _ _ _ _ _ _ _ _ (s.next b) c a fun ρ' σ' p s' => o.nx _ _ _ _ p s'⟩
end
end DL
namespace DL
open PySem L2
def tyS (S : Sto) : D → Option String
  | .non => some "NoneType"
  | .bl _ => some "bool"
  | .int _ => some "int"
  | .str _ => some "str"
  | .lst _ => some "list"
  | .scr _ => none
  | .tup _ => some "tuple"
  | .ref p => match S p with
    | some (.ml _) => some "list"
    | _ => none
  | .ty _ => none
def instB (T n : String) : Bool := T == n || (T == "bool" && n == "int")
theorem kit_inst : ∀ T ∈ ["NoneType", "bool", "int", "str", "list", "tuple"], ∀ n ∈ ["bool", "int", "str", "list", "tuple"], kitB T n = some (instB T n) := by decide +kernel
def isiK (o : Option String) (n : String) (S : Sto) (P : D → Sto → Prop) : Prop := match o with
  | some T => P (.bl (instB T n)) S
  | none => False
def dIsi (n : String) (te : TDE) : TDE := fun ρ S P => te ρ S fun x S1 => isiK (tyS S1 x) n S1 P
theorem tyS_mem {S : Sto} {d : D} {T : String} (e : tyS S d = some T) : T ∈ ["NoneType", "bool", "int", "str", "list", "tuple"] := by
  cases d with
  | ref p =>
    simp only [tyS] at e
    split at e
    · cases e; decide
    · cases e
  | scr _ => cases e
  | ty _ => cases e
  | _ => cases e; decide

theorem tyS_ok {K : PySem.W.Frag} {G H : Hp} {S : Sto} {d : D} {v : V} {T : String} (n : Nx K G S H) (r : Rep K (wo H S) d v) (e : tyS S d = some T) : TyOf K H v (.type T) := by
  cases d with
  | non => simp only [Rep] at r; subst r; cases e; exact .non
  | bl b => simp only [Rep] at r; subst r; cases e; exact .bl b
  | int i => simp only [Rep] at r; subst r; cases e; exact .int i
  | str x => simp only [Rep] at r; subst r; cases e; exact .str x
  | lst xs =>
    simp only [Rep] at r
    obtain ⟨a, vs, rfl, q, _⟩ := r
    cases e
    exact .lst (wo_le _ _ _ _ q)
  | tup xs =>
    simp only [Rep] at r
    obtain ⟨a, vs, rfl, q, _⟩ := r
    cases e
    exact .tup (wo_le _ _ _ _ q)
  | ref p =>
    simp only [Rep] at r
    subst r
    simp only [tyS] at e
    split at e
    · rename_i xs h
      cases e
      obtain ⟨vs, q, _⟩ := n.ok p _ h
      exact .lst q
    · cases e
  | scr _ => cases e
  | ty _ => cases e
section
variable {X : Cx} {G0 : Hp} {pos p p2 : Pos} {e : Expr} {te : TDE}
theorem de_isi (n : String) {x2 : Str} (hmem : n ∈ ["bool", "int", "str", "list", "tuple"]) (hm : X.mg "isinstance" = none) (hm2 : X.mg x2 = none) (he : DE X G0 e te) (hv2 : bootBuiltins x2 = some (.type n)) (hg : Gl X "isinstance" := by rfl) (hg2 : Gl X x2 := by rfl)
    (hn2 : x2 ≠ "__name__" := by decide) (hd2 : (x2 == ("__debug__" : Str)) = false := by decide)
    (hs : starEach [e, .Name x2 p2] X.env = (false, eval e X.env) :: starEach [.Name x2 p2] X.env := by rfl) (hs2 : starEach [.Name x2 p2] X.env = (false, eval (.Name x2 p2) X.env) :: starEach [] X.env := by rfl) (hpl : (backTo pos (starEach [.Name x2 p2] X.env)).any (·.1) = false := by rfl) :
    DE X G0 (.Call (.Name "isinstance" p) [e, .Name x2 p2] [] pos) (dIsi n te) :=
  PE.imp (pe_callB call_isi hg hm (by decide +kernel) (pa_cons he (pa_cons (pe_bltn (v := .ty n) (r := rfl) hg2 hm2 hv2 hn2 hd2) pa_nil hs2) hs) (he := hs) (hpl := hpl)) fun σ H Q ⟨ρ, S, P, st, t, o⟩ =>
    ⟨ρ, S, _, st, t, fun d S1 v H1 t1 n1 r1 => by
      cases e : tyS S1 d with
      | none => rw [e] at t1; exact t1.elim
      | some T =>
        rw [e] at t1
        exact ⟨v, .ty n, .type T, .type n, _, rfl, .ty n, .base (tyS_ok n1 r1 e), kit_ty (kit_inst T (tyS_mem e) n hmem), o _ _ _ _ t1 n1 (by simp only [Rep])⟩⟩
end
def isEK (o : Option Bool) (S : Sto) (P : D → Sto → Prop) : Prop := match o with
  | some b => P (.bl b) S
  | none => False
def isED (K : PySem.W.Frag) (C a : Addr) : RCD := fun xs S P => ExcC K C ∧ match xs with
  | [.ref a', .ref D] => a' = a ∧ isEK (PySem.W.kitOne K (.ref C) (.ref D)) S P
  | [.ref a', .ty n] => a' = a ∧ isEK (PySem.W.kitOne K (.ref C) (.type n)) S P
  | _ => False
theorem isEK_ok {o : Option Bool} {S : Sto} {P : D → Sto → Prop} (t : isEK o S P) : ∃ b, o = some b ∧ P (.bl b) S := by
  cases o with
  | none => exact t.elim
  | some b => exact ⟨b, rfl, t⟩
theorem lift_isE {K : PySem.W.Frag} {C a : Addr} : LiftC K (fun xs H Q => ExcC K C ∧ rIsE K C a xs H Q) (isED K C a) := by
  intro xs vs G S H P Q n r t o
  obtain ⟨c, t⟩ := t
  refine ⟨c, ?_⟩
  split at t
  · obtain ⟨v, u, rfl, r1, r2⟩ := r.two
    simp only [Rep] at r1 r2
    subst r1 r2
    obtain ⟨rfl, t⟩ := t
    obtain ⟨b, e, t⟩ := isEK_ok t
    exact ⟨_, _, b, rfl, fun u h => h, e, o.now n t (by simp only [Rep])⟩
  · obtain ⟨v, u, rfl, r1, r2⟩ := r.two
    simp only [Rep] at r1 r2
    subst r1 r2
    obtain ⟨rfl, t⟩ := t
    obtain ⟨b, e, t⟩ := isEK_ok t
    exact ⟨_, _, b, rfl, fun u h => h, e, o.now n t (by simp only [Rep])⟩
  · exact t.elim
section
variable {X : Cx} {G1 : Hp} {pos p : Pos} {e e2 : Expr} {ta : TDA} {a C : Addr} {oe : Obj} {pn : List (Addr × Obj)}
theorem de_isE (hz : Zc (.ref C) none oe) (hf : ∃ vs, oe.data = .fields vs) (hm : X.mg "isinstance" = none) (ha : DA (X.suite a ((a, oe) :: pn)) G1 [e, e2] ta) (hg : Gl X "isinstance" := by rfl)
    (he : starEach [e, e2] X.env = (false, eval e X.env) :: starEach [e2] X.env := by rfl) (hpl : (backTo pos (starEach [e2] X.env)).any (·.1) = false := by rfl) :
    DE (X.suite a ((a, oe) :: pn)) G1 (.Call (.Name "isinstance" p) [e, e2] [] pos) (dCB (isED X.K C a) ta) :=
  de_callB (X := X.suite a ((a, oe) :: pn)) (r := fun xs H Q => ExcC X.K C ∧ rIsE X.K C a xs H Q) (fun pins s σ H xs us Q I r h => call_isE h.1 hz hf pins s σ H xs us Q I r h.2) lift_isE hg hm (by decide +kernel) ha (he := he) (hpl := hpl)
end
def tryW (K : PySem.W.Frag) (c : Value) (ts : Addr → Addr → TDS) (i : Option Nat) (W : WD) (E : DEnds) : WD := fun C ρ' S' => ∃ b, PySem.W.exmOne K (.ref C) c = some b ∧
  (b = true → ∀ a, S' a = none → match i with
    | some i => ts C a { nx := fun ρ S => E.nx (ρ.set i none) S, rt := E.rt, bk := fun ρ S => E.bk (ρ.set i none) S, ct := fun ρ S => E.ct (ρ.set i none) S } (ρ'.set i (some (.ref a))) S'
    | none => ts C a E ρ' S') ∧ (b = false → W C ρ' S')
def dTry (K : PySem.W.Frag) (c : Value) (i : Option Nat) (tb : WD → TDS) (ts : Addr → Addr → TDS) (W : WD) : TDS := fun E ρ S => tb (tryW K c ts i W E) E ρ S
section
variable {X : Cx} {G0 : Hp} {x n : Str} {c : Value} {i : Nat} {body suite : List Stmt} {b₀ : Stmt} {np pos pos' : Pos} {tb : WD → TDS} {ts : Addr → Addr → TDS} {W : WD}
theorem ds_try_as (i : Nat) (hs : X.stack = X.env :: X.outer) (hf : X.env.frame = some X.env.locals) (hN : X.N.Nodup) (hi : X.N[i]? = some n) (hln : X.env.kindOf n = some .local) (hc : Names X x c) (tk : Takes X (upW X.K G0 W))
    (hb : ∀ (W1 : WD) (pn : List (Addr × Obj)) (xe : Value → Shared → Prop), Takes (X.tr pn xe) (upW X.K G0 W1) → PassesOwn (model X.prog X.w) X.A X.env xe → DSs (X.tr pn xe) G0 body (tb W1))
    (hsu : ∀ (a : Addr) (oe : Obj) (C : Addr) (pn : List (Addr × Obj)), Zc (.ref C) none oe → (∃ vs, oe.data = .fields vs) → DSs (X.suite a ((a, oe) :: pn)) G0 (b₀ :: suite) (ts C a)) :
    DS X G0 (.Try body [.ExceptHandler (some (.Name x np)) (some n) (b₀ :: suite) pos'] [] [] pos) (dTry X.K c (some i) tb ts W) :=
  PS.imp (ps_try_as (tb := fun Wx D σ H => ∃ W1 : WD, (∀ cls d σ H, upW X.K G0 W1 cls d σ H → Wx cls d σ H) ∧ upS X.K G0 (tb W1) D σ H) (ts := fun a cls d D σ H => ∃ C, cls = .ref C ∧ d = none ∧ upS X.K G0 (ts C a) D σ H) hs hf hN hi hln hc tk
    (fun Wx pn xe tk1 po => ⟨fun pins s σ H D I ⟨W1, h1, h2⟩ => (hb W1 pn xe (tk1.imp h1) po).run pins s σ H D I h2⟩)
    (fun a oe cls d pn hz hf => ⟨fun pins s σ H D I ⟨C, e1, e2, h2⟩ => by subst e1 e2; exact (hsu a oe C pn hz hf).run pins s σ H D I h2⟩))
    fun E σ H ⟨ρ, S, dD, s, t, o⟩ => ⟨tryW X.K c ts (some i) W dD, fun cls d σ1 H1 ⟨ρ1, S1, C, e1, e2, s1, b, hb1, hy, hn⟩ => ⟨b, by rw [e1]; exact hb1, fun h a ha => ⟨C, e1, e2, ρ1.set i (some (.ref a)), S1, _, ⟨s1.env.set (by simp only [Rep]), s1.nx⟩, hy h a (s1.nx.free ha),
      ⟨fun ρ S σ H z s => o.nx _ _ _ _ z ⟨s.env.wipe i, s.nx⟩, o.rt, fun ρ S σ H z s => o.bk _ _ _ _ z ⟨s.env.wipe i, s.nx⟩, fun ρ S σ H z s => o.ct _ _ _ _ z ⟨s.env.wipe i, s.nx⟩⟩⟩, fun h => ⟨ρ1, S1, C, e1, e2, s1, hn h⟩⟩, ρ, S, dD, s, t, o⟩
theorem ds_try_only (hs : X.stack = X.env :: X.outer) (hf : X.env.frame = some X.env.locals) (hc : Names X x c) (tk : Takes X (upW X.K G0 W))
    (hb : ∀ (W1 : WD) (pn : List (Addr × Obj)) (xe : Value → Shared → Prop), Takes (X.tr pn xe) (upW X.K G0 W1) → PassesOwn (model X.prog X.w) X.A X.env xe → DSs (X.tr pn xe) G0 body (tb W1))
    (hsu : ∀ (a : Addr) (oe : Obj) (C : Addr) (pn : List (Addr × Obj)), Zc (.ref C) none oe → (∃ vs, oe.data = .fields vs) → DSs (X.suite a ((a, oe) :: pn)) G0 (b₀ :: suite) (ts C a)) :
    DS X G0 (.Try body [.ExceptHandler (some (.Name x np)) none (b₀ :: suite) pos'] [] [] pos) (dTry X.K c none tb ts W) :=
  PS.imp (ps_try_only (tb := fun Wx D σ H => ∃ W1 : WD, (∀ cls d σ H, upW X.K G0 W1 cls d σ H → Wx cls d σ H) ∧ upS X.K G0 (tb W1) D σ H) (ts := fun a cls d D σ H => ∃ C, cls = .ref C ∧ d = none ∧ upS X.K G0 (ts C a) D σ H) hs hf hc tk
    (fun Wx pn xe tk1 po => ⟨fun pins s σ H D I ⟨W1, h1, h2⟩ => (hb W1 pn xe (tk1.imp h1) po).run pins s σ H D I h2⟩)
    (fun a oe cls d pn hz hf => ⟨fun pins s σ H D I ⟨C, e1, e2, h2⟩ => by subst e1 e2; exact (hsu a oe C pn hz hf).run pins s σ H D I h2⟩))
    fun E σ H ⟨ρ, S, dD, s, t, o⟩ => ⟨tryW X.K c ts none W dD, fun cls d σ1 H1 ⟨ρ1, S1, C, e1, e2, s1, b, hb1, hy, hn⟩ => ⟨b, by rw [e1]; exact hb1, fun h a ha => ⟨C, e1, e2, ρ1, S1, dD, s1, hy h a (s1.nx.free ha), o⟩, fun h => ⟨ρ1, S1, C, e1, e2, s1, hn h⟩⟩, ρ, S, dD, s, t, o⟩
end
end DL
namespace DL
open PySem L2
structure CA where
  (Guild Post GuildError NoHouse NoWay WayThere NoRoad NoLetter TooMany BadNote : Addr)
structure DefT (K : PySem.W.Frag) (mg : Str → Option Value) (x : Str) (st : Stmt) (ps : List Str) (f : Addr) (fd : FuncData) : Prop where
  F : Fun K x x st f fd
  g : mg x = some (.ref f)
  b : Binds K fd ps []
structure MethT (K : PySem.W.Frag) (C : Addr) (x qual : Str) (st : Stmt) (ps : List Str) (f : Addr) (fd : FuncData) : Prop where
  F : Fun K x qual st f fd
  m : Meth K C x f
  b : Binds K fd ps []
structure ExcT (K : PySem.W.Frag) (mg : Str → Option Value) (x : Str) (C : Addr) : Prop where
  g : mg x = some (.ref C)
  xi : PySem.W.excIn K C [.type "ValueError", .type "Exception", .type "BaseException", .type "object"] "ValueError.__new__" = true
  k : PySem.W.keepIn K (.ref C) = true
  b : PySem.W.subIn K (.ref C) (.type "BaseException") = some true
  t : PySem.W.typeIn K (.ref C) = some (.type "type")
theorem ExcT.mk' {X : Cx} {x m : Str} {C : Addr} {j : Nat} {p p2 pos : Pos} (T : ExcT X.K X.mg x C) (hg : Gl X x) (hdb : (x == ("__debug__" : Str)) = false := by decide) : PMk X (.Call (.Name x p) [.Constant (.str m) j p2] [] pos) (fun _ H Q => Q (.ref C) none H) :=
  pmk_own PySem.F.excBase_ValueError T.xi T.g T.k (raises_own T.b T.t) hg hdb
def spTop (K : PySem.W.Frag) : Sp := fun vs H Q _ => ∃ (a : Addr) (ns : List Int), vs = [.ref a] ∧ SqL K H a (ns.map V.int) ∧ ns.length ≤ 63 ∧ ∀ H', Q (.bl true) H'
theorem top_up {K : PySem.W.Frag} {sp : DSp} (len : ∀ ds S Q E, sp ds S Q E → ds.length = ["script"].length) (h : ∀ ns : List Int, ns.length ≤ 63 → ∀ (P : D → Sto → Prop) (E : Addr → Sto → Prop), P (.bl true) (fun _ => none) → sp [.scr ns] (fun _ => none) P E)
    (vs : List V) (H : Hp) (Q : VK) (E : XK) (t : spTop K vs H Q E) : upSp K sp vs H Q E := by
  obtain ⟨a, ns, rfl, q, hl, k⟩ := t
  have e : wo H (fun _ => none) = H := rfl
  refine ⟨[.scr ns], fun _ => none, fun d _ => d = .bl true, fun _ _ => False, ⟨Same.refl _, fun a c z => by cases z⟩, Reps.cons ?_ Reps.nil, h ns hl _ _ rfl, fun d S' v H' z _ r => ?_, fun _ _ _ z => z.elim⟩
  · simp only [Rep]; exact ⟨a, rfl, q⟩
  · subst z
    simp only [Rep] at r
    subst r
    exact k H'
end DL
namespace DL
open PySem L2
structure Enc {α : Type} [DecidableEq α] (f : α → D) (n : Nat) : Prop where
  pu : ∀ x, pureD (f x) = true
  ly : ∀ x, (toP (f x)).canLay0 = true
  dp : ∀ x, (toP (f x)).depth ≤ n
  eq : ∀ x y, dEq (f x) (f y) = decide (x = y)
  no : ∀ x, PyData.eqv .none (toP (f x)) = false ∧ PyData.eqv (toP (f x)) .none = false
def eO {α : Type} (f : α → D) : Option α → D
  | none => .non
  | some x => f x
def eL {α : Type} (f : α → D) (xs : List α) : D := .lst (xs.map f)
def eT {α : Type} (f : α → D) (xs : List α) : D := .tup (xs.map f)
def eP {α β : Type} (f : α → D) (g : β → D) (p : α × β) : D := .tup [f p.1, g p.2]
def e3 {α β γ : Type} (f : α → D) (g : β → D) (h : γ → D) (p : α × β × γ) : D := .tup [f p.1, g p.2.1, h p.2.2]
abbrev eR : List Int → D := eL .int
section
variable {α β γ : Type} [DecidableEq α] [DecidableEq β] [DecidableEq γ] {f : α → D} {g : β → D} {h : γ → D} {n m k : Nat}
theorem Enc.int : Enc D.int 0 := ⟨fun _ => rfl, fun _ => rfl, fun _ => Nat.le_refl _, fun x y => by simp only [dEq, toP, PyData.eqv]; exact Bool.beq_eq_decide_eq x y, fun _ => ⟨rfl, rfl⟩⟩
theorem Enc.bl : Enc D.bl 0 := ⟨fun _ => rfl, fun _ => rfl, fun _ => Nat.le_refl _, fun x y => by simp only [dEq, toP, PyData.eqv]; exact Bool.beq_eq_decide_eq x y, fun _ => ⟨rfl, rfl⟩⟩
theorem pureDs_map (e : Enc f n) : ∀ xs : List α, pureDs (xs.map f) = true
  | [] => rfl
  | x :: xs => by simp only [List.map_cons, pureDs, e.pu x, pureDs_map e xs, Bool.and_self]
theorem lays_map (e : Enc f n) : ∀ xs : List α, PyData.canLayAll0 (toPs (xs.map f)) = true
  | [] => rfl
  | x :: xs => by simp only [List.map_cons, toPs, PyData.canLayAll0, e.ly x, lays_map e xs, Bool.and_self]
theorem depths_map (e : Enc f n) : ∀ xs : List α, PyData.depthAll (toPs (xs.map f)) ≤ n
  | [] => Nat.zero_le _
  | x :: xs => by
    simp only [List.map_cons, toPs, PyData.depthAll]
    have h1 := e.dp x
    have h2 := depths_map e xs
    omega
theorem eqs_map (e : Enc f n) : ∀ xs ys : List α, PyData.eqvAll (toPs (xs.map f)) (toPs (ys.map f)) = decide (xs = ys)
  | [], [] => rfl
  | [], y :: ys => rfl
  | x :: xs, [] => rfl
  | x :: xs, y :: ys => by
    simp only [List.map_cons, toPs, PyData.eqvAll]
    have h1 := e.eq x y
    unfold dEq at h1
    rw [h1, eqs_map e xs ys]
    by_cases q : x = y
    · subst q; by_cases r : xs = ys
      · subst r; simp
      · simp [r]
    · simp [q]
theorem Enc.lst (e : Enc f n) : Enc (eL f) (n + 1) := ⟨fun x => by simp only [eL, pureD]; exact pureDs_map e x, fun x => by simp only [eL, toP, PyData.canLay0]; exact lays_map e x,
  fun x => by simp only [eL, toP, PyData.depth]; have := depths_map e x; omega, fun x y => by simp only [eL, dEq, toP, PyData.eqv]; exact eqs_map e x y, fun x => ⟨rfl, rfl⟩⟩
theorem Enc.tup (e : Enc f n) : Enc (eT f) (n + 1) := ⟨fun x => by simp only [eT, pureD]; exact pureDs_map e x, fun x => by simp only [eT, toP, PyData.canLay0]; exact lays_map e x,
  fun x => by simp only [eT, toP, PyData.depth]; have := depths_map e x; omega, fun x y => by simp only [eT, dEq, toP, PyData.eqv]; exact eqs_map e x y, fun x => ⟨rfl, rfl⟩⟩
theorem Enc.opt' (e : Enc f n) : (∀ x, pureD (eO f x) = true) ∧ (∀ x, (toP (eO f x)).canLay0 = true) ∧ (∀ x, (toP (eO f x)).depth ≤ n) ∧ ∀ x y, dEq (eO f x) (eO f y) = decide (x = y) := by
  refine ⟨fun x => by cases x with | none => rfl | some x => exact e.pu x, fun x => by cases x with | none => rfl | some x => exact e.ly x, fun x => by cases x with | none => exact Nat.zero_le _ | some x => exact e.dp x, fun x y => ?_⟩
  cases x with
  | none =>
    cases y with
    | none => rfl
    | some y => exact (e.no y).1
  | some x =>
    cases y with
    | none => exact (e.no x).2
    | some y =>
      have := e.eq x y
      simp only [eO, this, Option.some.injEq]
theorem Enc.pair (e : Enc f n) (e' : Enc g m) : Enc (eP f g) (max n m + 1) := ⟨fun x => by simp only [eP, pureD, pureDs, e.pu, e'.pu, Bool.and_self], fun x => by simp only [eP, toP, toPs, PyData.canLay0, PyData.canLayAll0, e.ly, e'.ly, Bool.and_self],
  fun x => by simp only [eP, toP, toPs, PyData.depth, PyData.depthAll]; have h1 := e.dp x.1; have h2 := e'.dp x.2; omega, fun x y => by
    obtain ⟨a, b⟩ := x
    obtain ⟨c, d⟩ := y
    have h1 := e.eq a c
    have h2 := e'.eq b d
    unfold dEq at h1 h2
    simp only [eP, dEq, toP, toPs, PyData.eqv, PyData.eqvAll, h1, h2, Bool.and_true]
    by_cases q : a = c <;> by_cases r : b = d <;> simp [q, r], fun x => ⟨rfl, rfl⟩⟩
structure EncO {α : Type} [DecidableEq α] (f : α → D) (n : Nat) : Prop where
  pu : ∀ x, pureD (f x) = true
  ly : ∀ x, (toP (f x)).canLay0 = true
  dp : ∀ x, (toP (f x)).depth ≤ n
  eq : ∀ x y, dEq (f x) (f y) = decide (x = y)
theorem Enc.o (e : Enc f n) : EncO f n := ⟨e.pu, e.ly, e.dp, e.eq⟩
theorem Enc.opt (e : Enc f n) : EncO (eO f) n := let ⟨a, b, c, d⟩ := e.opt'; ⟨a, b, c, d⟩
theorem EncO.lst (e : EncO f n) : Enc (eL f) (n + 1) := by
  have p : ∀ xs : List α, pureDs (xs.map f) = true := fun xs => by
    induction xs with
    | nil => rfl
    | cons x xs ih => simp only [List.map_cons, pureDs, e.pu x, ih, Bool.and_self]
  have l : ∀ xs : List α, PyData.canLayAll0 (toPs (xs.map f)) = true := fun xs => by
    induction xs with
    | nil => rfl
    | cons x xs ih => simp only [List.map_cons, toPs, PyData.canLayAll0, e.ly x, ih, Bool.and_self]
  have d : ∀ xs : List α, PyData.depthAll (toPs (xs.map f)) ≤ n := fun xs => by
    induction xs with
    | nil => exact Nat.zero_le _
    | cons x xs ih =>
      simp only [List.map_cons, toPs, PyData.depthAll]
      have h1 := e.dp x
      omega
  have q : ∀ xs ys : List α, PyData.eqvAll (toPs (xs.map f)) (toPs (ys.map f)) = decide (xs = ys) := fun xs => by
    induction xs with
    | nil => intro ys; cases ys <;> rfl
    | cons x xs ih =>
      intro ys
      cases ys with
      | nil => rfl
      | cons y ys =>
        simp only [List.map_cons, toPs, PyData.eqvAll]
        have h1 := e.eq x y
        unfold dEq at h1
        rw [h1, ih ys]
        by_cases q : x = y
        · subst q; by_cases r : xs = ys
          · subst r; simp
          · simp [r]
        · simp [q]
  exact ⟨fun x => by simp only [eL, pureD]; exact p x, fun x => by simp only [eL, toP, PyData.canLay0]; exact l x, fun x => by simp only [eL, toP, PyData.depth]; have := d x; omega, fun x y => by simp only [eL, dEq, toP, PyData.eqv]; exact q x y, fun x => ⟨rfl, rfl⟩⟩
theorem EncO.triple (e : EncO f n) (e' : EncO g m) (e'' : EncO h k) : Enc (e3 f g h) (max n (max m k) + 1) := ⟨fun x => by simp only [e3, pureD, pureDs, e.pu, e'.pu, e''.pu, Bool.and_self], fun x => by simp only [e3, toP, toPs, PyData.canLay0, PyData.canLayAll0, e.ly, e'.ly, e''.ly, Bool.and_self],
  fun x => by simp only [e3, toP, toPs, PyData.depth, PyData.depthAll]; have h1 := e.dp x.1; have h2 := e'.dp x.2.1; have h3 := e''.dp x.2.2; omega, fun x y => by
    obtain ⟨a, b, c⟩ := x
    obtain ⟨a', b', c'⟩ := y
    have h1 := e.eq a a'
    have h2 := e'.eq b b'
    have h3 := e''.eq c c'
    unfold dEq at h1 h2 h3
    simp only [e3, dEq, toP, toPs, PyData.eqv, PyData.eqvAll, h1, h2, h3, Bool.and_true]
    by_cases q : a = a' <;> by_cases r : b = b' <;> by_cases t : c = c' <;> simp [q, r, t], fun x => ⟨rfl, rfl⟩⟩
theorem EncO.ok (e : EncO f n) (hn : n ≤ 64) (x : α) : okD (f x) = true := by
  unfold okD SeqAt.shaped
  rw [e.pu x, e.ly x, decide_eq_true (Nat.le_trans (e.dp x) hn)]; rfl
theorem EncO.any (e : EncO f n) (x : α) : ∀ ys : List α, ((ys.map f).any fun z => dEq z (f x)) = decide (x ∈ ys)
  | [] => rfl
  | y :: ys => by
    rw [List.map_cons, List.any_cons, e.eq y x, EncO.any e x ys]
    by_cases q : y = x
    · subst q; simp
    · simp [q, Ne.symm q]
end
theorem encR : Enc eR 1 := Enc.int.lst
theorem encOR : EncO (eO eR) 1 := encR.opt
theorem encTab : Enc (eL (eO eR)) 2 := encOR.lst
abbrev eII : Int × Int → D := eP .int .int
theorem encII : Enc eII 1 := Enc.int.pair Enc.int
theorem dEq_int (i j : Int) : dEq (.int i) (.int j) = decide (i = j) := Enc.int.eq i j
theorem dEq_bl (i j : Bool) : dEq (.bl i) (.bl j) = decide (i = j) := Enc.bl.eq i j
theorem okD_int (i : Int) : okD (.int i) = true := Enc.int.o.ok (by decide) i
theorem okD_bl (i : Bool) : okD (.bl i) = true := Enc.bl.o.ok (by decide) i
theorem okD_non : okD .non = true := by decide
theorem dEq_R (x y : List Int) : dEq (.lst (x.map .int)) (.lst (y.map .int)) = decide (x = y) := encR.eq x y
theorem okD_R (x : List Int) : okD (.lst (x.map .int)) = true := encR.o.ok (by decide) x
theorem atI_map {α : Type} (f : α → D) (xs : List α) (k : Int) : atI (xs.map f) k = (atI xs k).map f := by
  unfold atI
  rw [List.length_map]
  cases ixN xs.length k with
  | none => rfl
  | some j => simp
theorem atI_pos {α : Type} {xs : List α} {k : Int} (h0 : 0 ≤ k) (h1 : k < xs.length) : atI xs k = some (xs[k.toNat]'(by omega)) := by
  unfold atI ixN
  rw [if_pos h0, if_pos h1]
  simp
theorem atI_last {α : Type} {xs : List α} (h : xs ≠ []) : atI xs (-1) = some (xs.getLast h) := by
  have hl : 0 < xs.length := List.length_pos_iff.mpr h
  unfold atI ixN
  rw [if_neg (by decide), if_pos (by omega)]
  have e : ((-1 : Int) + (xs.length : Nat)).toNat = xs.length - 1 := by omega
  rw [e, Option.bind_some, List.getLast_eq_getElem]
  simp [hl]
theorem ixN_pos {n : Nat} {k : Int} (h0 : 0 ≤ k) (h1 : k < n) : ixN n k = some k.toNat := by
  unfold ixN; rw [if_pos h0, if_pos h1]
theorem seqIx_pos {n : Nat} {k : Int} (h0 : 0 ≤ k) (h1 : k < n) : seqIndex? k n = some k.toNat := (ixN_seq (ixN_pos h0 h1)).1
theorem dGo_ind {still : Sto → Prop} {g : TDG} {tb : TDS} {E : DEnds} (I : List D → Env' → Sto → Prop) (hd : ∀ ρ S, I [] ρ S → still S ∧ E.nx ρ S)
    (hs : ∀ x r ρ S (N : Env' → Sto → Prop), I (x :: r) ρ S → (∀ ρ S, I r ρ S → N ρ S) → still S ∧ g x ρ S fun ρ' S' => tb { nx := N, ct := N, bk := E.nx, rt := E.rt } ρ' S') :
    ∀ (xs : List D) (ρ : Env') (S : Sto), I xs ρ S → dGo still g tb E xs ρ S
  | [], ρ, S, h => hd ρ S h
  | x :: r, ρ, S, h => hs x r ρ S _ h fun ρ S h => dGo_ind I hd hs r ρ S h
theorem dGo_map {α : Type} {f : α → D} {still : Sto → Prop} {g : TDG} {tb : TDS} {E : DEnds} (I : List α → Env' → Sto → Prop) (hd : ∀ ρ S, I [] ρ S → still S ∧ E.nx ρ S)
    (hs : ∀ x r ρ S (N : Env' → Sto → Prop), I (x :: r) ρ S → (∀ ρ S, I r ρ S → N ρ S) → still S ∧ g (f x) ρ S fun ρ' S' => tb { nx := N, ct := N, bk := E.nx, rt := E.rt } ρ' S') :
    ∀ (xs : List α) (ρ : Env') (S : Sto), I xs ρ S → dGo still g tb E (xs.map f) ρ S
  | [], ρ, S, h => hd ρ S h
  | x :: r, ρ, S, h => hs x r ρ S _ h fun ρ S h => dGo_map I hd hs r ρ S h
theorem dGo_rng {lo : Int} {n : Nat} {g : TDG} {tb : TDS} {E : DEnds} (I : Nat → Env' → Sto → Prop) (hd : ∀ ρ S, I n ρ S → E.nx ρ S)
    (hs : ∀ k ρ S (N : Env' → Sto → Prop), k < n → I k ρ S → (∀ ρ S, I (k + 1) ρ S → N ρ S) → g (.int (lo + (k : Nat))) ρ S fun ρ' S' => tb { nx := N, ct := N, bk := E.nx, rt := E.rt } ρ' S')
    (ρ : Env') (S : Sto) (h : I 0 ρ S) : dGo (fun _ => True) g tb E (intsD lo n) ρ S := by
  have main : ∀ (j k : Nat) (ρ : Env') (S : Sto), k + j = n → I k ρ S → dGo (fun _ => True) g tb E ((List.range' k j).map fun i => .int (lo + (i : Nat))) ρ S := by
    intro j
    induction j with
    | zero => intro k ρ S e h; have : k = n := by omega
              subst this; exact ⟨trivial, hd ρ S h⟩
    | succ j ih =>
      intro k ρ S e h
      rw [List.range'_succ, List.map_cons]
      exact ⟨trivial, hs k ρ S _ (by omega) h fun ρ S h => ih (k + 1) ρ S (by omega) h⟩
  have := main n 0 ρ S (by omega) h
  unfold intsD
  rw [List.range_eq_range']
  exact this
theorem dWh_ind {c : TDT} {tb : TDS} {E : DEnds} (I : Env' → Sto → Prop) (μ : Env' → Sto → Nat)
    (hs : ∀ ρ S (N : Env' → Sto → Prop), I ρ S → (∀ ρ' S', I ρ' S' → μ ρ' S' < μ ρ S → N ρ' S') → c ρ S fun b S1 => if b = true then tb { nx := N, ct := N, bk := E.nx, rt := E.rt } ρ S1 else E.nx ρ S1) (ρ : Env') (S : Sto) (h : I ρ S) : ∃ n, dWh c tb E n ρ S := by
  have main : ∀ (n : Nat) (ρ : Env') (S : Sto), μ ρ S < n → I ρ S → dWh c tb E n ρ S := by
    intro n
    induction n with
    | zero => intro ρ S h; omega
    | succ n ih => intro ρ S hl h; exact hs ρ S _ h fun ρ' S' h' l => ih ρ' S' (by omega) h'
  exact ⟨_, main (μ ρ S + 1) ρ S (Nat.lt_succ_self _) h⟩
theorem lc_pure {m : Bool} {g : TDG} {tt : TDT} {te : TDE} {ρ0 : Env'} {still : Sto → Prop} {S1 : Sto} {P : D → Sto → Prop} (p : D → Bool) (f : D → D) {xs : List D} (hl : xs.length ≤ sizeLine) (hst : ∀ S', SLe S1 S' → still S')
    (hs : ∀ x ∈ xs, ∀ (S' : Sto) (N : Sto → Prop) (Y : D → Sto → Prop), SLe S1 S' → (p x = false → N S') → (p x = true → Y (f x) S') → g x ρ0 S' fun ρ2 S2 => tt ρ2 S2 fun b S3 => if b = true then te ρ2 S3 Y else N S3)
    (h : newL m ((xs.filter p).map f) S1 P) : ∀ q, S1 q = none → lcGo still g tt te ρ0 q (lcFin m q P) xs (su S1 q (.ml [])) := by
  intro q hq
  have main : ∀ (r : List D) (acc : List D), (∀ x ∈ r, x ∈ xs) → acc.length + r.length ≤ sizeLine → newL m (acc ++ (r.filter p).map f) S1 P → lcGo still g tt te ρ0 q (lcFin m q P) r (su S1 q (.ml acc)) := by
    intro r
    induction r with
    | nil =>
      intro acc _ _ h
      refine ⟨hst _ (SLe.su hq), ?_⟩
      unfold lcFin
      rw [su_same]
      simp only [List.filter_nil, List.map_nil, List.append_nil] at h
      cases m with
      | true => exact h q hq
      | false =>
        show P _ (sd (su S1 q (.ml acc)) q)
        rw [sd_su hq]
        exact h
    | cons x r ih =>
      intro acc hm hl h
      refine ⟨hst _ (SLe.su hq), hs x (hm x List.mem_cons_self) _ _ _ (SLe.su hq) (fun hp => ?_) fun hp => ?_⟩
      · refine ih acc (fun y hy => hm y (List.mem_cons_of_mem _ hy)) (by simp only [List.length_cons] at hl; omega) ?_
        rw [List.filter_cons_of_neg (by simp [hp])] at h
        exact h
      · unfold lcAdd
        rw [su_same]
        refine ⟨by simp only [List.length_cons] at hl; omega, ?_⟩
        show lcGo still g tt te ρ0 q (lcFin m q P) r (su (su S1 q (.ml acc)) q (.ml (acc ++ [f x])))
        rw [su_su]
        refine ih _ (fun y hy => hm y (List.mem_cons_of_mem _ hy)) (by simp only [List.length_append, List.length_cons, List.length_nil] at hl ⊢; omega) ?_
        rw [List.filter_cons_of_pos hp, List.map_cons] at h
        rw [List.append_assoc]
        exact h
  exact main xs [] (fun _ h => h) (by simpa using hl) (by simpa using h)
theorem lc_map {α : Type} {m : Bool} {g : TDG} {tt : TDT} {te : TDE} {ρ0 : Env'} {still : Sto → Prop} {S1 : Sto} {P : D → Sto → Prop} (w : α → D) (p : α → Bool) (f : α → D) {xs : List α} (hl : xs.length ≤ sizeLine) (hst : ∀ S', SLe S1 S' → still S')
    (hs : ∀ x ∈ xs, ∀ (S' : Sto) (N : Sto → Prop) (Y : D → Sto → Prop), SLe S1 S' → (p x = false → N S') → (p x = true → Y (f x) S') → g (w x) ρ0 S' fun ρ2 S2 => tt ρ2 S2 fun b S3 => if b = true then te ρ2 S3 Y else N S3)
    (h : newL m ((xs.filter p).map f) S1 P) : ∀ q, S1 q = none → lcGo still g tt te ρ0 q (lcFin m q P) (xs.map w) (su S1 q (.ml [])) := by
  intro q hq
  have main : ∀ (r : List α) (acc : List D), (∀ x ∈ r, x ∈ xs) → acc.length + r.length ≤ sizeLine → newL m (acc ++ (r.filter p).map f) S1 P → lcGo still g tt te ρ0 q (lcFin m q P) (r.map w) (su S1 q (.ml acc)) := by
    intro r
    induction r with
    | nil =>
      intro acc _ _ h
      refine ⟨hst _ (SLe.su hq), ?_⟩
      unfold lcFin
      rw [su_same]
      simp only [List.filter_nil, List.map_nil, List.append_nil] at h
      cases m with
      | true => exact h q hq
      | false =>
        show P _ (sd (su S1 q (.ml acc)) q)
        rw [sd_su hq]
        exact h
    | cons x r ih =>
      intro acc hm hl h
      refine ⟨hst _ (SLe.su hq), hs x (hm x List.mem_cons_self) _ _ _ (SLe.su hq) (fun hp => ?_) fun hp => ?_⟩
      · refine ih acc (fun y hy => hm y (List.mem_cons_of_mem _ hy)) (by simp only [List.length_cons] at hl; omega) ?_
        rw [List.filter_cons_of_neg (by simp [hp])] at h
        exact h
      · unfold lcAdd
        rw [su_same]
        refine ⟨by simp only [List.length_cons] at hl; omega, ?_⟩
        show lcGo still g tt te ρ0 q (lcFin m q P) (r.map w) (su (su S1 q (.ml acc)) q (.ml (acc ++ [f x])))
        rw [su_su]
        refine ih _ (fun y hy => hm y (List.mem_cons_of_mem _ hy)) (by simp only [List.length_append, List.length_cons, List.length_nil] at hl ⊢; omega) ?_
        rw [List.filter_cons_of_pos hp, List.map_cons] at h
        rw [List.append_assoc]
        exact h
  exact main xs [] (fun _ h => h) (by simpa using hl) (by simpa using h)
theorem lc_all {α : Type} {m : Bool} {g : TDG} {te : TDE} {ρ0 : Env'} {still : Sto → Prop} {S1 : Sto} {P : D → Sto → Prop} (w : α → D) (f : α → D) {xs : List α} (hl : xs.length ≤ sizeLine) (hst : ∀ S', SLe S1 S' → still S')
    (hs : ∀ x ∈ xs, ∀ (S' : Sto) (Y : D → Sto → Prop), SLe S1 S' → Y (f x) S' → g (w x) ρ0 S' fun ρ2 S2 => te ρ2 S2 Y)
    (h : newL m (xs.map f) S1 P) : ∀ q, S1 q = none → lcGo still g dYes te ρ0 q (lcFin m q P) (xs.map w) (su S1 q (.ml [])) :=
  lc_map (m := m) (P := P) w (fun _ => true) f hl hst (fun x hx S' N Y hS _ y => by simp only [dYes, ↓reduceIte]; exact hs x hx S' Y hS (y rfl)) (by rw [List.filter_eq_self.mpr (fun _ _ => rfl)]; exact h)
theorem su_two {S : Sto} {p q : Addr} {a b c : Cl} (h : p ≠ q) : su (su (su S p a) q b) p c = su (su S p c) q b := by rw [su_comm (S := su S p a) (Ne.symm h), su_su]
theorem inst_NoneType_bool : instB "NoneType" "bool" = false := rfl
theorem inst_NoneType_int : instB "NoneType" "int" = false := rfl
theorem inst_NoneType_str : instB "NoneType" "str" = false := rfl
theorem inst_NoneType_list : instB "NoneType" "list" = false := rfl
theorem inst_NoneType_tuple : instB "NoneType" "tuple" = false := rfl
theorem inst_bool_bool : instB "bool" "bool" = true := rfl
theorem inst_bool_int : instB "bool" "int" = true := rfl
theorem inst_bool_str : instB "bool" "str" = false := rfl
theorem inst_bool_list : instB "bool" "list" = false := rfl
theorem inst_bool_tuple : instB "bool" "tuple" = false := rfl
theorem inst_int_bool : instB "int" "bool" = false := rfl
theorem inst_int_int : instB "int" "int" = true := rfl
theorem inst_int_str : instB "int" "str" = false := rfl
theorem inst_int_list : instB "int" "list" = false := rfl
theorem inst_int_tuple : instB "int" "tuple" = false := rfl
theorem inst_str_bool : instB "str" "bool" = false := rfl
theorem inst_str_int : instB "str" "int" = false := rfl
theorem inst_str_str : instB "str" "str" = true := rfl
theorem inst_str_list : instB "str" "list" = false := rfl
theorem inst_str_tuple : instB "str" "tuple" = false := rfl
theorem inst_list_bool : instB "list" "bool" = false := rfl
theorem inst_list_int : instB "list" "int" = false := rfl
theorem inst_list_str : instB "list" "str" = false := rfl
theorem inst_list_list : instB "list" "list" = true := rfl
theorem inst_list_tuple : instB "list" "tuple" = false := rfl
theorem inst_tuple_bool : instB "tuple" "bool" = false := rfl
theorem inst_tuple_int : instB "tuple" "int" = false := rfl
theorem inst_tuple_str : instB "tuple" "str" = false := rfl
theorem inst_tuple_list : instB "tuple" "list" = false := rfl
theorem inst_tuple_tuple : instB "tuple" "tuple" = true := rfl
theorem dSeq_ap {t u : TDS} {E : DEnds} {ρ : Env'} {S : Sto} : dSeq t u E ρ S = t { E with nx := u E } ρ S := rfl
theorem pow_10_6 {S : Sto} {P : D → Sto → Prop} : powD (.int 10) (.int 6) S P = P (.int 1000000) S := by
  refine propext ⟨fun h => h.2, fun h => ⟨⟨by decide, by decide, by decide⟩, h⟩⟩
theorem pow_10_60 {S : Sto} {P : D → Sto → Prop} : powD (.int 10) (.int 60) S P = P (.int (10 ^ 60)) S := by
  refine propext ⟨fun h => h.2, fun h => ⟨⟨by decide, by decide, by decide⟩, h⟩⟩
theorem at_0 {x : D} {l : List D} : atI (x :: l) 0 = some x := by rw [atI_pos (by decide) (by simp)]; rfl
theorem at_1 {x y : D} {l : List D} : atI (x :: y :: l) 1 = some y := by rw [atI_pos (by decide) (by simp; omega)]; rfl
theorem at_2 {x y z : D} {l : List D} : atI (x :: y :: z :: l) 2 = some z := by rw [atI_pos (by decide) (by simp; omega)]; rfl
theorem cast0 : ((0 : Nat) : Int) = 0 := rfl
theorem cast1 : ((1 : Nat) : Int) = 1 := rfl
theorem cast2 : ((2 : Nat) : Int) = 2 := rfl
theorem cast3 : ((3 : Nat) : Int) = 3 := rfl
theorem rt_of {Q : D → Sto → Prop} {d : D} {S : Sto} (q : Q d S) : (endsOf Q).rt d S := ⟨S, SLe.refl S, q⟩
theorem rt_le {Q : D → Sto → Prop} {d : D} {S S' : Sto} (h : SLe S S') (q : Q d S) : (endsOf Q).rt d S' := ⟨S, h, q⟩
theorem nx_of {Q : D → Sto → Prop} {ρ : Env'} {S : Sto} (q : Q .non S) : (endsOf Q).nx ρ S := ⟨S, SLe.refl S, q⟩
theorem nx_le {Q : D → Sto → Prop} {ρ : Env'} {S S' : Sto} (h : SLe S S') (q : Q .non S) : (endsOf Q).nx ρ S' := ⟨S, h, q⟩
theorem wish_of {E : Addr → Sto → Prop} {C : Addr} {ρ : Env'} {S : Sto} (q : E C S) : wishOf E C ρ S := ⟨S, SLe.refl S, q⟩
theorem wish_le {E : Addr → Sto → Prop} {C : Addr} {ρ : Env'} {S S' : Sto} (h : SLe S S') (q : E C S) : wishOf E C ρ S' := ⟨S, h, q⟩
end DL
namespace DL
open PySem L2 PySem.W PySem.SeqAt PyProof.Rows
def rLtDt (K : PySem.W.Frag) : R2 := fun x y H Q => ∃ d e, Dp K H x d ∧ Dp K H y e ∧ alike d e = true ∧ d ≠ .none ∧ d.depth ≤ 64 ∧ Q (.bl (dataLt d e)) H
theorem op_ltDt {X : Cx} (hu : X.A.units + 64 < cLine) : OpR X (compareOp .Lt) (rLtDt X.K) := by
  intro pins s σ H x y v u Q I rx ry ⟨d, e, hd, he, al, hn, hp, q⟩
  obtain ⟨as, r1⟩ := Dp.reads I d x v hd rx
  obtain ⟨bs, r2⟩ := Dp.reads I e y u he ry
  exact lt_data r1 r2 al hn (by omega) ⟨.bl _, H, I, rfl, q⟩
def dLt (a b : D) : Bool := dataLt (toP a) (toP b)
def ltD : R2D := fun x y S P => pureD (rs S x) = true ∧ pureD (rs S y) = true ∧ alike (toP (rs S x)) (toP (rs S y)) = true ∧ toP (rs S x) ≠ .none ∧ (toP (rs S x)).depth ≤ 64 ∧ P (.bl (dLt (rs S x) (rs S y))) S
theorem lift_ltD {K : PySem.W.Frag} : Lift2 K (rLtDt K) ltD := by
  intro x y u v G S H P Q n ru rv t o
  obtain ⟨h1, h2, h3, h4, h5, t⟩ := t
  refine ⟨_, _, rs_dp n ru h1, rs_dp n rv h2, h3, h4, h5, ?_⟩
  refine o.now n t ?_
  simp only [Rep]; rfl
section
variable {X : Cx} {G0 : Hp} {pos : Pos} {a b : Expr} {ta tb : TDE} {k : Nat}
theorem de_ltD (hr : Room k X.A) (ha : DE X G0 a ta) (hb : DE X G0 b tb) : DE X G0 (.Compare a [.Lt] [b] pos) (dOp ltD ta tb) := de_cmp (op_ltDt hr.units) lift_ltD ha hb (nomark _)
theorem dt_ltD (hr : Room k X.A) (ha : DE X G0 a ta) (hb : DE X G0 b tb) : DT X G0 (.Compare a [.Lt] [b] pos) (dB (dOp ltD ta tb)) := dt_cmp (op_ltDt hr.units) lift_ltD ha hb (nomark _)
end
def srtD (ds : List D) : List D := ds.mergeSort (dataLe false toP)
def rSortDt (K : PySem.W.Frag) : List V → Hp → VK → Prop := fun vs H Q => ∃ (a : Addr) (xs : List V) (ds : List D) (R : V → D → Prop), vs = [.ref a] ∧ SqL K H a xs ∧ EachIs R xs ds ∧ (∀ x d, R x d → Dp K H x (toP d)) ∧
  AllAlike (ds.map toP) ∧ Sortable (ds.map toP) ∧ (∀ d ∈ ds, (toP d).depth ≤ 60) ∧ ∀ (ys : List V) (p : Addr), EachIs R ys (srtD ds) → H p = none → Q (.ref p) (upd H p (.lst ys))
theorem each_vals {R : V → D → Prop} : ∀ {xs : List V} {us : List Value} {ds : List D}, Vals xs us → EachIs R xs ds → EachIs (fun v d => ∃ y, RelV y v ∧ R y d) us ds
  | _, _, _, .nil, e => by cases e; exact .nil
  | _, _, _, .cons r t, e => by
    cases e with
    | cons h e => exact .cons ⟨_, r, h⟩ (each_vals t e)
theorem each_back {R : V → D → Prop} : ∀ {us : List Value} {ds : List D}, EachIs (fun v d => ∃ y, RelV y v ∧ R y d) us ds → ∃ ys, Vals ys us ∧ EachIs R ys ds
  | _, _, .nil => ⟨[], .nil, .nil⟩
  | _, _, .cons ⟨y, r, h⟩ e => by
    obtain ⟨ys, v, q⟩ := each_back e
    exact ⟨y :: ys, .cons r v, .cons h q⟩
theorem cr_sortDt {X : Cx} (hu : X.A.units + 64 < cLine) : CallR X (.builtin "sorted") (rSortDt X.K) := by
  intro pins s σ H vs us Q I r ⟨a, xs, ds, R, e, hs, hR, hd, al, so, dp, q⟩
  subst e
  obtain ⟨its, rv, hl, hz⟩ := I.list hs
  rw [Vals.ref1 r]
  have e1 := each_vals rv hR
  have hlen : ds.length ≤ sizeLine := by rw [← e1.length, ← rv.length]; exact hz
  refine sorted_data (enc := toP) hl.isList e1 (e1.mono fun v d ⟨y, r1, r2⟩ => Dp.reads I _ _ _ (hd _ _ r2) r1) al so hlen (fun b hb => by have := dp b hb; omega) fun out ho eo => ?_
  obtain ⟨ys, v, eo⟩ := each_back eo
  obtain ⟨ep, he⟩ := sortedAll_at s.heap its out.toArray
  have hy : ys.length ≤ sizeLine := by rw [v.length, ho]; exact hlen
  exact ⟨.ref _, upd H (s.heap.objs.size + 1) (.lst ys), I.laid (t' := s.toks) (fun _ _ => sortedAll_old) (Nat.le_succ _) ⟨hy, out, ep, v, he⟩, rfl, q _ _ eo (I.hok.fresh (Nat.le_succ _))⟩
def sortedTD (m : Bool) : RCD := fun xs S P => match xs with
  | [x] => match vm S x with
    | some ds => pureDs ds = true ∧ AllAlike (ds.map toP) ∧ Sortable (ds.map toP) ∧ (∀ d ∈ ds, (toP d).depth ≤ 60) ∧ newL m (srtD ds) S P
    | none => False
  | _ => False
theorem reps_each {K : PySem.W.Frag} {G : Hp} : ∀ {ds : List D} {vs : List V}, Reps K G ds vs → pureDs ds = true → EachIs (fun v d => Rep K G d v ∧ pureD d = true) vs ds
  | [], vs, h, _ => by simp only [Reps] at h; subst h; exact .nil
  | d :: ds, vs, h, p => by
    simp only [Reps] at h
    simp only [pureDs, Bool.and_eq_true] at p
    obtain ⟨v, r, rfl, q, s⟩ := h
    exact .cons ⟨q, p.1⟩ (reps_each s p.2)
theorem each_reps {K : PySem.W.Frag} {G : Hp} : ∀ {ds : List D} {vs : List V}, EachIs (fun v d => Rep K G d v ∧ pureD d = true) vs ds → Reps K G ds vs
  | _, _, .nil => Reps.nil
  | _, _, .cons h e => Reps.cons h.1 (each_reps e)
theorem lift_sortDt {K : PySem.W.Frag} {m : Bool} : LiftC K (rSortDt K) (sortedTD m) := by
  intro xs vs G S H P Q n r t o
  match xs, t with
  | [], t => exact t.elim
  | _ :: _ :: _, t => exact t.elim
  | [x], t =>
    obtain ⟨v, ev, rx⟩ := r.one
    subst ev
    simp only [sortedTD] at t
    cases e : vm S x with
    | none => rw [e] at t; exact t.elim
    | some ds =>
      rw [e] at t
      obtain ⟨t1, t2, t3, t4, t⟩ := t
      obtain ⟨a, us, rfl, q, r⟩ := vm_rep n rx e
      refine ⟨a, us, ds, _, rfl, SqL.of q, reps_each r t1, fun x d h => Rep.dp (wo_le H S) d x h.2 h.1, t2, t3, t4, fun ys p he hl => ?_⟩
      exact newL_ok n (each_reps he) hl t o
theorem de_sortedT {X : Cx} {G0 : Hp} {e : Expr} {ta : TDA} {pos : Pos} {k : Nat} {p : Pos} (m : Bool) (hr : Room k X.A) (hm : X.mg "sorted" = none) (ha : DA X G0 [e] ta) (hg : Gl X "sorted" := by rfl) (he : starEach [e] X.env = (false, eval e X.env) :: starEach [] X.env := by rfl) : DE X G0 (.Call (.Name "sorted" p) [e] [] pos) (dCB (sortedTD m) ta) := de_callB (cr_sortDt hr.units) lift_sortDt hg hm (by decide +kernel) ha (he := he)
abbrev TDO := Env' → Sto → (Option Int → Sto → Prop) → Prop
def upO (K : PySem.W.Frag) (G0 : Hp) (t : TDO) : TO := fun σ H Q => ∃ ρ S P, Stt K G0 ρ S σ H ∧ t ρ S P ∧ ∀ o S' H', P o S' → Nx K (wo H S) S' H' → Q o H'
abbrev DO (X : Cx) (G0 : Hp) (e : Option Expr) (t : TDO) : Prop := PO X e (upO X.K G0 t)
theorem PO.imp {X : Cx} {e : Option Expr} {t t' : TO} (h : PO X e t) (f : ∀ σ H Q, t' σ H Q → t σ H Q) : PO X e t' := ⟨fun pins s σ H Q I w => h.run pins s σ H Q I (f _ _ _ w)⟩
def doNone : TDO := fun _ S P => P none S
def doSome (te : TDE) : TDO := fun ρ S P => te ρ S fun d S1 => match d with
  | .int i => P (some i) S1
  | _ => False
def cutD (xs : List D) (lo hi : Option Int) : List D := (xs.drop (HT.sIx xs.length 0 lo)).take (HT.sIx xs.length xs.length hi - HT.sIx xs.length 0 lo)
def slk (m : Bool) (o : Option (List D)) (l h : Option Int) (S : Sto) (P : D → Sto → Prop) : Prop := match o with
  | some xs => newL m (cutD xs l h) S P
  | none => False
def dSlL (m : Bool) (te : TDE) (tl th : TDO) : TDE := fun ρ S P => te ρ S fun x S1 => tl ρ S1 fun l S2 => th ρ S2 fun h S3 => slk m (vl S3 x) l h S3 P
section
variable {X : Cx} {G0 : Hp} {pos p2 : Pos} {e : Expr} {te : TDE} {lo hi : Option Expr} {tl th : TDO}
theorem do_none : DO X G0 none doNone := PO.imp po_none fun σ H Q ⟨ρ, S, P, st, t, o⟩ => o _ _ _ t st.refl
theorem do_some (he : DE X G0 e te) : DO X G0 (some e) (doSome te) := PO.imp (po_some he) fun σ H Q ⟨ρ, S, P, st, t, o⟩ => ⟨ρ, S, _, st, t, fun d S1 v H1 t1 n1 r1 => by
  cases d with
  | int i => simp only [Rep] at r1; exact ⟨i, r1, o _ _ _ t1 n1⟩
  | _ => exact t1.elim⟩
theorem de_slL (m : Bool) (he : DE X G0 e te) (hl : DO X G0 lo tl) (hh : DO X G0 hi th) : DE X G0 (.Subscript e (.Slice lo hi none p2) pos) (dSlL m te tl th) :=
  PE.imp (pe_slice sl_list he hl hh) fun σ H Q ⟨ρ, S, P, st, t, o⟩ => ⟨ρ, S, _, st, t, fun x S1 v H1 t1 n1 r1 => ⟨ρ, S1, _, st.next n1, t1, fun l S2 H2 t2 n2 => ⟨ρ, S2, _, (st.next n1).next n2, t2, fun h S3 H3 t3 n3 => by
    have n4 := n2.trans n3
    have r4 := r1.mono n4.st
    cases e : vl S3 x with
    | none => rw [e] at t3; exact t3.elim
    | some xs =>
      rw [e] at t3
      obtain ⟨a, vs, rfl, q, r⟩ := vl_rep n4 r4 e
      refine ⟨a, vs, rfl, q, fun p hp => ?_⟩
      have hlen := r.len
      unfold cutV
      rw [← hlen]
      exact newL_ok n4 ((r.drop _).take _) hp t3 fun d S' v' H' p' n' r' => o _ _ _ _ p' ((n1.trans n4).trans n') r'⟩⟩⟩
end
end DL
namespace DL
open PySem L2 PySem.SeqAt PyProof.Rows PySem.MeetsSeq PySem.MeetsSeq2
open PySem.AutoSeq1 (wpAny_loadPart')
theorem rem_loopAt (l : Addr) (its : Array Value) (n : Nat) (x : Value) (e : Value → Bool) (j : Nat) (hj : j < its.size) (hit : e its[j] = true) (k : Nat) (hz : its.size ≤ sizeLine) :
    ∀ i : Nat, j - i = k → i ≤ j → (∀ m (hm : m < its.size), i ≤ m → m < j → e its[m] = false) →
      Meets (Builtin.«list.remove.loop» ⟨[.ref l, x, rawInt i], []⟩) (fun A R s => s.heap.get? l = some { cls := .type "list", dict := none, data := .seq its n, slots := #[] } ∧ (∀ y, y ∈ its → EqAt A.in1 s y x (e y)) ∧
        R (.ok (.ret .none)) { s with heap := s.heap.update l (Obj.mapSeq fun xs => xs.eraseIdxIfInBounds j) }) := by
  induction k with
  | zero =>
    intro i hk hij hno prog w A R s ⟨hl, he, h⟩
    obtain ⟨hp, g, d, tk, os⟩ := s
    have hij' : i = j := by omega
    subst hij'
    wp_walk using wpAny_loadPart' hl
    have hi : its[((i : Nat) : Int).toNat]? = some its[i] := by simp [hj]
    rw [hi]
    refine wpAny_bind (he _ (Array.getElem_mem hj) prog w _ _ ?_)
    rw [hit]
    have hz' : (its.eraseIdxIfInBounds i).size ≤ sizeLine + 1 := Nat.le_trans (size_erased its _) (Nat.le_succ_of_le hz)
    wp_walk using (wpAny_updateSeq hl rfl (hz := hz) (_hz' := hz')), wpAny_loadPart' hl
    simpa using h
  | succ k ih =>
    intro i hk hij hno prog w A R s ⟨hl, he, h⟩
    obtain ⟨hp, g, d, tk, os⟩ := s
    have hlt : i < its.size := by omega
    wp_walk using wpAny_loadPart' hl
    have hi : its[((i : Nat) : Int).toNat]? = some its[i] := by simp [hlt]
    have hc : ((i : Int) + 1) = ((i + 1 : Nat) : Int) := by push_cast; rfl
    rw [hi]
    refine wpAny_bind (he _ (Array.getElem_mem hlt) prog w _ _ ?_)
    rw [hno i hlt (Nat.le_refl _) (by omega)]
    wp_walk
    rw [hc]
    refine ⟨plainId_quiet plain_remove_loop _, codeAny_builtin entry_remove_loop ?_⟩
    rw [Around.under_plainId plain_remove_loop _]
    exact ih (i + 1) (by omega) (by omega) (fun m hm h1 h2 => hno m hm (by omega) h2) prog w A R _ ⟨hl, he, h⟩
theorem list_remAt (l : Addr) (its : Array Value) (n : Nat) (x : Value) (e : Value → Bool) (j : Nat) (hj : j < its.size) (hit : e its[j] = true) (hno : ∀ m (hm : m < its.size), m < j → e its[m] = false) (hz : its.size ≤ sizeLine) :
    Meets (Builtin.«list.remove» ⟨[.ref l, x], []⟩) (fun A R s => s.heap.get? l = some { cls := .type "list", dict := none, data := .seq its n, slots := #[] } ∧ (∀ y, y ∈ its → EqAt A.in1 s y x (e y)) ∧
      R (.ok (.ret .none)) { s with heap := s.heap.update l (Obj.mapSeq fun xs => xs.eraseIdxIfInBounds j) }) := by
  intro prog w A R s ⟨hl, he, h⟩
  obtain ⟨hp, g, d, tk, os⟩ := s
  wp_walk using wpAny_loadPart' hl
  refine ⟨plainId_quiet plain_remove_loop _, codeAny_builtin entry_remove_loop ?_⟩
  rw [Around.under_plainId plain_remove_loop _]
  exact rem_loopAt l its n x e j hj hit _ hz 0 rfl (Nat.zero_le _) (fun m hm _ h2 => hno m hm h2) prog w A R _ ⟨hl, he, h⟩
def rRemDt (K : PySem.W.Frag) : V → List V → Hp → VK → Prop := fun x xs H Q => ∃ (l : Addr) (us : List V) (y : V) (d : PyData) (ds : List PyData) (j : Nat) (z : PyData), x = .ref l ∧ xs = [y] ∧ H l = some (.lst us) ∧ DpAll K H us ds ∧ Dp K H y d ∧
  SeqAt.shaped (.list ds) = true ∧ SeqAt.shaped d = true ∧ ds[j]? = some z ∧ PyData.eqv z d = true ∧ (∀ (m : Nat) (z' : PyData), m < j → ds[m]? = some z' → PyData.eqv z' d = false) ∧ Q .non (upd H l (.lst (us.eraseIdx j)))
theorem mt_removeDt {X : Cx} (hu : X.A.units + 65 < cLine) : MtM X "list.remove" (rRemDt X.K) := by
  intro pins s σ H x xs v us Q I rx rxs ⟨l, vs, y, d, ds, j, z, ex, exs, hH, hds, hy, sl, sd, hz, hzj, hno, q⟩
  subst ex exs
  cases rx
  obtain ⟨u, rfl, ry⟩ := rxs.one
  obtain ⟨bs, r1⟩ := Dp.reads I d y u hy ry
  obtain ⟨hzl, its, n, r, hl, e⟩ := I.lstM hH
  obtain ⟨as, h4⟩ := Dp.readsAll I ds _ its hds r
  have hxs : PyData.canLayAll0 ds = true := SeqAt.canLay_of_shaped sl
  have hn : its.length = ds.length := SeqAt.ReadsAll.length ds its as h4
  have hmap : its.map (SeqAt.readOf s.heap) = ds := SeqAt.readsAll_map ds its as hxs h4
  have hjd : j < ds.length := (List.getElem?_eq_some_iff.mp hz).1
  have hj : j < its.toArray.size := by rw [List.size_toArray]; omega
  have at_ : ∀ (m : Nat) (hm : m < its.toArray.size) (z' : PyData), ds[m]? = some z' → SeqAt.readOf s.heap its.toArray[m] = z' := fun m hm z' hz' => by
    have hml : m < its.length := by simpa using hm
    rw [← hmap, List.getElem?_map, List.getElem?_eq_getElem hml] at hz'
    simpa using hz'
  refine call_meets PySem.F.slot_list_remove ⟨_, e, rfl⟩ PySem.F.entry_list_remove (PySem.F.args_list_remove_2 _ _) (list_remAt l its.toArray n u (fun u => PyData.eqv (SeqAt.readOf s.heap u) d) j hj ?_ ?_ ?_)
    ⟨e, SeqAt.items_eqAt (vs := its.toArray) (show ReadsAll s.heap its.toArray.toList ds as from h4) r1 hxs (SeqAt.canLay_of_shaped sd) (room_in_shaped sd hu), ?_⟩
  · show PyData.eqv (SeqAt.readOf s.heap its.toArray[j]) d = true
    rw [at_ j hj z hz]; exact hzj
  · intro m hm hmj
    have hmd : m < ds.length := by rw [List.size_toArray] at hm; omega
    show PyData.eqv (SeqAt.readOf s.heap its.toArray[m]) d = false
    rw [at_ m hm _ (List.getElem?_eq_getElem hmd)]
    exact hno m _ hmj (List.getElem?_eq_getElem hmd)
  · have := r.length
    rw [List.size_toArray]; omega
  · refine ⟨.non, _, I.lset (its' := its.eraseIdx j) (t' := s.toks) hH e ?_ (r.eraseIdx j) ?_, rfl, q⟩
    · show its.toArray.eraseIdxIfInBounds j = (its.eraseIdx j).toArray
      rw [List.eraseIdxIfInBounds_toArray]
    · have := List.length_eraseIdx_le vs j
      omega
theorem toPs_map : ∀ xs : List D, toPs xs = xs.map toP
  | [] => rfl
  | x :: xs => by simp only [toPs, List.map_cons, toPs_map xs]
def removeD : RMD := fun x ys S P => match ys with
  | [y] => onCell S x fun p xs => okD y = true ∧ okD (.lst xs) = true ∧ match xs.findIdx? fun z => dEq z y with
    | some j => P .non (su S p (.ml (xs.eraseIdx j)))
    | none => False
  | _ => False
theorem lift_remove {K : PySem.W.Frag} : LiftM K (rRemDt K) removeD := by
  intro x ys v vs G S H P Q n rx ry t o
  match ys, t with
  | [], t => exact t.elim
  | _ :: _ :: _, t => exact t.elim
  | [y], t =>
    obtain ⟨u, rfl, ru⟩ := ry.one
    obtain ⟨p, xs, rfl, h, h1, h2, t⟩ := onCell_ok t
    simp only [Rep] at rx
    obtain ⟨us, q, r⟩ := n.ok p _ h
    obtain ⟨p1, s1⟩ := okD_and h1
    obtain ⟨p2, s2⟩ := okD_and h2
    simp only [pureD] at p2
    simp only [toP] at s2
    cases e : xs.findIdx? fun z => dEq z y with
    | none => rw [e] at t; exact t.elim
    | some j =>
      rw [e] at t
      obtain ⟨hj, e1, e2⟩ := List.findIdx?_eq_some_iff_getElem.mp e
      have gt : ∀ (m : Nat) (hm : m < xs.length), (toPs xs)[m]? = some (toP xs[m]) := fun m hm => by rw [toPs_map, List.getElem?_map, List.getElem?_eq_getElem hm]; rfl
      refine ⟨p, us, u, toP y, toPs xs, j, toP xs[j], rx, rfl, q, Reps.dp (wo_le H S) xs us p2 r, Rep.dp (wo_le H S) y u p1 ru, s2, s1, gt j hj, e1, fun m z' hm hz => ?_, ?_⟩
      · have hml : m < xs.length := by omega
        rw [gt m hml] at hz
        cases hz
        have := e2 m hm
        exact Bool.eq_false_iff.mpr this
      · exact o _ _ _ _ t (wr_list n h (r.eraseIdx j)) (by simp only [Rep])
def ddN (ns : List Int) : Nat := (firstMet (fun i => ns.getD i 0) ns.length).length
def tLenSetG (K : PySem.W.Frag) (ta : TE) : TE := fun σ H Q => ta σ H fun x H1 => ∃ (l : Addr) (ns : List Int), x = .ref l ∧ SqL K H1 l (ns.map V.int) ∧ ns.length ≤ 4000 ∧ Q (.int (ddN ns : Nat)) H1
theorem pe_lenSetG {X : Cx} {a : Expr} {ta : TE} {p p2 q pos : Pos} (hc : X.calm = true) (hg : Gl X "len") (hm : X.mg "len" = none) (hg2 : Gl X "set") (hm2 : X.mg "set" = none) (ha : PE X a ta)
    (na : starEach [a] X.env = (false, eval a X.env) :: starEach [] X.env := by rfl) : PE X (.Call (.Name "len" p) [.Call (.Name "set" p2) [a] [] q] [] pos) (tLenSetG X.K ta) := by
  refine ⟨fun pins s σ H Q I h => Call_ (ld_blt I hg hm boot_len (PyProof.Rows.callWith_builtin1 (PyProof.Rows.args_cons (Call_ (ld_blt I hg2 hm2 boot_set ?_)) rfl) rfl rfl))⟩
  refine PyProof.Rows.callWith_type1 (PyProof.Rows.args_cons (thn (ha.run pins s σ H _ I h) fun v s1 ⟨x, H1, I1, r1, l, ns, ex, hq, hl, q1⟩ => PyProof.Rows.args_nil ?_) na) na rfl
  subst ex
  cases r1
  obtain ⟨its, r, pl, hz⟩ := I1.list hq
  have hlen : its.toArray.size = ns.length := by rw [List.size_toArray, ← r.length, List.length_map]
  refine call_set_list (I1.ok.hd hc) pl.isList (by simpa using r.ints) (by rw [hlen]; unfold scanBound; omega) fun h' tk hS hk => PyProof.Rows.args_nil ?_
  rw [hlen] at hS
  obtain ⟨o, es, ep, t, ho, hex, hd, _, _, _, hf, hn⟩ := hS
  have I2 : Inv X pins σ H1 { s1 with heap := h', toks := tk } := I1.kept fun b o e => hk b o (Heap.lt_size e) e
  have hle := firstMet_length_le (fun i => ns.getD i 0) ns.length
  exact call_len_set ho hex hd hf (by rw [hn]; omega) ⟨.int (ddN ns : Nat), H1, I2.tok _, ⟨_, by rw [hn]; rfl⟩, q1⟩
def lsk (o : Option (List Int)) (S : Sto) (P : D → Sto → Prop) : Prop := match o with
  | some ns => ns.length ≤ 4000 ∧ P (.int (ddN ns)) S
  | none => False
def dLenSet (te : TDE) : TDE := fun ρ S P => te ρ S fun x S1 => lsk ((vl S1 x).bind kInts) S1 P
theorem de_lenSet {X : Cx} {G0 : Hp} {e : Expr} {te : TDE} {p p2 q pos : Pos} (hc : X.calm = true) (hm : X.mg "len" = none) (hm2 : X.mg "set" = none) (he : DE X G0 e te) (hg : Gl X "len" := by rfl) (hg2 : Gl X "set" := by rfl)
    (na : starEach [e] X.env = (false, eval e X.env) :: starEach [] X.env := by rfl) : DE X G0 (.Call (.Name "len" p) [.Call (.Name "set" p2) [e] [] q] [] pos) (dLenSet te) :=
  PE.imp (pe_lenSetG hc hg hm hg2 hm2 he na) fun σ H Q ⟨ρ, S, P, st, t, o⟩ => ⟨ρ, S, _, st, t, fun x S1 v H1 t1 n1 r1 => by
    cases e : vl S1 x with
    | none => rw [e] at t1; exact t1.elim
    | some ds =>
      rw [e, Option.bind_some] at t1
      cases e2 : kInts ds with
      | none => rw [e2] at t1; exact t1.elim
      | some ns =>
        rw [e2] at t1
        have := kInts_eq e2
        subst this
        obtain ⟨a, vs, rfl, q, r⟩ := vl_rep n1 r1 e
        have := r.ints
        subst this
        exact ⟨a, ns, rfl, q, t1.1, o _ _ _ _ t1.2 n1 (by simp only [Rep])⟩⟩
theorem ddN_nodup {ns : List Int} (h : ns.Nodup) : ddN ns = ns.length := by
  unfold ddN
  rw [firstMet_nodup ns h _ (Nat.le_refl _), List.take_length]
theorem dd_fold : ∀ (l acc : List Int), (l.foldl step_dedup acc).length ≤ acc.length + l.length ∧ ((l.foldl step_dedup acc).length = acc.length + l.length → l.Nodup ∧ ∀ x ∈ l, x ∉ acc)
  | [], acc => ⟨Nat.le_refl _, fun _ => ⟨List.nodup_nil, fun x h => by cases h⟩⟩
  | x :: l, acc => by
    rw [List.foldl_cons]
    by_cases c : acc.any (· == x) = true
    · have e : step_dedup acc x = acc := if_pos c
      have h := dd_fold l acc
      rw [e, List.length_cons]
      exact ⟨by omega, fun z => by omega⟩
    · have e : step_dedup acc x = acc ++ [x] := if_neg c
      have h := dd_fold l (acc ++ [x])
      rw [List.length_append, List.length_singleton] at h
      rw [e, List.length_cons]
      refine ⟨by omega, fun z => ?_⟩
      obtain ⟨h1, h2⟩ := h.2 (by omega)
      have hx : x ∉ acc := fun m => c (List.any_eq_true.mpr ⟨x, m, beq_self_eq_true x⟩)
      refine ⟨List.nodup_cons.mpr ⟨fun m => h2 x m (by simp), h1⟩, fun y m => ?_⟩
      rcases List.mem_cons.mp m with rfl | m
      · exact hx
      · exact fun z => h2 y m (List.mem_append_left _ z)
theorem ddN_iff (ns : List Int) : ddN ns = ns.length ↔ ns.Nodup := by
  refine ⟨fun h => ?_, ddN_nodup⟩
  have e : (List.range ns.length).map (fun i => ns.getD i 0) = ns := by
    refine List.ext_getElem (by simp) fun i h1 h2 => ?_
    rw [List.getElem_map, List.getElem_range, List.getD_eq_getElem?_getD, List.getElem?_eq_getElem h2]; rfl
  unfold ddN firstMet at h
  rw [e] at h
  exact ((dd_fold ns []).2 (by simpa using h)).1
theorem mt_removeD {X : Cx} {k : Nat} (hr : Room k X.A) : MtM X "list.remove" (rRemDt X.K) := mt_removeDt (by have := hr.un; omega)
end DL
namespace DL
open PySem PySem.Spec PySem.W PySem.Calls PyProof.Rows PyProof.V L2 RT
section
variable {prog : Program} {w : World} {A : Around} {E : Value → Shared → Prop} {s : Shared}
theorem extend_rev {R : Result → Shared → Prop} {it l : Addr} {items : Array Value} (hh : A.handled = none) (hit : s.heap.IsRevIter it l ((items.size : Int) - 1)) (hl : s.heap.IsList l items) (hne : l ≠ it) (hn : items.size ≤ sizeLine) (S : Addr) (res : Value) (c₀ : Nat)
    (hS : s.heap.get? S = some { cls := .type "list", data := .seq #[] c₀ }) (hSi : S ≠ it) (hSl : S ≠ l)
    (hR : ∀ h' tk acc' c', (∀ b o, b ≠ S → b ≠ it → s.heap.get? b = some o → h'.get? b = some o) → h'.get? S = some { cls := .type "list", dict := none, data := .seq acc' c', slots := #[] } →
      ItemsOf (fun i v => items[items.size - 1 - i]? = some v) acc' items.size → R (.ok (.ret res)) { s with heap := h', toks := tk }) :
    wpAny (model prog w) A.in1 (Builtin.List.listExtendWith (.ref S) (.ref it) res)
      (fun fin s' => match fin with | .done f => R (.ok f) s' | .again c' => c'.quiet = true ∧ codeAny (model prog w) A c' R s') (fun e s' => R (.error e) s') s := by
  have W := (Walks.listRev (prog := prog) (w := w) (A := A.in1) hh it l hne items).toS
  have hSf : S ∉ [it, l] := by simp only [List.mem_cons, List.not_mem_nil, or_false, not_or]; exact ⟨hSi, hSl⟩
  have hT : s.TypeIs (.ref it) "list_reverseiterator" := hit.typeIs
  have h1 : Builtin.List.listSameRef (.ref S) (.ref it) = false := by simp [Builtin.List.listSameRef, hSi]
  unfold Builtin.List.listExtendWith
  refine wpAny_bind (wpAny_typeOf hT ?_)
  rw [if_neg (by rw [h1]; decide)]
  refine wpAny_bind (wpAny_pyIter_revIter hit ?_)
  refine wpAny_bind (wpAny_holding ?_)
  unfold Builtin.List.listLengthHint
  refine wpAny_bind (wpAny_specialOf hT nolen_lri ?_)
  show wpAny _ A.in1 (specialOf (Value.ref it) (Str.ofString "__length_hint__") >>= _) _ _ _
  refine wpAny_bind (wpAny_specialOf hT hint_lri ?_)
  generalize hid : ("list_reverseiterator.__length_hint__" : String) = id0
  wp_delta
  rw [show splitId id0 = some ("list_reverseiterator", "__length_hint__") from by subst hid; decide +kernel]
  subst hid
  refine wpAny_bind (wpAny_isInstance (b := true) hT (by rw [isSubtype_type]; kernel_rfl) ?_)
  refine wpAny_pure ?_
  rw [if_neg (by decide)]
  have e0 : ((items.size : Nat) : Int) - 1 - ((0 : Nat) : Int) = (items.size : Int) - 1 := by omega
  refine wpAny_pure ⟨plainId_quiet F.plain_extend_loop _, codeAny_extend_loopS W hn _ hSf _ items.size 0 _ _ _ rfl (Nat.zero_le _) ⟨Nat.zero_le _, by rw [e0]; exact hit, hl⟩ hS (ItemsOf.nil _) fun s' acc' c' hm hS' hacc => ?_⟩
  rw [Moved.eq_with hm]
  refine hR s'.heap s'.toks acc' c' (fun b o hb hb2 e => hm.heap b o (fun hmem => ?_) e) hS' hacc
  rcases List.mem_cons.mp hmem with e' | hmem
  · exact hb e'
  · exact hb2 (List.mem_singleton.mp hmem)
theorem list_init_rev {R : Result → Shared → Prop} {it l : Addr} {items : Array Value} (hh : A.handled = none) (hit : s.heap.IsRevIter it l ((items.size : Int) - 1)) (hl : s.heap.IsList l items) (hne : l ≠ it) (hn : items.size ≤ sizeLine) (S : Addr)
    (hS : s.heap.get? S = some { cls := .type "list", data := .seq #[] }) (hSi : S ≠ it) (hSl : S ≠ l)
    (hR : ∀ h' tk acc' c', (∀ b o, b ≠ S → b ≠ it → s.heap.get? b = some o → h'.get? b = some o) → h'.get? S = some { cls := .type "list", dict := none, data := .seq acc' c', slots := #[] } →
      ItemsOf (fun i v => items[items.size - 1 - i]? = some v) acc' items.size → R (.ok (.ret .none)) { s with heap := h', toks := tk }) :
    wpAny (model prog w) A.in1 (Builtin.«list.__init__» ⟨[.ref S, .ref it], []⟩)
      (fun fin s' => match fin with | .done f => R (.ok f) s' | .again c' => c'.quiet = true ∧ codeAny (model prog w) A c' R s') (fun e s' => R (.error e) s') s := by
  show wpAny _ A.in1 (do let old ← Builtin.List.listItems (.ref S); Builtin.List.listUpdate (.ref S) (fun _ => #[]); letGo old.toList.reverse; Builtin.List.listExtendWith (.ref S) (.ref it) .none) _ _ s
  refine wpAny_bind ?_
  unfold Builtin.List.listItems
  refine wpAny_bind (wpAny_seqItems hS rfl (wpAny_pure ?_))
  show wpAny _ A.in1 (updateSeq S (fun _ => #[]) >>= fun _ => letGo (#[] : Array Value).toList.reverse >>= fun _ => Builtin.List.listExtendWith (.ref S) (.ref it) .none) _ _ s
  refine wpAny_bind (wpAny_updateSeq hS rfl ?_)
  have hS₂ := Heap.get?_update_self (Obj.mapSeq (fun _ => (#[] : Array Value))) hS rfl
  have oth : ∀ b o, b ≠ S → s.heap.get? b = some o → (s.heap.update S (Obj.mapSeq (fun _ => (#[] : Array Value)))).get? b = some o :=
    fun b o hb e => (Heap.get?_update_other _ _ (Ne.symm hb)).trans e
  refine wpAny_bind (wpAny_letGo ?_)
  have hl2 : (s.heap.update S (Obj.mapSeq (fun _ => (#[] : Array Value)))).IsList l items := by
    obtain ⟨o, ho, r⟩ := id hl
    exact ⟨o, oth l o (Ne.symm hSl) ho, r⟩
  refine extend_rev (s := { s with heap := s.heap.update S (Obj.mapSeq (fun _ => (#[] : Array Value))) }) hh (hit.at fun o e => oth it o (Ne.symm hSi) e) hl2 hne hn S .none _ hS₂ hSi hSl fun h' tk acc' c' hk hS' hacc => ?_
  exact hR h' tk acc' c' (fun b o hb hb2 e => hk b o hb hb2 (oth b o hb e)) hS' hacc
theorem call_list_rev {Q : Value → Shared → Prop} {it l : Addr} {items : Array Value} (hh : A.handled = none) (hit : s.heap.IsRevIter it l ((items.size : Int) - 1)) (hl : s.heap.IsList l items) (hne : l ≠ it) (hn : items.size ≤ sizeLine)
    (hQ : ∀ h' tk acc' c', (∀ b o, b ≠ it → s.heap.get? b = some o → h'.get? b = some o) →
      h'.get? s.heap.objs.size = some { cls := .type "list", dict := none, data := .seq acc' c', slots := #[] } → ItemsOf (fun i v => items[items.size - 1 - i]? = some v) acc' items.size → Q (.ref s.heap.objs.size) { s with heap := h', toks := tk }) :
    wpAny (model prog w) A (call (.type "list") [.ref it]) Q E s := by
  refine callType_codes (Q₁ := fun obj s₁ => obj = .ref s.heap.objs.size ∧ s₁ = { s with heap := s.heap.push { cls := .type "list", data := .seq #[] } }) F.called_list (F.typeCall_list_1 _) F.entry_list_init
    (code_list_new _ ⟨rfl, rfl⟩) fun obj s₁ h₁ => ?_
  obtain ⟨rfl, rfl⟩ := h₁
  have hS : (s.heap.push { cls := .type "list", data := .seq #[] }).get? s.heap.objs.size = some { cls := .type "list", data := .seq #[] } := Heap.get?_push_size _ rfl
  obtain ⟨oi, hoi, _⟩ := id hit
  obtain ⟨ol, hol, _⟩ := id hl
  refine ⟨⟨_, hS, rfl⟩, F.args_list_init_2 _ _, list_init_rev (A := A.in1) (s := { s with heap := s.heap.push { cls := .type "list", data := .seq #[] } }) hh (hit.at fun o e => Heap.get?_push_of_some _ e) (hl.push _) hne hn _ hS (Nat.ne_of_gt (Heap.lt_size hoi)) (Nat.ne_of_gt (Heap.lt_size hol)) fun h' tk acc' c' hk hS' hacc => ?_⟩
  exact ⟨rfl, hQ h' tk acc' c' (fun b o hb e => hk b o (Nat.ne_of_lt (Heap.lt_size e)) hb (Heap.get?_push_of_some _ e)) hS' hacc⟩
end
def tListRev (K : PySem.W.Frag) (te : TE) : TE := fun σ H Q => te σ H fun v H1 => ∃ (a : Addr) (xs : List V), v = .ref a ∧ SqL K H1 a xs ∧ ∀ q, H1 q = none → Q (.ref q) (upd H1 q (.lst xs.reverse))
theorem pe_listRev {X : Cx} {e : Expr} {te : TE} {p p2 pos pos2 : Pos} (hc : X.calm = true) (hg : Gl X "list") (hm : X.mg "list" = none) (hg2 : Gl X "reversed") (hm2 : X.mg "reversed" = none) (he : PE X e te)
    (hs : starEach [e] X.env = (false, eval e X.env) :: starEach [] X.env := by rfl)
    (hs2 : starEach [.Call (.Name "reversed" p2) [e] [] pos2] X.env = (false, eval (.Call (.Name "reversed" p2) [e] [] pos2) X.env) :: starEach [] X.env := by rfl) :
    PE X (.Call (.Name "list" p) [.Call (.Name "reversed" p2) [e] [] pos2] [] pos) (tListRev X.K te) := by
  refine ⟨fun pins s σ H Q I h => ?_⟩
  refine Call_ (ld_blt I hg hm boot_list (PyProof.Rows.callWith_type1 (args_cons (Call_ (ld_blt I hg2 hm2 PyProof.Rows.boot_reversed (PyProof.Rows.callWith_type1 (args_cons (thn (he.run pins s σ H _ I h) fun u s1 ⟨v, H1, I1, r1, q1⟩ => args_nil ?_) hs) hs rfl))) hs2) hs2 rfl))
  obtain ⟨a, xs, ev, hq, q⟩ := q1
  subst ev
  obtain rfl : u = Value.ref a := r1
  obtain ⟨its, rv, p', hz⟩ := I1.list hq
  refine call_reversed_list p'.isList (args_nil ?_)
  have hl := p'.isList
  obtain ⟨ol, hol, _⟩ := id hl
  have hne : a ≠ s1.heap.objs.size := Nat.ne_of_lt (Heap.lt_size hol)
  have hn : its.toArray.size ≤ sizeLine := by rw [List.size_toArray, ← rv.length]; exact hz
  refine call_list_rev (s := { s1 with heap := s1.heap.push (revObj a ((its.toArray.size : Int) - 1)) }) (I1.ok.hd hc) ⟨_, Heap.get?_push_size _ rfl, rfl, rfl⟩ (hl.push _) hne hn fun h' tk acc c' hk e' hi => ?_
  have hS : s1.heap.objs.size ≤ (s1.heap.push (revObj a ((its.toArray.size : Int) - 1))).objs.size := by
    show _ ≤ (s1.heap.objs.push _).size
    simp
  refine ⟨.ref (s1.heap.push (revObj a ((its.toArray.size : Int) - 1))).objs.size, upd H1 (s1.heap.push (revObj a ((its.toArray.size : Int) - 1))).objs.size (.lst xs.reverse), I1.laid (t' := tk) (fun b o e => hk b o (Nat.ne_of_lt (Heap.lt_size e)) (Heap.get?_push_of_some _ e)) hS (show ObjOk X.prog X.w _ _ _ (.lst xs.reverse) from ⟨by rw [List.length_reverse]; exact hz, acc.toList, c', vals_rev rv hi, ?_⟩), rfl, q _ (I1.hok.fresh hS)⟩
  rw [Array.toArray_toList]
  exact e'
def lrk (m : Bool) (o : Option (List D)) (S : Sto) (P : D → Sto → Prop) : Prop := match o with
  | some xs => newL m xs.reverse S P
  | none => False
def dListRev (m : Bool) (te : TDE) : TDE := fun ρ S P => te ρ S fun x S1 => lrk m (vl S1 x) S1 P
theorem de_listRev (m : Bool) {X : Cx} {G0 : Hp} {e : Expr} {te : TDE} {p p2 pos pos2 : Pos} (hc : X.calm = true) (hm : X.mg "list" = none) (hm2 : X.mg "reversed" = none) (he : DE X G0 e te) (hg : Gl X "list" := by rfl) (hg2 : Gl X "reversed" := by rfl)
    (hs : starEach [e] X.env = (false, eval e X.env) :: starEach [] X.env := by rfl)
    (hs2 : starEach [.Call (.Name "reversed" p2) [e] [] pos2] X.env = (false, eval (.Call (.Name "reversed" p2) [e] [] pos2) X.env) :: starEach [] X.env := by rfl) : DE X G0 (.Call (.Name "list" p) [.Call (.Name "reversed" p2) [e] [] pos2] [] pos) (dListRev m te) :=
  PE.imp (pe_listRev hc hg hm hg2 hm2 he hs hs2) fun σ H Q ⟨ρ, S, P, st, t, o⟩ => ⟨ρ, S, _, st, t, fun x S1 v H1 t1 n1 r1 => by
    cases e : vl S1 x with
    | none => rw [e] at t1; exact t1.elim
    | some ds =>
      rw [e] at t1
      obtain ⟨a, vs, rfl, q, r⟩ := vl_rep n1 r1 e
      exact ⟨a, vs, rfl, q, fun p hp => newL_ok n1 r.rev hp t1 fun d S' v' H' p' n' r' => o _ _ _ _ p' (n1.trans n') r'⟩⟩
def rPopT1 : V → List V → Hp → VK → Prop := fun x xs H Q => ∃ (a : Addr) (kvs : List (List L2.Key × V)) (k : List L2.Key) (b : Addr) (v : V), x = .ref a ∧ xs = [.ref b] ∧ H a = some (.dT kvs) ∧ H b = some (.tup (k.map kV)) ∧ valV kvs k = some v ∧ Q v (upd H a (.dT (dropK kvs k)))
theorem mt_popT1 {X : Cx} (hu : X.A.units + 1 < cLine) : MtR X "dict.pop" rPopT1 := by
  intro pins s σ H x xs v us Q I rx rxs h
  obtain ⟨a, kvs, k, b, v0, rfl, rfl, ha, hb, ev, q⟩ := h
  cases rx
  obtain ⟨u, rfl, r1⟩ := rxs.one
  cases r1
  obtain ⟨z, hd, xs', rel, dd⟩ := dt_of I.hok ha
  have hz : xs'.length ≤ sizeLine := by rw [← Paired.length rel]; exact z
  refine call_meetsIn PySem.F.slot_dict_pop dd.typeIs PySem.F.entry_dict_pop (PySem.F.args_dict_pop_2 _ _) (meetsH_dict_pop (tupleKind (mixKind X.prog X.w)) a b hd [] (.inl rfl))
    ⟨tupleKind_room_in1 hu, k, xs', key_of I.hok hb, dd, hz, fun p hp h' dd' hs => ?_, fun hn tk => ?_⟩
  · have r := rel.val k
    rw [hp, ev] at r
    obtain ⟨o, es, ep, hq, h2, h3, h4, _, h5⟩ := dd'
    have I2 : Inv X pins σ (upd H a (.dT (dropK kvs k))) { s with heap := h', toks := s.toks + (tupleKind (mixKind X.prog X.w)).draws k } :=
      d_write I (by rw [ha]; exact True.intro) hs ⟨o, hq⟩ ⟨Nat.le_trans (dropK_le kvs k) z, hd, _, (DX.KT_drop k rel).keeps (fun c ys ec => (by rw [upd_ne (ne_of ec ha (fun z => nomatch z))]; exact ec)), o, es, ep, hq, h2, h3, h4, h5⟩
    exact ⟨v0, _, I2, r, q⟩
  · have r := rel.val k
    rw [hn, ev] at r
    exact (show False from r).elim
theorem zip_drop (k : List Int) {K : PySem.W.Frag} {G : Hp} : ∀ {kvs : List (List Int × D)} {vs : List V}, Reps K G (kvs.map (·.2)) vs →
    ∃ us, dropK ((kvs.map fun p => (p.1.map Sum.inl : List L2.Key)).zip vs) (k.map Sum.inl) = ((ddrop kvs k).map fun p => (p.1.map Sum.inl : List L2.Key)).zip us ∧ Reps K G ((ddrop kvs k).map (·.2)) us
  | [], vs, r => by
    simp only [List.map_nil, Reps] at r; subst r
    exact ⟨[], rfl, Reps.nil⟩
  | (a, d') :: kvs, vs, r => by
    simp only [List.map_cons, Reps] at r
    obtain ⟨v', t, rfl, q', s⟩ := r
    obtain ⟨us, e, ru⟩ := zip_drop k s
    by_cases h : a = k
    · subst h
      have e1 : ddrop ((a, d') :: kvs) a = ddrop kvs a := List.filter_cons_of_neg (by simp)
      have e2 : dropK (((a.map Sum.inl : List L2.Key), v') :: (kvs.map fun p => (p.1.map Sum.inl : List L2.Key)).zip t) (a.map Sum.inl) = dropK ((kvs.map fun p => (p.1.map Sum.inl : List L2.Key)).zip t) (a.map Sum.inl) := List.filter_cons_of_neg (by simp)
      refine ⟨us, ?_, ?_⟩
      · simp only [List.map_cons, List.zip_cons_cons]
        rw [e1, e2]; exact e
      · rw [e1]; exact ru
    · have h' : ¬ (a.map Sum.inl : List L2.Key) = k.map Sum.inl := fun z => h (inl_inj _ _ z)
      have e1 : ddrop ((a, d') :: kvs) k = (a, d') :: ddrop kvs k := List.filter_cons_of_pos (by simp [h])
      have e2 : dropK (((a.map Sum.inl : List L2.Key), v') :: (kvs.map fun p => (p.1.map Sum.inl : List L2.Key)).zip t) (k.map Sum.inl) = ((a.map Sum.inl : List L2.Key), v') :: dropK ((kvs.map fun p => (p.1.map Sum.inl : List L2.Key)).zip t) (k.map Sum.inl) := List.filter_cons_of_pos (by simp [h'])
      refine ⟨v' :: us, ?_, ?_⟩
      · simp only [List.map_cons, List.zip_cons_cons]
        rw [e1, e2, e]; rfl
      · rw [e1]; exact Reps.cons q' ru
def onDict (S : Sto) (d : D) (k : Addr → List (List Int × D) → Prop) : Prop := match d with
  | .ref p => match S p with
    | some (.dI kvs) => k p kvs
    | _ => False
  | _ => False
theorem onDict_ok {S : Sto} {d : D} {k : Addr → List (List Int × D) → Prop} (t : onDict S d k) : ∃ p kvs, d = .ref p ∧ S p = some (.dI kvs) ∧ k p kvs := by
  unfold onDict at t
  split at t
  · rename_i p
    split at t
    · rename_i e
      exact ⟨p, _, rfl, e, t⟩
    · exact t.elim
  · exact t.elim
def dpk (o : Option D) (p : Addr) (kvs : List (List Int × D)) (S : Sto) (P : D → Sto → Prop) : Prop := match o with
  | some d => P d (su S p (.dI kvs))
  | none => False
def dpj (o : Option (List Int)) (p : Addr) (kvs : List (List Int × D)) (S : Sto) (P : D → Sto → Prop) : Prop := match o with
  | some k => dpk (dget kvs k) p (ddrop kvs k) S P
  | none => False
def dDPop (to : TDE) (te : TDE) : TDE := fun ρ S P => to ρ S fun x S1 => onDict S1 x (fun _ _ => True) ∧ te ρ S1 fun y S2 => onDict S2 x fun p kvs => dpj (kI y) p kvs S2 P
theorem de_dpop {X : Cx} {G0 : Hp} {k : Nat} {o e : Expr} {to te : TDE} {apos cpos : Pos} (hr : Room k X.A) (ho : DE X G0 o to) (he : DE X G0 e te)
    (hbase : attributeBase o "pop" X.env (eval o X.env) = eval o X.env := by rfl)
    (hfew : ((backTo cpos (starEach [e] X.env)).all (fun x => !x.1) && (backToKw cpos (keywordEach [] X.env)).all (fun x => x.1.isSome)
      && decide (([e] : List Expr).length + ([] : List Keyword).length + (if ([] : List Keyword).isEmpty then 0 else 1) < 30)) = true := by rfl)
    (hline : (apos.endLine == cpos.line) = true := by rfl) (hs : starEach [e] X.env = (false, eval e X.env) :: starEach [] X.env := by rfl) (hplain : (backTo cpos (starEach [] X.env)).any (·.1) = false := by rfl) :
    DE X G0 (.Call (.Attribute o "pop" apos) [e] [] cpos) (dDPop to te) :=
  PE.imp (pe_bm PySem.F.plainAttrs_dict PySem.F.slot_dict_pop PySem.F.type_dict_pop (mt_popT1 (hu_of hr)) ho (pa_cons he pa_nil hs) hbase hfew hline hs hplain) fun σ H Q ⟨ρ, S, P, st, t, oo⟩ =>
    ⟨ρ, S, _, st, t, fun x S1 v H1 t1 n1 r1 => by
      obtain ⟨p, kvs, rfl, h1, _⟩ := onDict_ok t1.1
      simp only [Rep] at r1
      subst r1
      obtain ⟨vs1, hH1, _⟩ := n1.ok p _ h1
      refine ⟨.inr (.inr (.inl ⟨rfl, .inr ⟨_, hH1⟩⟩)), ρ, S1, _, st.next n1, t1.2, fun y S2 u H2 t2 n2 r2 => ?_⟩
      obtain ⟨p', kvs2, ep, h2, t2⟩ := onDict_ok t2
      cases ep
      cases ek : kI y with
      | none => rw [ek] at t2; exact t2.elim
      | some key =>
        rw [ek] at t2
        simp only [dpj] at t2
        cases eg : dget kvs2 key with
        | none => rw [eg] at t2; exact t2.elim
        | some d =>
          rw [eg] at t2
          obtain ⟨vs, hH, r⟩ := n2.ok p _ h2
          obtain ⟨b, rfl, hb⟩ := kI_rep (wo_le H2 S2) r2 ek
          have g := zip_get (f := fun k : List Int => (k.map Sum.inl : List L2.Key)) inl_inj key r
          rw [eg] at g
          obtain ⟨w0, hw, rw'⟩ := g.some_of
          obtain ⟨us, e1, r3⟩ := zip_drop key r
          have n3 : Nx X.K (wo H2 S2) (su S2 p (.dI (ddrop kvs2 key))) (upd H2 p (.dT (((ddrop kvs2 key).map fun p => (p.1.map Sum.inl : List L2.Key)).zip us))) := n2.write h2 ⟨us, upd_same, r3⟩
          refine ⟨p, _, key.map Sum.inl, b, w0, rfl, rfl, hH, hb, hw, ?_⟩
          rw [e1]
          exact oo _ _ _ _ t2 (n1.trans (n2.trans n3)) (rw'.mono n3.st)⟩
theorem dd_mem : ∀ (l acc : List Int), acc.Nodup → (l.foldl step_dedup acc).Nodup ∧ ∀ x, x ∈ l.foldl step_dedup acc ↔ x ∈ acc ∨ x ∈ l
  | [], acc, h => ⟨h, fun x => by simp⟩
  | y :: l, acc, h => by
    rw [List.foldl_cons]
    by_cases c : acc.any (· == y) = true
    · have e : step_dedup acc y = acc := if_pos c
      rw [e]
      obtain ⟨h1, h2⟩ := dd_mem l acc h
      refine ⟨h1, fun x => ?_⟩
      rw [h2, List.mem_cons]
      obtain ⟨z, hz, ez⟩ := List.any_eq_true.mp c
      have : z = y := by simpa using ez
      subst this
      constructor
      · rintro (q | q)
        · exact .inl q
        · exact .inr (.inr q)
      · rintro (q | rfl | q)
        · exact .inl q
        · exact .inl hz
        · exact .inr q
    · have e : step_dedup acc y = acc ++ [y] := if_neg c
      have hy : y ∉ acc := fun m => c (List.any_eq_true.mpr ⟨y, m, beq_self_eq_true y⟩)
      rw [e]
      have hn : (acc ++ [y]).Nodup := by
        rw [List.nodup_append]
        refine ⟨h, List.nodup_cons.mpr ⟨List.not_mem_nil, List.nodup_nil⟩, fun a ha b hb z => ?_⟩
        rw [List.mem_singleton.mp hb] at z
        exact hy (z ▸ ha)
      obtain ⟨h1, h2⟩ := dd_mem l (acc ++ [y]) hn
      refine ⟨h1, fun x => ?_⟩
      rw [h2, List.mem_append, List.mem_singleton, List.mem_cons]
      constructor
      · rintro ((q | q) | q)
        · exact .inl q
        · exact .inr (.inl q)
        · exact .inr (.inr q)
      · rintro (q | q | q)
        · exact .inl (.inl q)
        · exact .inl (.inr q)
        · exact .inr q
theorem ddN_of {ns l : List Int} (hd : l.Nodup) (hm : ∀ x, x ∈ l ↔ x ∈ ns) : l.length = ddN ns := by
  have e : (List.range ns.length).map (fun i => ns.getD i 0) = ns := by
    refine List.ext_getElem (by simp) fun i h1 h2 => ?_
    rw [List.getElem_map, List.getElem_range, List.getD_eq_getElem?_getD, List.getElem?_eq_getElem h2]; rfl
  unfold ddN firstMet
  rw [e]
  obtain ⟨h1, h2⟩ := dd_mem ns [] List.nodup_nil
  exact ((List.perm_ext_iff_of_nodup hd h1).mpr fun x => by rw [hm, h2]; simp).length_eq
def tLenSetT (K : PySem.W.Frag) (ta : TE) : TE := fun σ H Q => ta σ H fun x H1 => ∃ (l : Addr) (ns : List Int), x = .ref l ∧ SqT K H1 l (ns.map V.int) ∧ ns.length ≤ 4000 ∧ Q (.int (ddN ns : Nat)) H1
theorem pe_lenSetT {X : Cx} {a : Expr} {ta : TE} {p p2 q pos : Pos} (hc : X.calm = true) (hg : Gl X "len") (hm : X.mg "len" = none) (hg2 : Gl X "set") (hm2 : X.mg "set" = none) (ha : PE X a ta)
    (na : starEach [a] X.env = (false, eval a X.env) :: starEach [] X.env := by rfl) : PE X (.Call (.Name "len" p) [.Call (.Name "set" p2) [a] [] q] [] pos) (tLenSetT X.K ta) := by
  refine ⟨fun pins s σ H Q I h => Call_ (ld_blt I hg hm boot_len (PyProof.Rows.callWith_builtin1 (PyProof.Rows.args_cons (Call_ (ld_blt I hg2 hm2 PyProof.Rows.boot_set ?_)) rfl) rfl rfl))⟩
  refine PyProof.Rows.callWith_type1 (PyProof.Rows.args_cons (thn (ha.run pins s σ H _ I h) fun v s1 ⟨x, H1, I1, r1, l, ns, ex, hq, hl, q1⟩ => PyProof.Rows.args_nil ?_) na) na rfl
  subst ex
  cases r1
  obtain ⟨its, r, pl, hz⟩ := I1.tuple hq
  refine call_set_tupI ns (I1.ok.hd hc) pl (by simpa using r.ints) (by unfold scanBound; omega) fun h' tk c hS hcl hk => PyProof.Rows.args_nil ?_
  obtain ⟨o, es, ep, t, ho, hex, hd, _, hnd, hmem, _, hf, hn, _⟩ := hS
  have e : c = ddN ns := by
    rw [← hn, show es.size = (es.toList.map keyOf).length by rw [List.length_map, Array.length_toList]]
    refine ddN_of hnd fun x => ?_
    rw [← hmem x]; simp
  have hle := hcl
  have I2 : Inv X pins σ H1 { s1 with heap := h', toks := tk } := I1.kept fun b o e => hk b o e
  exact call_len_set ho hex hd hf (by rw [hn]; omega) ⟨.int (ddN ns : Nat), H1, I2.tok _, ⟨_, by rw [hn, e]⟩, q1⟩
def lskT (x : D) (S : Sto) (P : D → Sto → Prop) : Prop := match x with
  | .tup xs => lsk (kInts xs) S P
  | _ => False
def dLenSetT (te : TDE) : TDE := fun ρ S P => te ρ S fun x S1 => lskT x S1 P
theorem de_lenSetT {X : Cx} {G0 : Hp} {e : Expr} {te : TDE} {p p2 q pos : Pos} (hc : X.calm = true) (hm : X.mg "len" = none) (hm2 : X.mg "set" = none) (he : DE X G0 e te) (hg : Gl X "len" := by rfl) (hg2 : Gl X "set" := by rfl)
    (na : starEach [e] X.env = (false, eval e X.env) :: starEach [] X.env := by rfl) : DE X G0 (.Call (.Name "len" p) [.Call (.Name "set" p2) [e] [] q] [] pos) (dLenSetT te) :=
  PE.imp (pe_lenSetT hc hg hm hg2 hm2 he na) fun σ H Q ⟨ρ, S, P, st, t, o⟩ => ⟨ρ, S, _, st, t, fun x S1 v H1 t1 n1 r1 => by
    cases x with
    | tup ds =>
      simp only [lskT] at t1
      cases e2 : kInts ds with
      | none => rw [e2] at t1; exact t1.elim
      | some ns =>
        rw [e2] at t1
        have := kInts_eq e2
        subst this
        simp only [Rep] at r1
        obtain ⟨a, vs, rfl, q, r⟩ := r1
        have := r.ints
        subst this
        exact ⟨a, ns, rfl, SqT.of (wo_le _ _ _ _ q), t1.1, o _ _ _ _ t1.2 n1 (by simp only [Rep])⟩
    | _ => exact t1.elim⟩
end DL
namespace DL
open PySem PySem.Spec PySem.W PySem.Calls PyProof.Rows PyProof.V L2 RT
def dDispS (zs : List Str) (ta : TDA) : TDE := fun ρ S P => ∀ p, S p = none → ta ρ (su S p (.dS [])) fun ds S2 => S2 p = some (.dS []) ∧ ds.length = zs.length ∧ P (.ref p) (su S2 p (.dS (zs.zip ds)))
section
variable {X : Cx} {G0 : Hp} {pos : Pos}
structure DP (X : Cx) (G0 : Hp) (pos : Pos) (ks : List (Option Expr)) (es : List Expr) (zs : List Str) (ta : TDA) : Prop where
  ex : ∃ trs, PPs X pos ks es trs ∧ ∀ σ H (Q : List (V × V) → Hp → Prop), upA X.K G0 ta σ H (fun vs H' => Q ((zs.map V.str).zip vs) H') → tPairs trs σ H Q
theorem dp_nil : DP X G0 pos [] [] [] dNil := ⟨[], pps_nil, fun σ H Q ⟨ρ, S, P, st, t, o⟩ => o [] S [] H t st.refl Reps.nil⟩
theorem dp_cons {z : Str} {j kp} {e : Expr} {te : TDE} {ks es zs ta} (he : DE X G0 e te) (hp : DP X G0 pos ks es zs ta) : DP X G0 pos (some (.Constant (.str z) j kp) :: ks) (e :: es) (z :: zs) (dCons te ta) := by
  obtain ⟨trs, pp, f⟩ := hp.ex
  exact ⟨_, pps_cons pe_str he pp, fun σ H Q ⟨ρ, S, P, st, t, o⟩ => ⟨ρ, S, _, st, t, fun d S1 v H1 t1 n1 r1 => f σ H1 _ ⟨ρ, S1, _, st.next n1, t1, fun ds S2 vs H2 t2 n2 r2 => o _ _ _ _ t2 (n1.trans n2) (Reps.cons (r1.mono n2.st) r2)⟩⟩⟩
theorem zip_kV : ∀ (zs : List Str) (vs : List V), (zs.map V.str).zip vs = ((zs.map (Sum.inr : Str → Key)).zip vs).map (fun kv => (kV kv.1, kv.2))
  | [], _ => rfl
  | _ :: _, [] => rfl
  | z :: zs, v :: vs => congrArg ((V.str z, v) :: ·) (zip_kV zs vs)
theorem valV_none {kvs : List (Key × V)} {k : Key} (h : k ∉ kvs.map (·.1)) : valV kvs k = none := by
  induction kvs with
  | nil => rfl
  | cons p r ih =>
    rw [List.map_cons, List.mem_cons, not_or] at h
    rw [valV_neg (Ne.symm h.1)]
    exact ih h.2
theorem mergeK_new : ∀ (more kvs : List (Key × V)), ((kvs ++ more).map (·.1)).Nodup → mergeK kvs more = kvs ++ more
  | [], kvs, _ => (List.append_nil _).symm
  | p :: r, kvs, h => by
    have e1 : putK kvs p.1 p.2 = kvs ++ [p] := putK_new p.2 (valV_none fun z => by
      rw [List.map_append, List.map_cons] at h
      exact (List.nodup_append.mp h).2.2 _ z _ List.mem_cons_self rfl)
    show mergeK (putK kvs p.1 p.2) r = _
    rw [e1, mergeK_new r (kvs ++ [p]) (by rw [List.append_assoc]; exact h), List.append_assoc]; rfl
theorem de_dispS {ks es zs ta} (hp : DP X G0 pos ks es zs ta) (hall : ks.all (·.isSome) = true := by rfl) (hl : ks.length = es.length := by rfl) (h0 : ks ≠ [] := by decide) (h15 : ks.length ≤ 15 := by decide) (hz : zs.length ≤ 15 := by decide) (hd : zs.Nodup := by decide) : DE X G0 (.Dict ks es pos) (dDispS zs ta) := by
  obtain ⟨trs, pp, f⟩ := hp.ex
  refine PE.imp (pe_disp pp hall hl h0 h15) fun σ H Q ⟨ρ, S, P, st, t, o⟩ p hp => ?_
  have n0 : Nx X.K (wo H S) (su S p (.dS [])) (upd H p (.dK [])) := st.nx.cell hp fun G' s => ⟨[], upd_same, Reps.nil⟩
  refine f σ _ _ ⟨ρ, _, _, st.next n0, t p (st.nx.free hp), fun ds S2 vs H2 ⟨e, l, q⟩ n2 r2 => ?_⟩
  obtain ⟨us, hH, ru⟩ := n2.ok p _ e
  have hlen : vs.length = zs.length := by rw [← r2.len]; exact l
  have e0 : H2 p = some (.dK []) := by rw [hH]; rfl
  refine ⟨e0, (zs.map Sum.inr).zip vs, ?_, ?_, ?_⟩
  · exact zip_kV zs vs
  · rw [List.length_zip, List.length_map]; omega
  · have nd : (((zs.map Sum.inr : List Key).zip vs).map (·.1)).Nodup := by
      rw [List.map_fst_zip (by rw [List.length_map]; omega)]
      unfold List.Nodup
      rw [List.pairwise_map]
      exact hd.imp fun {a b} h z => h (by injection z)
    have em : mergeK [] ((zs.map (Sum.inr : Str → Key)).zip vs) = (zs.map (Sum.inr : Str → Key)).zip vs := (mergeK_new _ [] nd).trans (List.nil_append _)
    rw [em]
    have hm : (zs.zip ds).map (·.1) = zs := List.map_fst_zip (by omega)
    have hm2 : (zs.zip ds).map (·.2) = ds := List.map_snd_zip (by omega)
    exact o _ _ _ _ q (n0.trans (n2.trans (n2.write e ⟨vs, by rw [upd_same]; show _ = some (HO.dK (((zs.zip ds).map fun p => Sum.inr p.1).zip vs)); rw [show ((zs.zip ds).map fun p => (Sum.inr p.1 : Key)) = zs.map Sum.inr by rw [show (fun p : Str × D => (Sum.inr p.1 : Key)) = Sum.inr ∘ Prod.fst from rfl, ← List.map_map, hm]], by rw [hm2]; exact r2⟩))) (by simp only [Rep])
end
end DL
namespace DL
open PySem PySem.Spec PySem.W PySem.Calls PyProof.Rows PyProof.V L2 RT
def LeS (S' S : Sto) : Prop := ∀ a c, S' a = some c → S a = some c
def RepView (S S' : Sto) (d d' : D) : Prop := ∀ (K : PySem.W.Frag) (G H : Hp) (v : V), Nx K G S H → Rep K (wo H S) d v → Rep K (wo H S') d' v
def dFrzV (t : TDE) : TDE := fun ρ S P => t ρ S fun d S1 => ∃ d' S', LeS S' S1 ∧ RepView S1 S' d d' ∧ P d' S'
theorem RepView.same {S S' : Sto} (h : LeS S' S) (d : D) : RepView S S' d d := fun K G H v n r => r.mono (n.less h).st
theorem RepView.cell {S S' : Sto} (h : LeS S' S) {p : Addr} {xs : List D} (e : S p = some (.ml xs)) (e' : S' p = none) : RepView S S' (.ref p) (.lst xs) := fun K G H v n r => by
  have := n.less h
  obtain ⟨vs, hH, rs⟩ := n.ok p _ e
  simp only [Rep] at r
  subst r
  have : wo H S' p = some (.lst vs) := by rw [wo_none e']; exact hH
  have rs' := rs.mono (n.less h).st
  simp only [Rep]
  exact ⟨p, vs, rfl, this, rs'⟩
theorem RepView.lst {α : Type} {S S' : Sto} (h : LeS S' S) {f f' : α → D} {l : List α} (hl : ∀ x ∈ l, RepView S S' (f x) (f' x)) : RepView S S' (.lst (l.map f)) (.lst (l.map f')) := fun K G H v n r => by
  simp only [Rep] at r ⊢
  obtain ⟨a, vs, e, q, rr⟩ := r
  refine ⟨a, vs, e, (n.less h).st _ _ q, ?_⟩
  clear e q
  induction l generalizing vs with
  | nil => exact rr
  | cons x l ih =>
    simp only [List.map_cons, Reps] at rr ⊢
    obtain ⟨u, us, e1, e2, e3⟩ := rr
    exact ⟨u, us, e1, hl x List.mem_cons_self _ _ _ _ n e2, ih (fun y hy => hl y (List.mem_cons_of_mem _ hy)) us e3⟩
section
variable {X : Cx} {G0 : Hp} {e : Expr} {te : TDE}
theorem de_frzV (he : DE X G0 e te) : DE X G0 e (dFrzV te) := PE.imp he fun σ H Q ⟨ρ, S, P, st, t, o⟩ => ⟨ρ, S, _, st, t, fun d S1 v H1 ⟨d', S', l, w, q⟩ n1 r1 => o d' S' v H1 q (n1.trans (n1.less l)) (w _ _ _ _ n1 r1)⟩
end
end DL
namespace DL
open PySem PySem.Spec PySem.W PySem.Calls PyProof.Rows PyProof.V L2 RT
def strD : RCD := fun xs S P => match xs with
  | [.int i] => i.natAbs.log2 < 1920 ∧ P (.str (toString i)) S
  | [.str z] => P (.str z) S
  | _ => False
def intD : RCD := fun xs S P => match xs with
  | [.str z] => ∃ n, PySem.intText? z = some n ∧ z.length ≤ 640 ∧ P (.int n) S
  | _ => False
theorem lift_str {K : PySem.W.Frag} : LiftC K (fun xs H Q => (∃ i, xs = [.int i] ∧ i.natAbs.log2 < 1920 ∧ Q (.str (toString i)) H) ∨ ∃ a, xs = [.str a] ∧ Q (.str a) H) strD := by
  intro xs vs G S H P Q n r t o
  unfold strD at t
  split at t
  · obtain ⟨v, rfl, rx⟩ := r.one
    simp only [Rep] at rx
    subst rx
    exact .inl ⟨_, rfl, t.1, o.now n t.2 (by simp only [Rep])⟩
  · obtain ⟨v, rfl, rx⟩ := r.one
    simp only [Rep] at rx
    subst rx
    exact .inr ⟨_, rfl, o.now n t (by simp only [Rep])⟩
  · exact t.elim
theorem lift_int {K : PySem.W.Frag} : LiftC K (fun xs H Q => ∃ a n, xs = [.str a] ∧ PySem.intText? a = some n ∧ a.length ≤ 640 ∧ Q (.int n) H) intD := by
  intro xs vs G S H P Q n r t o
  unfold intD at t
  split at t
  · obtain ⟨v, rfl, rx⟩ := r.one
    simp only [Rep] at rx
    subst rx
    obtain ⟨m, h1, h2, h3⟩ := t
    exact ⟨_, m, rfl, h1, h2, o.now n h3 (by simp only [Rep])⟩
  · exact t.elim
def txtsD : List D → Option (List Str)
  | [] => some []
  | .str z :: r => (txtsD r).map (z :: ·)
  | _ => none
theorem txtsD_rep {K : PySem.W.Frag} {G : Hp} : ∀ {ds : List D} {vs : List V} {ys : List Str}, Reps K G ds vs → txtsD ds = some ys → vs = ys.map V.str
  | [], vs, ys, r, e => by simp only [Reps] at r; simp only [txtsD] at e; cases e; exact r
  | d :: ds, vs, ys, r, e => by
    simp only [Reps] at r
    obtain ⟨v, t, rfl, r1, r2⟩ := r
    cases d with
    | str z =>
      simp only [txtsD] at e
      cases c : txtsD ds with
      | none => rw [c] at e; cases e
      | some l =>
        rw [c] at e
        cases e
        simp only [Rep] at r1
        subst r1
        rw [txtsD_rep r2 c]; rfl
    | _ => simp only [txtsD] at e; cases e
theorem txtsD_map (l : List Str) : txtsD (l.map .str) = some l := by
  induction l with
  | nil => rfl
  | cons x l ih => simp only [List.map_cons, txtsD, ih]; rfl
theorem reps_txts {K : PySem.W.Frag} {G : Hp} : ∀ l : List Str, Reps K G (l.map .str) (l.map V.str)
  | [] => by simp only [List.map_nil, Reps]
  | x :: l => by simp only [List.map_cons, Reps]; exact ⟨_, _, rfl, by simp only [Rep], reps_txts l⟩
def dSplit (to te : TDE) : TDE := fun ρ S P => to ρ S fun x S1 => (∃ a, x = .str a) ∧ te ρ S1 fun y S2 => ∃ a b, x = .str a ∧ y = .str b ∧ (b.length == 0) = false ∧ a.length + 2 ≤ sizeLine ∧ P (.lst ((Txt.split a b).map .str)) S2
def dJoin (to te : TDE) : TDE := fun ρ S P => to ρ S fun x S1 => (∃ a, x = .str a) ∧ te ρ S1 fun y S2 => ∃ a l ys, x = .str a ∧ vm S2 y = some l ∧ txtsD l = some ys ∧ (ys.map (·.length)).sum + ys.length * a.length ≤ 16777216 ∧ P (.str (Txt.join a ys)) S2
def slsk (x : D) (l h : Option Int) (S : Sto) (P : D → Sto → Prop) : Prop := match x with
  | .str z => z.length ≤ sizeLine ∧ P (.str (cutS z l h)) S
  | _ => False
def dSlS (te : TDE) (tl th : TDO) : TDE := fun ρ S P => te ρ S fun x S1 => tl ρ S1 fun l S2 => th ρ S2 fun h S3 => slsk x l h S3 P
section
variable {X : Cx} {G0 : Hp} {pos p2 : Pos} {e : Expr} {te : TDE} {lo hi : Option Expr} {tl th : TDO}
theorem de_slS (he : DE X G0 e te) (hl : DO X G0 lo tl) (hh : DO X G0 hi th) : DE X G0 (.Subscript e (.Slice lo hi none p2) pos) (dSlS te tl th) :=
  PE.imp (pe_slice sl_str he hl hh) fun σ H Q ⟨ρ, S, P, st, t, o⟩ => ⟨ρ, S, _, st, t, fun x S1 v H1 t1 n1 r1 => ⟨ρ, S1, _, st.next n1, t1, fun l S2 H2 t2 n2 => ⟨ρ, S2, _, (st.next n1).next n2, t2, fun h S3 H3 t3 n3 => by
    unfold slsk at t3
    split at t3
    · simp only [Rep] at r1
      subst r1
      exact ⟨_, rfl, t3.1, o _ _ _ _ t3.2 (n1.trans (n2.trans n3)) (by simp only [Rep])⟩
    · exact t3.elim⟩⟩⟩
end
section
variable {X : Cx} {G0 : Hp} {pos : Pos} {e o : Expr} {te to : TDE} {ta : TDA} {k : Nat}
theorem de_str_of {p : Pos} (hm : X.mg "str" = none) (ha : DA X G0 [e] ta) (hg : Gl X "str" := by rfl) (he : starEach [e] X.env = (false, eval e X.env) :: starEach [] X.env := by rfl) : DE X G0 (.Call (.Name "str" p) [e] [] pos) (dCB strD ta) := de_callTy (call_str_int.or SkE.call_str_str) lift_str hg hm (by decide +kernel) ha (he := he)
theorem de_int_of {p : Pos} (hm : X.mg "int" = none) (ha : DA X G0 [e] ta) (hg : Gl X "int" := by rfl) (he : starEach [e] X.env = (false, eval e X.env) :: starEach [] X.env := by rfl) : DE X G0 (.Call (.Name "int" p) [e] [] pos) (dCB intD ta) := de_callTy call_int_str lift_int hg hm (by decide +kernel) ha (he := he)
theorem de_join {apos : Pos} (ho : DE X G0 o to) (he : DE X G0 e te) (hs : starEach [e] X.env = [(false, eval e X.env)] := by rfl) (hbase : attributeBase o "join" X.env (eval o X.env) = eval o X.env := by rfl) (hline : (apos.endLine == pos.line) = true := by rfl) : DE X G0 (.Call (.Attribute o "join" apos) [e] [] pos) (dJoin to te) :=
  PE.imp (pe_join ho he hs hbase hline) fun σ H Q ⟨ρ, S, P, st, t, oo⟩ => ⟨ρ, S, _, st, t, fun x S1 v H1 ⟨⟨a, ex⟩, t1⟩ n1 r1 => by
    subst ex
    simp only [Rep] at r1
    subst r1
    refine ⟨⟨a, rfl⟩, ρ, S1, _, st.next n1, t1, fun y S2 u H2 ⟨a', l, ys, e1, e2, e3, e4, q⟩ n2 r2 => ?_⟩
    cases e1
    obtain ⟨p, vs, rfl, hp, rr⟩ := vm_rep n2 r2 e2
    have := txtsD_rep rr e3
    subst this
    exact ⟨a, p, ys, rfl, rfl, .inl (SqL.of hp), e4, oo _ _ _ _ q (n1.trans n2) (by simp only [Rep])⟩⟩
theorem de_split {apos : Pos} (ho : DE X G0 o to) (he : DE X G0 e te) (hs : starEach [e] X.env = [(false, eval e X.env)] := by rfl) (hbase : attributeBase o "split" X.env (eval o X.env) = eval o X.env := by rfl) (hline : (apos.endLine == pos.line) = true := by rfl) : DE X G0 (.Call (.Attribute o "split" apos) [e] [] pos) (dSplit to te) :=
  PE.imp (pe_split ho he hs hbase hline) fun σ H Q ⟨ρ, S, P, st, t, oo⟩ => ⟨ρ, S, _, st, t, fun x S1 v H1 ⟨⟨a, ex⟩, t1⟩ n1 r1 => by
    subst ex
    simp only [Rep] at r1
    subst r1
    refine ⟨⟨a, rfl⟩, ρ, S1, _, st.next n1, t1, fun y S2 u H2 ⟨a', b, e1, e2, e3, e4, q⟩ n2 r2 => ?_⟩
    cases e1
    subst e2
    simp only [Rep] at r2
    subst r2
    refine ⟨a, b, rfl, rfl, e3, e4, fun p hp => ?_⟩
    have n3 := n2.alloc (o := .lst ((Txt.split a b).map V.str)) hp
    refine oo _ _ _ _ q (n1.trans (n2.trans n3)) ?_
    simp only [Rep]
    exact ⟨p, _, rfl, wo_new n2 hp, reps_txts _⟩⟩
end
def chD (z : Str) : List D := z.cps.toList.map fun c => .str ⟨#[c]⟩
def dForS (te : TDE) (g : TDG) (tb : TDS) : TDS := fun E ρ S => te ρ S fun d S1 => match d with
  | .str z => dGo (fun _ => True) g tb E (chD z) ρ S1
  | _ => False
section
variable {X : Cx} {G0 : Hp} {pos : Pos} {te : TDE} {W : WD}
theorem ds_forS {iter tg : Expr} {body : List Stmt} {g : TG} {g' : TDG} {tb : TDS} (hp : PassesOwn (model X.prog X.w) X.A X.env X.xe) (hc : X.calm = true) (tk : Takes X (upW X.K G0 W)) (hi : DE X G0 iter te) (hg : PG X tg g) (hl : LiftG X.K g g')
    (hb : ∀ G1, Takes X (upW X.K G1 W) → DSs X G1 body tb) (hs : ∀ x, foldedSetIterable iter X.env x = pure x := by intro _; rfl) : DS X G0 (.For tg iter body [] pos) (dForS te g' tb) := by
  have key : PS X (.For tg iter body [] pos) (tFor (iStr (upE X.K G0 te)) g (fun D σ H => ∃ G1, Takes X (upW X.K G1 W) ∧ upS X.K G1 tb D σ H)) :=
    ps_for hp hc (pi_str hi) hg (tb := fun D σ H => ∃ G1, Takes X (upW X.K G1 W) ∧ upS X.K G1 tb D σ H) ⟨fun pins s σ H D I ⟨G1, tk1, h⟩ => (hb G1 tk1).run pins s σ H D I h⟩ hs
  refine PS.imp key fun E σ H ⟨ρ, S, dD, s, t, o⟩ => ⟨ρ, S, _, s, t, fun d S1 v H1 t1 n1 r1 => ?_⟩
  cases d with
  | str z =>
    simp only [Rep] at r1
    subst r1
    have lz : (chD z).length = z.cps.size := by unfold chD; rw [List.length_map, Array.length_toList]
    refine ⟨z, rfl, fun i m σ H => m = (chD z).length - i ∧ i ≤ (chD z).length ∧ ∃ ρ' S', Stt X.K G0 ρ' S' σ H ∧ dGo (fun _ => True) g' tb dD ((chD z).drop i) ρ' S', ⟨_, rfl, Nat.zero_le _, ρ, S1, s.next n1, t1⟩, ?_⟩
    rintro i m σ2 H2 ⟨rfl, hi', ρ2, S2, s2, go⟩
    by_cases hlt : i < (chD z).length
    · rw [List.drop_eq_getElem_cons hlt] at go
      refine .inr ⟨by show i < z.cps.size; omega, fun σ3 H3 => i + 1 ≤ (chD z).length ∧ ∃ ρ' S', Stt X.K G0 ρ' S' σ3 H3 ∧ dGo (fun _ => True) g' tb dD ((chD z).drop (i + 1)) ρ' S', fun σ3 H3 y => ⟨(chD z).length - (i + 1), by omega, rfl, y.1, y.2⟩, fun x H3 y => ?_⟩
      obtain ⟨e3, c, ec, e4⟩ := y
      cases e3
      have hx : (chD z)[i] = .str ⟨#[c]⟩ := by
        have h1 : (chD z)[i]? = some (.str ⟨#[c]⟩) := by unfold chD; rw [List.getElem?_map, Array.getElem?_toList, ec]; rfl
        rw [List.getElem?_eq_getElem hlt] at h1
        exact Option.some.inj h1
      rw [hx] at go
      refine hl (wo H2 S2) _ _ _ _ _ _ _ _ ⟨s2.env, s2.nx.refl⟩ (show Rep X.K _ (.str ⟨#[c]⟩) x by simp only [Rep]; exact e4) go.2 fun ρ3 σ3 p s3 => ?_
      exact ⟨wo H2 S2, Takes.le tk s2.nx.st, ρ3, S2, _, s3, p, o.loop s2.nx.st fun ρ4 S4 σ4 H4 y s4 => ⟨hlt, ρ4, S4, s4.le s2.nx.st, y⟩⟩
    · have e' : i = (chD z).length := by omega
      subst e'
      rw [List.drop_length] at go
      exact .inl ⟨by show z.cps.size ≤ _; omega, o.nx _ _ _ _ go.2 s2⟩
  | _ => exact t1.elim
end
end DL
namespace DL
open PySem L2
abbrev blkX (X : Cx) (s : Shared) (H : Hp) (scope : Scope) (ce : Env) (fp : List Addr) (xb : Value → Shared → Prop) : Cx := { X.blk s H scope ce fp with xe := xb }
theorem hide_one {h : Heap} {C b : Addr} {o : Obj} (e : h.get? b = some o) (n : b ≠ C) : (PySem.W.hideAll h [C]).get? b = some o := PySem.W.hideAll_get _ e (by simpa using n)
theorem hide_gone {h : Heap} {C : Addr} : (PySem.W.hideAll h [C]).get? C = none := by
  cases e : h.get? C with
  | some o => exact PySem.W.hideAll_none _ (List.mem_singleton.mpr rfl)
  | none =>
    cases q : (PySem.W.hideAll h [C]).get? C with
    | none => rfl
    | some o => rw [PySem.W.of_hideAll _ q] at e; cases e
theorem hide_sub {h : Heap} {C b : Addr} (e : h.get? b = none) : (PySem.W.hideAll h [C]).get? b = none := by
  cases q : (PySem.W.hideAll h [C]).get? b with
  | none => rfl
  | some o => rw [PySem.W.of_hideAll _ q] at e; cases e
theorem hide_inv {h : Heap} {C b : Addr} {o : Obj} (e : (PySem.W.hideAll h [C]).get? b = some o) : h.get? b = some o ∧ b ≠ C := ⟨PySem.W.of_hideAll _ e, fun z => by rw [z, hide_gone] at e; cases e⟩
theorem ns_data {h : Heap} {C : Addr} {m : Str → Option Value} (n : h.Ns C m) : ∃ o, h.get? C = some o ∧ ∀ vs, o.data ≠ .fields vs := by
  obtain ⟨o, es, ep, ho, hd, _⟩ := n
  exact ⟨o, ho, fun vs z => by rw [hd] at z; cases z⟩
section
variable {X : Cx} {pins pb : List (Addr × Obj)} {σ σb : St} {H3 Hb : Hp} {s3 sb s' : Shared} {scope : Scope} {ce : Env} {fp : List Addr} {xb : Value → Shared → Prop} {Wx : WX} {Eb : XK} {u : Value}
theorem falls (hst : X.stack = X.env :: X.outer) (hfr : X.env.frame = some X.env.locals) (tk : L2N.Takes X Wx) (I3 : Inv X pins σ H3 s3) (hL : s3.heap.objs.size ≤ ce.locals) (hcf : ce.frame = X.env.frame) (hfp : ∀ b ∈ fp, FpOk X pins H3 b)
    (Ib : Inv (blkX X s3 H3 scope ce fp xb) pb σb Hb sb) (hW : ∀ cls d H', Eb cls d H' → Wx cls d σ H') (c : L2N.CX X.prog X.w X.stack Hb sb Eb u s') : notedBy (model X.prog X.w) X.A ce (CompFails (model X.prog X.w) X.A X.xe ce) u s' := by
  have I7 : Inv X pins σ Hb sb := I3.call' (ch := fp) Ib.os Ib.base Ib.hok Ib.bare fun b hb => let q := hfp b hb; ⟨q.2.2.2.1, q.2.1, q.2.2.2.2.1, q.2.2.2.2.2⟩
  have hA : X.A.frames = some (X.env :: X.outer) := by rw [I3.ok.frames, hst]
  obtain ⟨a, B, H', cls, d, rfl, fl, hok, ub, na, os, ag, w⟩ := c
  -- the block's names
  obtain ⟨mC, nC, _⟩ := Ib.loc
  have nC : sb.heap.Ns ce.locals mC := nC
  have fC : Hb ce.locals = none := Ib.free
  obtain ⟨oC, eC, _⟩ := ns_data nC
  have f3 := I3.fpOk (H' := H') hL (ub.free _ _ eC fC)
  obtain ⟨g0, g1, g2, g3, g4, g5⟩ := f3
  have nfr : ce.locals ∉ frs X.stack := fun z => by
    obtain ⟨v, hv, ev⟩ := List.mem_filterMap.mp z
    rw [hst] at hv
    rcases List.mem_cons.mp hv with rfl | hv
    · rw [hfr] at ev; exact g1 (Option.some.inj ev).symm
    · exact g2 (List.mem_filterMap.mpr ⟨v, hv, ev⟩)
  have eB : B.get? ce.locals = some oC := ub.keep _ _ eC fC nfr
  show wpAny _ X.A (noteFrame (.ref a) ce) _ _ s'
  rw [noteFrame_env _ hcf]
  rw [hst] at fl
  refine PXN.looks_onZ L2N.Zn.steady hA hfr fl fun h1 held up1 => ?_
  obtain ⟨st1, an1, ff1, oe, vs, T, oT, ts, he, hz, hd, hv1, hnT, hTe, hT, hdT, h33⟩ := held
  have n1 : h1.Ns ce.locals mC := by
    obtain ⟨o, es, ep, ho, r⟩ := nC
    rw [eC] at ho; cases ho
    exact ⟨oC, es, ep, st1 _ _ eB, r⟩
  refine ⟨mC, n1, fun h2 m2 n2 sb2 => ?_⟩
  have stay : ∀ b o, b ≠ ce.locals → h1.get? b = some o → h2.get? b = some o := fun b o n e => (sb2.2 b n).trans e
  obtain ⟨oC1, eC1, dC1⟩ := ns_data n1
  have ne_fields : ∀ {b : Addr} {o : Obj} {vs : Array Value}, h1.get? b = some o → o.data = .fields vs → b ≠ ce.locals := fun e dd z => by
    rw [z, eC1] at e; cases e; exact dC1 _ dd
  have ff2 : h2.FunFrames (PySem.W.hideAll B [ce.locals]) (X.env :: X.outer) := funFrames_none (Heap.FunFrames.sameBut sb2 n2 ff1) fun L hLm => by
    obtain ⟨hb0, _⟩ := ff1.mem hLm
    exact hide_sub hb0
  have held2 : HandSPX.HeldZ (PySem.W.hideAll B [ce.locals]) (X.env :: X.outer) a (L2N.Zn cls d) X.env.locals h2 :=
    ⟨fun b o e => let q := hide_inv e; stay b o q.2 (st1 b o q.1), hide_sub an1, ff2, oe, vs, T, oT, ts, stay _ _ (ne_fields he hd) he, hz, hd, hv1, hide_sub hnT, hTe, stay _ _ (ne_fields hT hdT) hT, hdT, h33⟩
  unfold passOn
  refine wpAny_bind (wpAny_field (stay _ _ (ne_fields he hd) he) hd hv1 ?_)
  rw [if_neg (show ¬ ((Value.ref T == Value.none) = true) from by simp), hcf, hfr]
  have fin : wpAny (model X.prog X.w) X.A (setFlight (.ref a) (some X.env.locals)) (fun _ s4 => wpAny (model X.prog X.w) X.A (throw (.ref a) : Sem Value) (fun _ _ => False) X.xe s4) X.xe { s' with heap := h2 } := by
    refine HandSPX.setFlight_onZ held2 fun h4 held4 up4 => wpAny_throw (tk _ _ ?_)
    have st4 := held4.1
    obtain ⟨G, k1, k2⟩ := restrict h4 fun b => ((PySem.W.hideAll B [ce.locals]).get? b).isSome || decide (b ∈ frs X.stack)
    have inB : ∀ b o, (PySem.W.hideAll B [ce.locals]).get? b = some o → G.get? b = some o := fun b o e => (k1 b (by rw [e]; rfl)).trans (st4 b o e)
    have inF : ∀ b, b ∈ frs X.stack → G.get? b = h4.get? b := fun b hb => k1 b (by rw [decide_eq_true hb, Bool.or_true])
    have ofG : ∀ b o, G.get? b = some o → h4.get? b = some o ∧ (b ∉ frs X.stack → (PySem.W.hideAll B [ce.locals]).get? b = some o) := fun b o e => by
      by_cases hp : (((PySem.W.hideAll B [ce.locals]).get? b).isSome || decide (b ∈ frs X.stack)) = true
      · have e4 : h4.get? b = some o := (k1 b hp).symm.trans e
        refine ⟨e4, fun nf => ?_⟩
        rw [decide_eq_false nf, Bool.or_false] at hp
        obtain ⟨o', q⟩ := Option.isSome_iff_exists.mp hp
        have := st4 b o' q
        rw [e4] at this; cases this
        exact q
      · rw [k2 b (by simpa using hp)] at e; cases e
    have one : ∀ {b : Addr}, b ∉ [ce.locals] → b ≠ ce.locals := fun h z => h (List.mem_singleton.mpr z)
    have toSl : ∀ b o, sb.heap.get? b = some o → b ∈ frs X.stack → b ∉ [ce.locals] → ∃ sl, G.get? b = some { o with slots := sl } := fun b o e hb hn => by
      obtain ⟨_, o0, e0, nf⟩ := I7.stack.mem hb
      rw [e] at e0; cases e0
      obtain ⟨sl1, r1⟩ := ub.slot b o e hb
      obtain ⟨sl2, r2⟩ := up1 b _ r1 nf
      obtain ⟨sl3, r3⟩ := up4 b _ (stay b _ (one hn) r2) nf
      exact ⟨sl3, (inF b hb).trans r3⟩
    have hokG : HOk X.prog X.w H' G := fun b ob e => (hok b ob e).stay (fun c o hc q => inB c o (hide_one q fun z => by
      rcases hc with hc | hc
      · rw [← hc, z, g0] at e; cases e
      · rw [z, g0] at hc; cases hc)) (fun _ q => q) fun _ _ q => q
    refine ⟨a, PySem.W.hideAll B [ce.locals], { sb with heap := G, gens := s'.gens, drawn := s'.drawn, toks := s'.toks }, pins, σ, H', cls, d, rfl, ?_, fun b o e nf => (ofG b o e).2 nf, Heap.UpToSlots.of_keeps fun b o e => (ofG b o e).1, .inr (.inr (by rw [hst]; exact held4)), na, os, ag, hW _ _ _ w⟩
    refine I7.call (ch := [ce.locals]) ⟨fun b o e n hb hn => inB b o (hide_one (ub.keep b o e n hb) (one hn)), fun b o e _ hb hn => toSl b o e hb hn, fun b o e n _ => ub.free b o e n, fun b o e hn => ?_, ub.tups, ub.frzs, ub.tbls⟩ hokG ag fun b hb => ?_
    · by_cases hb : b ∈ frs X.stack
      · obtain ⟨sl, r⟩ := toSl b o e hb hn
        exact ⟨_, r⟩
      · obtain ⟨o', r⟩ := ub.there b o e hb
        exact ⟨o', inB b o' (hide_one r (one hn))⟩
    · rw [List.mem_singleton.mp hb]
      exact ⟨g3, g1, g4, g5⟩
  first
    | exact wpAny_bind (wpAny_pure (wpAny_bind fin))
    | exact wpAny_bind fin
end
def dLcR (m : Bool) (ti : TDI) (g : TDG) (te : WD → TDE) (vs : List Nat) (W : WD) : TDE := fun ρ S P => ti ρ S fun xs still S1 => ∀ p, S1 p = none → lcGo still g dYes (te fun C _ S' => W C ρ S') (wipeD ρ vs) p (lcFin m p P) xs (su S1 p (.ml []))
theorem de_callP {X : Cx} {G0 : Hp} {k : Nat} {f : Addr} {fd : FuncData} {ps : List Str} {x : Str} {p pos : Pos} {e : Expr} {es : List Expr} {sp : DSp} {W : WD} {ta : TDA} (F : FnOk X.prog X.w X.K X.mg X.base (L2N.CX X.prog X.w) k f fd ps (upSp X.K sp)) (hr : Room k X.A) (hm : X.mg x = some (.ref f)) (hk : PySem.W.keepIn X.K (.ref f) = true) (hb : Binds X.K fd ps [])
    (pa : ∀ σ, PassesAt (L2N.CX X.prog X.w) X σ (WE (upW X.K G0 W) σ)) (ha : DA X G0 (e :: es) ta) (hg : Gl X x := by rfl) (hdb : (x == ("__debug__" : Str)) = false := by decide) (he : starEach (e :: es) X.env = (false, eval e X.env) :: starEach es X.env := by rfl) (hpl : (backTo pos (starEach es X.env)).any (·.1) = false := by rfl) :
    DE X G0 (.Call (.Name x p) (e :: es) [] pos) (dCall sp W ta) :=
  PE.imp (pe_callS (E := WE (upW X.K G0 W)) F hr hg hm hk hb pa ha hdb he hpl) fun σ H Q ⟨ρ, S, P, st, t, oo⟩ => ⟨ρ, S, _, st, t, fun ds S1 vs H1 t1 n1 r1 =>
    ⟨ds, S1, P, _, n1.refl, r1, t1, fun d S' v H' a b c => oo _ _ _ _ a (n1.trans b) c, fun C' S' H' w n2 => ⟨ρ, S', C', rfl, rfl, (st.next n1).next n2, w⟩⟩⟩
theorem ds_setLcR (i : Nat) (m : Bool) {X : Cx} {G0 : Hp} {W : WD} {y : Str} {py : Pos} {elt tg iter : Expr} {scope : Scope} {own : List (Str × Nat)} {pos spos : Pos} {wi : TI} {ti : TDI} {g : TG} {g' : TDG} {te : WD → TDE}
    (hst : X.stack = X.env :: X.outer) (hfr : X.env.frame = some X.env.locals) (tk : L2N.Takes X (upW X.K G0 W)) (hc : X.calm = true) (hN : X.N.Nodup) (hy : X.N[i]? = some y) (hyl : X.env.scope.names.lookup y = some .local)
    (hsw : swapsWith (.ListComp elt [⟨tg, iter, [], 0⟩] scope pos) (some (.Name y py)) spos.line X.env = pure true) (hi : PI X tg iter wi) (hli : LiftI X.K G0 wi ti) (hl : LiftG X.K g g') (hw : WipeG g (own.map (·.2))) (ok : BlkOk X.N X.env.scope scope own)
    (hg : ∀ (s : Shared) (H : Hp) (C : Addr) (cl : List (Str × Addr)) (fp : List Addr) (xb : Value → Shared → Prop), PG (blkX X s H scope (compEnvC scope cl C X.env) fp xb) tg g)
    (he : ∀ (s : Shared) (H : Hp) (C : Addr) (cl : List (Str × Addr)) (fp : List Addr) (xb : Value → Shared → Prop) (G1 : Hp) (Wb : WD), (∀ σ, PassesAt (L2N.CX X.prog X.w) (blkX X s H scope (compEnvC scope cl C X.env) fp xb) σ (WE (upW X.K G1 Wb) σ)) → DE (blkX X s H scope (compEnvC scope cl C X.env) fp xb) G1 elt (te Wb))
    (hs : ∀ x, foldedSetIterable iter X.env x = pure x := by intro _; rfl) :
    DS X G0 (.Assign [.Name y py] (.ListComp elt [⟨tg, iter, [], 0⟩] scope pos) spos) (dAsg (dLcR m ti g' te (own.map (·.2)) W) (dgN i)) := by
  refine ⟨fun pins s σ H En I ⟨ρ, S, dD, st, t, oo⟩ => ?_⟩
  rw [PySem.exec_Assign_Name_used _ _ _ _ hsw]
  refine wpAny_bind (wpAny_standAt (wpAny_bind ?_))
  have hfree : ∀ z ∈ scope.names, z.2 = .free → ∃ c, X.env.cells.lookup z.1 = some c := fun z hz e => I.ok.has _ (ok.free z hz e)
  refine wpAny_bind (wpAny_mono (comprehension_at (g := ⟨tg, iter, [], 0⟩) (gs := []) (use := some (assign (.Name y py) X.env)) (Q := fun _ s' => SP X pins En .next s') rfl hs (closure_ok hfree) ok.kind (fun z hz e => by rw [ok.uniq z hz, e]) ?_) (fun _ s' hq => wpAny_pure (wpAny_pure hq)) fun _ _ e => e)
  refine thn (hi.run pins s σ H (fun J H1 => ∃ xs still S1, (∀ p, S1 p = none → lcGo still g' dYes (te fun C _ S' => W C ρ S') (wipeD ρ (own.map (·.2))) p (lcFin m p fun d S' => dgN i d ρ S' dD.nx) xs (su S1 p (.ml []))) ∧ Nx X.K (wo H S) S1 H1 ∧ Serves X.K J xs still S1 H1) I
    (hli σ H _ ρ S _ st t fun xs still S1 H1 J a b c => ⟨xs, still, S1, a, b, c⟩)) fun xv s1 hx => thn hx fun itv s2 h2 => ?_
  obtain ⟨it, fp, tn, J, H2, e, I2, T, st2, f2, xs, still, S1, t1, n1, sv⟩ := h2
  subst e
  obtain ⟨Iv, i0, ik, ig, ie⟩ := sv.ex
  refine wpAny_newObj_type (newEnv_comp ?_) (Nat.zero_le _)
  generalize eL : s2.heap.objs.size = L
  have hLn : H2 L = none := I2.hok.fresh (Nat.le_of_eq eL)
  have hLS : S1 L = none := n1.free hLn
  obtain ⟨s3, es3⟩ : ∃ z : Shared, z = { s2 with heap := s2.heap.push { cls := .type "list", data := .seq ([] : List Value).toArray } } := ⟨_, rfl⟩
  have eh3 : s3.heap = s2.heap.push { cls := .type "list", data := .seq ([] : List Value).toArray } := by rw [es3]
  have I3 : Inv X pins σ (upd H2 L (.lst [])) s3 := by
    rw [es3]
    exact I2.laid (t' := s2.toks) (fun _ _ e => Heap.get?_push_of_some _ e) (Nat.le_of_eq eL) ⟨Nat.zero_le _, [], 0, .nil, by rw [← eL]; exact Heap.get?_push_size _ rfl⟩
  have f3 : ∀ b ∈ fp, FpOk X pins (upd H2 L (.lst [])) b ∧ b < s3.heap.objs.size := fun b hb => by
    obtain ⟨o, e, _⟩ := T.obj _ _ st2 b hb
    have lt := Heap.lt_size e
    have nl : b ≠ L := by rw [← eL]; exact Nat.ne_of_lt lt
    exact ⟨⟨by rw [upd_ne nl]; exact (f2 b hb).1, (f2 b hb).2⟩, by rw [eh3, Heap.size_push]; exact Nat.lt_succ_of_lt lt⟩
  have st3 : tn 0 s3.heap := T.keep _ _ _ st2 fun b _ o e => by rw [eh3]; exact Heap.get?_push_of_some _ e
  have nL : Nx X.K (wo H2 S1) (su S1 L (.ml [])) (upd H2 L (.lst [])) := n1.cell hLn fun G' s => ⟨[], upd_same, Reps.nil⟩
  have iL := ik _ _ _ _ i0 nL
  have goL := t1 L hLS
  rw [← es3]
  have I4 := block_start I3 ok hN f3
  have pg := hg s3 (upd H2 L (.lst [])) s3.heap.objs.size (cellsFrom (s3.heap.objs.size + 1) scope.names (cloFrom X.env.cells scope.names [])) fp
  have pe := he s3 (upd H2 L (.lst [])) s3.heap.objs.size (cellsFrom (s3.heap.objs.size + 1) scope.names (cloFrom X.env.cells scope.names [])) fp
  show codeAny _ _ (.compStart (.ListComp elt [⟨tg, iter, [], 0⟩] scope pos) 0 (.ref it) (.ref L) (compEnvC scope (cellsFrom (s3.heap.objs.size + 1) scope.names (cloFrom X.env.cells scope.names [])) s3.heap.objs.size X.env)) (compEnds (model X.prog X.w) X.A X.xe (some (assign (.Name y py) X.env)) (fun _ s' => SP X pins En .next s') (.ref L) (compEnvC scope (cellsFrom (s3.heap.objs.size + 1) scope.names (cloFrom X.env.cells scope.names [])) s3.heap.objs.size X.env)) _
  have hceL : (compEnvC scope (cellsFrom (s3.heap.objs.size + 1) scope.names (cloFrom X.env.cells scope.names [])) s3.heap.objs.size X.env).locals = s3.heap.objs.size := rfl
  have hceF : (compEnvC scope (cellsFrom (s3.heap.objs.size + 1) scope.names (cloFrom X.env.cells scope.names [])) s3.heap.objs.size X.env).frame = X.env.frame := rfl
  generalize compEnvC scope (cellsFrom (s3.heap.objs.size + 1) scope.names (cloFrom X.env.cells scope.names [])) s3.heap.objs.size X.env = ce at I4 pg pe hceL hceF ⊢
  generalize upd H2 L (.lst []) = H3 at I3 f3 I4 pg pe nL iL ⊢
  obtain ⟨xb, exb⟩ : ∃ z : Value → Shared → Prop, z = notedBy (model X.prog X.w) X.A ce (CompFails (model X.prog X.w) X.A X.xe ce) := ⟨_, rfl⟩
  have I5 : Inv (blkX X s3 H3 scope ce fp xb) [] (wipe σ (own.map (·.2))) H3 { s3 with heap := pushCells (s3.heap.push { cls := .type "dict", data := .dict #[] }) scope.names } := I4.toTry xb
  have st4 : tn 0 ({ s3 with heap := pushCells (s3.heap.push { cls := .type "dict", data := .dict #[] }) scope.names } : Shared).heap := T.keep _ _ _ st3 fun b _ o e => pushCells_keeps _ _ _ _ (Heap.get?_push_of_some _ e)
  have nfp : ∀ b ∈ fp, H3 b = none := fun b hb => (f3 b hb).1.1
  have still_ : ∀ {σ' : St} {H' : Hp} {s' : Shared}, Inv (blkX X s3 H3 scope ce fp xb) [] σ' H' s' → (∀ b ∈ fp, H' b = none) → ∀ b ∈ fp, FpOk (blkX X s3 H3 scope ce fp xb) [] H' b := fun {σ' H' s'} J hn b hb =>
    ⟨hn b hb, (J.ok.exf b hb).1, J.ok.exfs b hb, .inl hb, fun x c e => (J.ok.exf b hb).2 x c e, fun p hp => by cases hp⟩
  clear I4
  generalize ({ s3 with heap := pushCells (s3.heap.push { cls := .type "dict", data := .dict #[] }) scope.names } : Shared) = s4 at I5 st4 ⊢
  have loop : codeAny (model X.prog X.w) X.A (.compLoop (.ListComp elt [⟨tg, iter, [], 0⟩] scope pos) 0 (.ref it) (.ref L) ce) (compEnds (model X.prog X.w) X.A X.xe (some (assign (.Name y py) X.env)) (fun _ s' => SP X pins En .next s') (.ref L) ce) s4 := by
    refine compLoop_any (fun n s' => ∃ k H' S', Inv (blkX X s3 H3 scope ce fp xb) [] (wipe σ (own.map (·.2))) H' s' ∧ tn k s'.heap ∧ (∀ b ∈ fp, H' b = none) ∧ n = xs.length - k ∧ k ≤ xs.length ∧ Nx X.K (wo H2 S1) S' H' ∧ Iv S' H' ∧ lcGo still g' dYes (te fun C _ S' => W C ρ S') (wipeD ρ (own.map (·.2))) L (lcFin m L fun d S' => dgN i d ρ S' dD.nx) (xs.drop k) S') ?_ xs.length
      ⟨0, H3, _, I5, st4, nfp, rfl, Nat.zero_le _, nL, iL, goL⟩
    rintro n s5 ⟨k, H5, S5, J5, st5, n5, rfl, hk, nx5, iv5, go5⟩
    have sl5 := lcGo_still go5
    have ex2 : (notedBy (model X.prog X.w) X.A ce fun e s' => compEnds (model X.prog X.w) X.A X.xe (some (assign (.Name y py) X.env)) (fun _ s' => SP X pins En .next s') (.ref L) ce (.error e) s') = xb := exb.symm
    rw [ex2]
    by_cases hlt : k < xs.length
    · rw [List.drop_eq_getElem_cons hlt] at go5
      obtain ⟨jg, jy⟩ := ig S5 H5 k hlt iv5 nx5.refl sl5
      refine thn (T.item (blkX X s3 H3 scope ce fp xb) rfl rfl rfl hc k [] s5 _ H5 xb J5 (still_ J5 n5) st5 jg) fun r s6 ⟨u, er, h6⟩ => ?_
      subst er
      refine thn h6 fun _ s7 ⟨x, H7, J7, r7, y7, st7, n7⟩ => ?_
      obtain ⟨e7, rx⟩ := jy x H7 y7
      subst e7
      have J7' := J7.pinned (still_ J7 n7) (T.obj _ _ st7)
      have pass : ∀ σq, PassesAt (L2N.CX X.prog X.w) (blkX X s3 H3 scope ce fp xb) σq (WE (upW X.K (wo H7 S5) fun C _ S' => W C ρ S') σq) := fun σq pq Hq sq e s' Jq c => by
        rw [exb]
        refine falls hst hfr tk I3 (Nat.le_of_eq hceL.symm) hceF (fun b hb => (f3 b hb).1) Jq (fun cls d H' w => ?_) c
        obtain ⟨ρq, Sq, C', e1, e2, sq', w⟩ := w
        exact ⟨ρ, Sq, C', e1, e2, ⟨st.env.mono ((n1.st.trans nx5.st).trans sq'.nx.st), ((st.nx.trans n1).trans nx5).trans sq'.nx⟩, w⟩
      have env : REnv X.K (wo H7 S5) (wipeD ρ (own.map (·.2))) (wipe σ (own.map (·.2))) := wipe_env (st.env.mono (n1.st.trans nx5.st)) _
      have tgo := hw x (wipe σ (own.map (·.2))) H7 (fun σ2 H' => ∃ ρ3, Stt X.K (wo H7 S5) ρ3 S5 σ2 H' ∧ te (fun C _ S' => W C ρ S') ρ3 S5 fun z S4 => lcAdd (S4 L) z fun acc => lcGo still g' dYes (te fun C _ S' => W C ρ S') (wipeD ρ (own.map (·.2))) L (lcFin m L fun d S' => dgN i d ρ S' dD.nx) (xs.drop (k + 1)) (su S4 L (.ml acc)))
        (hl (wo H7 S5) _ _ _ _ _ _ _ _ ⟨env, nx5.refl⟩ rx go5.2 fun ρ3 σ3 q s3 => ⟨ρ3, s3, by simpa only [dYes, ↓reduceIte] using q⟩)
      rw [wipe_wipe] at tgo
      refine thn ((pg xb).run _ s7 _ H7 x u _ J7' r7 tgo) fun _ s8 ⟨σ8, H8, J8, hw8, ρ3, q3, q8⟩ => ?_
      refine wpAny_tests_nil ?_
      simp only [↓reduceIte]
      refine thn ((pe xb (wo H7 S5) (fun C _ S' => W C ρ S') pass).run _ s8 σ8 H8 (fun v H10 => ∃ S10 d, (lcAdd (S10 L) d fun acc => lcGo still g' dYes (te fun C _ S' => W C ρ S') (wipeD ρ (own.map (·.2))) L (lcFin m L fun d S' => dgN i d ρ S' dD.nx) (xs.drop (k + 1)) (su S10 L (.ml acc))) ∧ Nx X.K (wo H8 S5) S10 H10 ∧ Rep X.K (wo H10 S10) d v) J8
        ⟨ρ3, S5, _, q3, q8, fun d S' v H' a b c => ⟨S', d, a, b, c⟩⟩) fun w s9 ⟨v, H10, J10, r10, S10, d, a10, b10, c10⟩ => ?_
      cases e10 : S10 L with
      | none => rw [e10] at a10; exact a10.elim
      | some cl =>
        rw [e10] at a10
        cases cl with
        | ml acc =>
          obtain ⟨us, q10, r11⟩ := b10.ok L _ e10
          have n11 : Nx X.K (wo H10 S10) (su S10 L (.ml (acc ++ [d]))) (upd H10 L (.lst (us ++ [v]))) := b10.write e10 ⟨_, upd_same, r11.app (Reps.cons c10 Reps.nil)⟩
          refine app_ok (X := blkX X s3 H3 scope ce fp xb) J10 q10 (by rw [← r11.len]; exact a10.1) r10 fun s11 J11 => ?_
          have pn : ∀ b ∈ fp, ∀ o, s7.heap.get? b = some o → s11.heap.get? b = some o ∧ upd H10 L (.lst (us ++ [v])) b = none := fun b hb o e =>
            let z := J11.pin (b, o) (List.mem_append_right _ (List.mem_append_right _ (mem_pinsAt hb e)))
            ⟨z.1, z.2.1⟩
          have nx8 : Nx X.K (wo H2 S1) S10 H10 := nx5.trans (q3.nx.trans b10)
          refine ⟨xs.length - (k + 1), by omega, k + 1, _, _, (J11.unpinned (pins := [])).weak (by rw [wipe_length, ← wipe_length σ8 (own.map (·.2)), hw8, wipe_length]) (fun j v e => ?_), T.keep _ _ _ st7 fun b hb o e => (pn b hb o e).1, fun b hb => ?_, rfl, hlt, nx8.trans n11, ik _ _ _ _ (ik _ _ _ _ iv5 (q3.nx.trans b10)) n11, a10.2⟩
          · rw [← hw8] at e
            exact (wipe_some e).1
          · obtain ⟨o, e, _⟩ := T.obj _ _ st7 b hb
            exact (pn b hb o e).2
        | dI _ => exact a10.elim
        | dS _ => exact a10.elim
        | ins _ _ => exact a10.elim
    · have ek : k = xs.length := by omega
      subst ek
      rw [List.drop_length] at go5
      refine thn (T.done (blkX X s3 H3 scope ce fp xb) rfl rfl rfl hc _ [] s5 _ H5 xb J5 (still_ J5 n5) st5 (ie S5 H5 iv5 nx5.refl sl5)) fun r s6 ⟨er, J6⟩ => ?_
      subst er
      have J7 : Inv X pins σ H5 s6 := I3.call' (ch := fp) J6.os J6.base J6.hok J6.bare fun b hb => let q := (f3 b hb).1; ⟨q.2.2.2.1, q.2.1, q.2.2.2.2.1, q.2.2.2.2.2⟩
      obtain ⟨mC, nC, _⟩ := J6.loc
      have nC : s6.heap.Ns ce.locals mC := nC
      obtain ⟨g0, g1, g2, g3, g4, g5⟩ := I3.fpOk (b := ce.locals) (H' := H5) (Nat.le_of_eq hceL.symm) J6.free
      have fin : ∃ d S', dD.nx (ρ.set i (some d)) S' ∧ Nx X.K (wo H5 S5) S' H5 ∧ Rep X.K (wo H5 S') d (.ref L) := by
        have f := go5.2
        unfold lcFin at f
        cases e : S5 L with
        | none => rw [e] at f; exact f.elim
        | some c =>
          rw [e] at f
          cases c with
          | ml ys =>
            cases m with
            | true => exact ⟨_, _, f, nx5.refl, by simp only [Rep]⟩
            | false =>
              obtain ⟨n4, r4⟩ := nx5.refl.frz e
              exact ⟨_, _, f, n4, r4⟩
          | dI _ => exact f.elim
          | dS _ => exact f.elim
          | ins _ _ => exact f.elim
      obtain ⟨d, S6, q6, n6, r6⟩ := fin
      show wpAny _ _ (assign (.Name y py) X.env (.ref L)) _ _ _
      refine wpAny_assign_Name (store_ok2 (v := V.ref L) J7 hN hy (.inl hyl) rfl (fun s7 J8 ⟨a, sb, ha⟩ => ?_) (.inr hyl))
      have na : ce.locals ≠ a := fun z => by
        rcases ha with h | h
        · exact g1 (z.trans h)
        · exact g4 y a h z.symm
      refine ⟨mC, nC.sameBut sb na, fun h3 sb3 => ⟨_, H5, J8.turned (t' := s7.toks) (fun b o hb e => (sb3.2 b hb).trans e) g0 g1 g3 g4 g5, oo.nx _ _ _ _ q6 ⟨(st.env.mono ((n1.st.trans nx5.st).trans n6.st)).set r6, ((st.nx.trans n1).trans nx5).trans n6⟩⟩⟩
  exact codeAny_compStart_list loop (T.self X.A 0 _ _ _ st4 loop)
end DL
namespace DL
open PySem L2
theorem flyN {B h : Heap} {l : List Env} {a : Addr} {cls : Value} {d : Option Addr} (x : HandSPX.FlyingZ B l a (L2N.Zn cls d) h) : HandSPX.FlyingZ B l a (Zc cls d) h := L2H.flyingZ_imp (fun _ z => z.zc) x
theorem cxN {P : Program} {w : World} {l : List Env} {H : Hp} {s s' : Shared} {E : XK} {u : Value} (c : L2N.CX P w l H s E u s') : L2.CX P w l H s E u s' := by
  obtain ⟨a, B, H', cls, d, e, fl, r⟩ := c
  exact ⟨a, B, H', cls, d, e, flyN fl, r⟩
theorem weakN {P : Program} {w : World} {K : PySem.W.Frag} {mg : Str → Option Value} {base : Heap} {k : Nat} {f : Addr} {fd : FuncData} {ps : List Str} {sp : Sp} (F : FnOk P w K mg base (L2N.CX P w) k f fd ps sp) : FnOk P w K mg base (L2.CX P w) k f fd ps sp :=
  ⟨F.len, fun A outer s H args us vs Q E hr e0 hb r h => codeAny_mono (F.run A outer s H args us vs Q E hr e0 hb r h) fun r s' q => by
    cases r with
    | error e => exact cxN q
    | ok fl => cases fl <;> exact q⟩
theorem TakesN.le {X : Cx} {W : WD} {G G' : Hp} (tk : L2N.Takes X (upW X.K G W)) (h : Same G G') : L2N.Takes X (upW X.K G' W) := tk.imp fun c d σ H ⟨ρ, S, C, e1, e2, s, w⟩ => ⟨ρ, S, C, e1, e2, s.le h, w⟩
section
variable {CX : CXT} {X : Cx} {G0 : Hp} {k : Nat} {f C : Addr} {fd : FuncData} {ps : List Str} {x m : Str} {p pos apos : Pos} {e o : Expr} {es : List Expr} {sp : DSp} {W : WD} {ta : TDA} {to : TDE}
theorem de_callG (F : FnOk X.prog X.w X.K X.mg X.base CX k f fd ps (upSp X.K sp)) (hr : Room k X.A) (hm : X.mg x = some (.ref f)) (hk : PySem.W.keepIn X.K (.ref f) = true) (hb : Binds X.K fd ps []) (pa : ∀ σ, PassesAt CX X σ (WE (upW X.K G0 W) σ)) (ha : DA X G0 (e :: es) ta)
    (hg : Gl X x := by rfl) (hdb : (x == ("__debug__" : Str)) = false := by decide) (he : starEach (e :: es) X.env = (false, eval e X.env) :: starEach es X.env := by rfl) (hpl : (backTo pos (starEach es X.env)).any (·.1) = false := by rfl) :
    DE X G0 (.Call (.Name x p) (e :: es) [] pos) (dCall sp W ta) :=
  PE.imp (pe_callS (E := WE (upW X.K G0 W)) F hr hg hm hk hb pa ha hdb he hpl) fun σ H Q ⟨ρ, S, P, st, t, oo⟩ => ⟨ρ, S, _, st, t, fun ds S1 vs H1 t1 n1 r1 =>
    ⟨ds, S1, P, _, n1.refl, r1, t1, fun d S' v H' a b c => oo _ _ _ _ a (n1.trans b) c, fun C' S' H' w n2 => ⟨ρ, S', C', rfl, rfl, (st.next n1).next n2, w⟩⟩⟩
theorem pe_methG {sp : Sp} {E : St → XK} {pl : Sem Bool} {ta : TE} {t : TA} (he : PE X o ta) (c : Cls X.K C) (hm : Meth X.K C m f) (F : FnOk X.prog X.w X.K X.mg X.base CX k f fd ps sp) (hr : Room k X.A) (hb : Binds X.K fd ps []) (hx : ∀ σ, PassesAt CX X σ (E σ)) (ha : PA X (e :: es) t)
    (hst : starEach (e :: es) X.env = (false, eval e X.env) :: starEach es X.env := by rfl) (hpl : (backTo pos (starEach es X.env)).any (·.1) = false := by rfl)
    (ht : eval (.Call (.Attribute o m apos) (e :: es) [] pos) X.env = (do
      let ov ← eval o X.env
      standAt apos.atName
      let (f, first) ← holding [ov] (getMethod ov m pl)
      callWith pos f first (backTo pos (starEach (e :: es) X.env)) (backToKw pos (keywordEach [] X.env))) := by rfl) :
    PE X (.Call (.Attribute o m apos) (e :: es) [] pos) (fun σ H Q => ta σ H fun x H1 => ∃ a dx fs, x = .ref a ∧ H1 a = some (.ins C dx fs) ∧ fs.lookup m = none ∧ t σ H1 fun vs H2 => sp (x :: vs) H2 Q (E σ)) := by
  refine ⟨fun pins s σ H Q I h => ?_⟩
  refine PySem.W.methodCall_KW (pl := pl) (thn (he.run pins s σ H _ I h) fun u s1 ⟨x, H1, I1, rx, a, dx, fs, ex, ea, l, q⟩ => ?_) ht
  subst ex
  obtain rfl : u = Value.ref a := rx
  refine getmeth_ok I1 ea c hm l ?_
  refine PySem.W.callWith_K (first := [.ref a]) (h₀ := X.base) I1.ok.mod.kin hm.kp (thn (ha.run pos pins s1 σ H1 _ I1 q) fun us s2 ⟨vs, H2, I2, r, q2⟩ => ⟨I2.kIn, ?_⟩) hst hpl
  exact run_fnS (us := .ref a :: us) (vs := .ref a :: vs) F hr hb (hx σ) I2 (.cons rfl r) q2
theorem de_methG {pl : Sem Bool} (F : FnOk X.prog X.w X.K X.mg X.base CX k f fd ps (upSp X.K sp)) (hr : Room k X.A) (c : Cls X.K C) (hm : Meth X.K C m f) (hb : Binds X.K fd ps []) (pa : ∀ σ, PassesAt CX X σ (WE (upW X.K G0 W) σ)) (ho : DE X G0 o to) (ha : DA X G0 (e :: es) ta)
    (hst : starEach (e :: es) X.env = (false, eval e X.env) :: starEach es X.env := by rfl) (hpl : (backTo pos (starEach es X.env)).any (·.1) = false := by rfl)
    (ht : eval (.Call (.Attribute o m apos) (e :: es) [] pos) X.env = (do
      let ov ← eval o X.env
      standAt apos.atName
      let (f, first) ← holding [ov] (getMethod ov m pl)
      callWith pos f first (backTo pos (starEach (e :: es) X.env)) (backToKw pos (keywordEach [] X.env))) := by rfl) :
    DE X G0 (.Call (.Attribute o m apos) (e :: es) [] pos) (dMeth C m sp W to ta) :=
  PE.imp (pe_methG (E := WE (upW X.K G0 W)) (pl := pl) ho c hm F hr hb pa ha hst hpl ht) fun σ H Q ⟨ρ, S, P, st, t, oo⟩ => ⟨ρ, S, _, st, t, fun d S1 v H1 t1 n1 r1 => by
    obtain ⟨a, fs, rfl, h, hl, t1⟩ := onIns_ok t1
    simp only [Rep] at r1
    obtain ⟨dx, vs, q, r⟩ := n1.ok a _ h
    refine ⟨a, dx, _, r1, q, lookup_none r hl, ρ, S1, _, st.next n1, t1, fun ds S2 us H2 t2 n2 r2 => ?_⟩
    exact ⟨_, S2, P, _, n2.refl, Reps.cons (by simp only [Rep]; exact r1) r2, t2, fun d S' v H' a b c => oo _ _ _ _ a (n1.trans (n2.trans b)) c, fun C' S' H' w n3 => ⟨ρ, S', C', rfl, rfl, ((st.next n1).next n2).next n3, w⟩⟩⟩
theorem run_makeG {sp : Sp} {E : St → XK} {pins : List (Addr × Obj)} {σ : St} {H : Hp} {s : Shared} {Q : VK} {us : List Value} {vs : List V} (M : Mk X.K C f) (F : FnOk X.prog X.w X.K X.mg X.base CX k f fd ps sp) (hr : Room (k + 1) X.A) (hb : Binds X.K fd ps [])
    (hx : PassesAt CX X σ (E σ)) (I : Inv X pins σ H s) (r : Vals vs us)
    (h : ∀ x dx, H x = none → H dx = none → dx ≠ x → sp (.ref x :: vs) (upd (upd H dx (.own x)) x (.ins C dx [])) (fun v H2 => v = .non ∧ Q (.ref x) H2) (E σ)) :
    wpAny (model X.prog X.w) X.A (call (.ref C) us) (EP X pins σ Q) X.xe s := by
  have hq := h (s.heap.objs.size + 1) s.heap.objs.size (I.hok.fresh (Nat.le_succ _)) (I.hok.fresh (Nat.le_refl _)) (Nat.ne_of_lt (Nat.lt_succ_self _))
  have I2 := Inv.made (C := C) I
  have r2 : Vals (V.ref (s.heap.objs.size + 1) :: vs) (Value.ref (s.heap.objs.size + 1) :: us) := .cons rfl r
  have hl : (Value.ref (s.heap.objs.size + 1) :: us ++ []).length = ps.length := by
    have e := r2.length
    rw [F.len _ _ _ _ hq] at e
    rw [List.append_nil]
    exact e.symm
  have b := hb _ (Value.ref (s.heap.objs.size + 1) :: us) I2.kIn hl
  rw [List.append_nil] at b
  refine wpAny_call (make_map (f := f) I.kIn M.makes M.init (beq_iff_eq.mp M.fn) (codeAny_mono (F.run _ X.stack _ _ ⟨Value.ref (s.heap.objs.size + 1) :: us, []⟩ (Value.ref (s.heap.objs.size + 1) :: us) _ _ (E σ) (hr.make C us [])
    (I2.env0.make C us []) b r2 hq) fun r s' hq' => ?_))
  cases r with
  | error e => exact hx pins _ _ e s' I2 hq'
  | ok fl =>
    cases fl with
    | ret u =>
      obtain ⟨v, H', I3, rv, ev, q3⟩ := I2.after hq'
      subst ev
      exact ⟨rv, ⟨V.ref (s.heap.objs.size + 1), H', I3, rfl, q3⟩⟩
    | next => exact False.elim hq'
    | brk => exact False.elim hq'
    | cont => exact False.elim hq'
theorem de_makeG (M : Mk X.K C f) (F : FnOk X.prog X.w X.K X.mg X.base CX k f fd ps (upSp X.K sp)) (hr : Room (k + 1) X.A) (hm : X.mg x = some (.ref C)) (hb : Binds X.K fd ps []) (pa : ∀ σ, PassesAt CX X σ (WE (upW X.K G0 W) σ))
    (ha : DA X G0 (e :: es) ta) (hg : Gl X x := by rfl) (hdb : (x == ("__debug__" : Str)) = false := by decide) (he : starEach (e :: es) X.env = (false, eval e X.env) :: starEach es X.env := by rfl) (hpl : (backTo pos (starEach es X.env)).any (·.1) = false := by rfl) :
    DE X G0 (.Call (.Name x p) (e :: es) [] pos) (dMake C sp W ta) := by
  refine ⟨fun pins s σ H Q I h => ?_⟩
  obtain ⟨ρ, S, P, st, t, oo⟩ := h
  refine wpAny_Call_Name_kw (ld_glob I hg hm ?_ hdb)
  refine PySem.W.callWith_K (h₀ := X.base) I.ok.mod.kin M.kp (thn (ha.run pos pins s σ H (fun vs H1 => ∃ ds S1, Nx X.K (wo H S) S1 H1 ∧ Reps X.K (wo H1 S1) ds vs ∧ ∀ x, S1 x = none → sp (.ref x :: ds) (su S1 x (.ins C [])) (fun d S2 => d = .non ∧ P (.ref x) S2) fun C S' => W C ρ S') I
    ⟨ρ, S, _, st, t, fun ds S1 vs H1 t1 n1 r1 => ⟨ds, S1, n1, r1, t1⟩⟩) fun us s1 ⟨vs, H1, I1, r, ds, S1, n1, r1, t1⟩ => ⟨I1.kIn, ?_⟩) he hpl
  refine run_makeG (E := WE (upW X.K G0 W)) M F hr hb (pa σ) I1 r fun x dx hx hdx hne => ?_
  have nA : Nx X.K (wo H1 S1) S1 (upd H1 dx (.own x)) := n1.alloc hdx
  have hx2 : upd H1 dx (.own x) x = none := by rw [upd_ne (Ne.symm hne)]; exact hx
  have nB : Nx X.K (wo (upd H1 dx (.own x)) S1) (su S1 x (.ins C [])) (upd (upd H1 dx (.own x)) x (.ins C dx [])) := nA.cell hx2 fun G' s => ⟨dx, [], upd_same, Reps.nil⟩
  have n2 := nA.trans nB
  refine ⟨_, _, _, _, n2.refl, Reps.cons (by simp only [Rep]) (r1.mono n2.st), t1 x (n1.free hx), fun d S' v H' a b c => ?_, fun C' S' H' w n3 => ⟨ρ, S', C', rfl, rfl, ((st.next n1).next n2).next n3, w⟩⟩
  obtain ⟨rfl, a⟩ := a
  simp only [Rep] at c
  exact ⟨c, oo _ _ _ _ a (n1.trans (n2.trans b)) (by simp only [Rep])⟩
end
section
variable {X : Cx} {G0 : Hp} {pos : Pos} {te : TDE} {W : WD}
theorem ds_raiseN {e : Expr} {C : Addr} (hc : X.calm = true) (tk : L2N.Takes X (upW X.K G0 W)) (he : L2N.PMk X e (fun _ H Q => Q (.ref C) none H)) : DS X G0 (.Raise (some e) none pos) (dRaise C W) :=
  PS.imp (L2N.ps_raise hc tk he) fun E σ H ⟨ρ, S, dD, s, t, o⟩ => ⟨ρ, S, C, rfl, rfl, s, t⟩
theorem ExcT.mkN {x m : Str} {C : Addr} {j : Nat} {p p2 pos : Pos} (T : ExcT X.K X.mg x C) (hg : Gl X x) (hdb : (x == ("__debug__" : Str)) = false := by decide) : L2N.PMk X (.Call (.Name x p) [.Constant (.str m) j p2] [] pos) (fun _ H Q => Q (.ref C) none H) :=
  L2N.pmk_own PySem.F.excBase_ValueError T.xi T.g T.k (raises_own T.b T.t) hg hdb
theorem ds_forG {TK : Hp → Prop} {iter tg : Expr} {body : List Stmt} {g : TG} {g' : TDG} {tb : TDS} (hp : PassesOwn (model X.prog X.w) X.A X.env X.xe) (hc : X.calm = true) (tk : TK G0) (tl : ∀ {G G' : Hp}, TK G → Same G G' → TK G') (hi : DE X G0 iter te) (hg : PG X tg g) (hl : LiftG X.K g g')
    (hb : ∀ G1, TK G1 → DSs X G1 body tb) (hs : ∀ x, foldedSetIterable iter X.env x = pure x := by intro _; rfl) : DS X G0 (.For tg iter body [] pos) (dFor te g' tb) := by
  have key : PS X (.For tg iter body [] pos) (tFor (iList X.K (upE X.K G0 te)) g (fun D σ H => ∃ G1, TK G1 ∧ upS X.K G1 tb D σ H)) :=
    ps_for hp hc (pi_list hi) hg (tb := fun D σ H => ∃ G1, TK G1 ∧ upS X.K G1 tb D σ H) ⟨fun pins s σ H D I ⟨G1, tk1, h⟩ => (hb G1 tk1).run pins s σ H D I h⟩ hs
  refine PS.imp key fun E σ H ⟨ρ, S, dD, s, t, o⟩ => ⟨ρ, S, _, s, t, fun d S1 v H1 t1 n1 r1 => ?_⟩
  cases e : vl S1 d with
  | none => rw [e] at t1; exact t1.elim
  | some xs =>
    rw [e] at t1
    simp only [dForK] at t1
    obtain ⟨a, vs, ev, q, r⟩ := vl_rep n1 r1 e
    refine ⟨a, ev, ⟨vs, q⟩, fun i m σ H => m = xs.length - i ∧ i ≤ xs.length ∧ ∃ ρ' S', Stt X.K G0 ρ' S' σ H ∧ Rep X.K (wo H S') d v ∧ dGo (fun S' => vl S' d = some xs) g' tb dD (xs.drop i) ρ' S', ⟨_, rfl, Nat.zero_le _, ρ, S1, s.next n1, r1, t1⟩, ?_⟩
    rintro i m σ2 H2 ⟨rfl, hi', ρ2, S2, s2, rd, go⟩
    have st := dGo_still go
    obtain ⟨a', vs', ev', q', r'⟩ := vl_rep s2.nx.refl rd st
    have ea : a' = a := by rw [ev] at ev'; exact (V.ref.inj ev').symm
    subst ea
    by_cases hlt : i < xs.length
    · rw [List.drop_eq_getElem_cons hlt] at go
      refine .inr ⟨⟨vs', vs'[i]'(by rw [← r'.len]; exact hlt), q', by simp⟩, fun σ3 H3 => i + 1 ≤ xs.length ∧ ∃ ρ' S', Stt X.K G0 ρ' S' σ3 H3 ∧ Rep X.K (wo H3 S') d v ∧ dGo (fun S' => vl S' d = some xs) g' tb dD (xs.drop (i + 1)) ρ' S',
        fun σ3 H3 z => ⟨xs.length - (i + 1), by omega, rfl, z.1, z.2⟩, fun x H3 y => ?_⟩
      obtain ⟨e3, y⟩ := y
      cases e3
      have hx := y vs' q'
      obtain ⟨w, hw, rw'⟩ := r'.get (i := i) (d := xs[i]) (by simp [hlt])
      have ew : x = w := by rw [hx] at hw; exact Option.some.inj hw
      subst ew
      refine hl (wo H2 S2) _ _ _ _ _ _ _ _ ⟨s2.env, s2.nx.refl⟩ rw' go.2 fun ρ3 σ3 p s3 => ?_
      exact ⟨wo H2 S2, tl tk s2.nx.st, ρ3, S2, _, s3, p, o.loop s2.nx.st fun ρ4 S4 σ4 H4 z s4 => ⟨hlt, ρ4, S4, s4.le s2.nx.st, rd.mono s4.nx.st, z⟩⟩
    · have e' : i = xs.length := by omega
      subst e'
      rw [List.drop_length] at go
      exact .inl ⟨⟨vs', q', by rw [← r'.len]; exact Nat.le_refl _⟩, o.nx _ _ _ _ go.2 s2⟩
theorem ds_forSG {TK : Hp → Prop} {iter tg : Expr} {body : List Stmt} {g : TG} {g' : TDG} {tb : TDS} (hp : PassesOwn (model X.prog X.w) X.A X.env X.xe) (hc : X.calm = true) (tk : TK G0) (tl : ∀ {G G' : Hp}, TK G → Same G G' → TK G') (hi : DE X G0 iter te) (hg : PG X tg g) (hl : LiftG X.K g g')
    (hb : ∀ G1, TK G1 → DSs X G1 body tb) (hs : ∀ x, foldedSetIterable iter X.env x = pure x := by intro _; rfl) : DS X G0 (.For tg iter body [] pos) (dForS te g' tb) := by
  have key : PS X (.For tg iter body [] pos) (tFor (iStr (upE X.K G0 te)) g (fun D σ H => ∃ G1, TK G1 ∧ upS X.K G1 tb D σ H)) :=
    ps_for hp hc (pi_str hi) hg (tb := fun D σ H => ∃ G1, TK G1 ∧ upS X.K G1 tb D σ H) ⟨fun pins s σ H D I ⟨G1, tk1, h⟩ => (hb G1 tk1).run pins s σ H D I h⟩ hs
  refine PS.imp key fun E σ H ⟨ρ, S, dD, s, t, o⟩ => ⟨ρ, S, _, s, t, fun d S1 v H1 t1 n1 r1 => ?_⟩
  cases d with
  | str z =>
    simp only [Rep] at r1
    subst r1
    have lz : (chD z).length = z.cps.size := by unfold chD; rw [List.length_map, Array.length_toList]
    refine ⟨z, rfl, fun i m σ H => m = (chD z).length - i ∧ i ≤ (chD z).length ∧ ∃ ρ' S', Stt X.K G0 ρ' S' σ H ∧ dGo (fun _ => True) g' tb dD ((chD z).drop i) ρ' S', ⟨_, rfl, Nat.zero_le _, ρ, S1, s.next n1, t1⟩, ?_⟩
    rintro i m σ2 H2 ⟨rfl, hi', ρ2, S2, s2, go⟩
    by_cases hlt : i < (chD z).length
    · rw [List.drop_eq_getElem_cons hlt] at go
      refine .inr ⟨by show i < z.cps.size; omega, fun σ3 H3 => i + 1 ≤ (chD z).length ∧ ∃ ρ' S', Stt X.K G0 ρ' S' σ3 H3 ∧ dGo (fun _ => True) g' tb dD ((chD z).drop (i + 1)) ρ' S', fun σ3 H3 y => ⟨(chD z).length - (i + 1), by omega, rfl, y.1, y.2⟩, fun x H3 y => ?_⟩
      obtain ⟨e3, c, ec, e4⟩ := y
      cases e3
      have hx : (chD z)[i] = .str ⟨#[c]⟩ := by
        have h1 : (chD z)[i]? = some (.str ⟨#[c]⟩) := by unfold chD; rw [List.getElem?_map, Array.getElem?_toList, ec]; rfl
        rw [List.getElem?_eq_getElem hlt] at h1
        exact Option.some.inj h1
      rw [hx] at go
      refine hl (wo H2 S2) _ _ _ _ _ _ _ _ ⟨s2.env, s2.nx.refl⟩ (show Rep X.K _ (.str ⟨#[c]⟩) x by simp only [Rep]; exact e4) go.2 fun ρ3 σ3 p s3 => ?_
      exact ⟨wo H2 S2, tl tk s2.nx.st, ρ3, S2, _, s3, p, o.loop s2.nx.st fun ρ4 S4 σ4 H4 y s4 => ⟨hlt, ρ4, S4, s4.le s2.nx.st, y⟩⟩
    · have e' : i = (chD z).length := by omega
      subst e'
      rw [List.drop_length] at go
      exact .inl ⟨by show z.cps.size ≤ _; omega, o.nx _ _ _ _ go.2 s2⟩
  | _ => exact t1.elim
theorem ds_forN {iter tg : Expr} {body : List Stmt} {g : TG} {g' : TDG} {tb : TDS} (hp : PassesOwn (model X.prog X.w) X.A X.env X.xe) (hc : X.calm = true) (tk : L2N.Takes X (upW X.K G0 W)) (hi : DE X G0 iter te) (hg : PG X tg g) (hl : LiftG X.K g g')
    (hb : ∀ G1, L2N.Takes X (upW X.K G1 W) → DSs X G1 body tb) (hs : ∀ x, foldedSetIterable iter X.env x = pure x := by intro _; rfl) : DS X G0 (.For tg iter body [] pos) (dFor te g' tb) := ds_forG (TK := fun G => L2N.Takes X (upW X.K G W)) hp hc tk TakesN.le hi hg hl hb hs
theorem ds_forSN {iter tg : Expr} {body : List Stmt} {g : TG} {g' : TDG} {tb : TDS} (hp : PassesOwn (model X.prog X.w) X.A X.env X.xe) (hc : X.calm = true) (tk : L2N.Takes X (upW X.K G0 W)) (hi : DE X G0 iter te) (hg : PG X tg g) (hl : LiftG X.K g g')
    (hb : ∀ G1, L2N.Takes X (upW X.K G1 W) → DSs X G1 body tb) (hs : ∀ x, foldedSetIterable iter X.env x = pure x := by intro _; rfl) : DS X G0 (.For tg iter body [] pos) (dForS te g' tb) := ds_forSG (TK := fun G => L2N.Takes X (upW X.K G W)) hp hc tk TakesN.le hi hg hl hb hs
end
section
variable {X : Cx} {G0 : Hp} {k : Nat} {f C : Addr} {fd : FuncData} {ps : List Str} {x m : Str} {p pos apos : Pos} {e o : Expr} {es : List Expr} {sp : DSp} {W : WD} {ta : TDA} {to : TDE}
theorem de_callN (F : FnOk X.prog X.w X.K X.mg X.base (L2N.CX X.prog X.w) k f fd ps (upSp X.K sp)) (hr : Room k X.A) (hm : X.mg x = some (.ref f)) (hk : PySem.W.keepIn X.K (.ref f) = true) (hb : Binds X.K fd ps []) (tk : L2N.Takes X (upW X.K G0 W)) (ha : DA X G0 (e :: es) ta)
    (hg : Gl X x := by rfl) (hdb : (x == ("__debug__" : Str)) = false := by decide) (he : starEach (e :: es) X.env = (false, eval e X.env) :: starEach es X.env := by rfl) (hpl : (backTo pos (starEach es X.env)).any (·.1) = false := by rfl) :
    DE X G0 (.Call (.Name x p) (e :: es) [] pos) (dCall sp W ta) := de_callG F hr hm hk hb (L2N.passAt tk) ha hg hdb he hpl
theorem de_methN {pl : Sem Bool} (F : FnOk X.prog X.w X.K X.mg X.base (L2N.CX X.prog X.w) k f fd ps (upSp X.K sp)) (hr : Room k X.A) (c : Cls X.K C) (hm : Meth X.K C m f) (hb : Binds X.K fd ps []) (tk : L2N.Takes X (upW X.K G0 W)) (ho : DE X G0 o to) (ha : DA X G0 (e :: es) ta)
    (hst : starEach (e :: es) X.env = (false, eval e X.env) :: starEach es X.env := by rfl) (hpl : (backTo pos (starEach es X.env)).any (·.1) = false := by rfl)
    (ht : eval (.Call (.Attribute o m apos) (e :: es) [] pos) X.env = (do
      let ov ← eval o X.env
      standAt apos.atName
      let (f, first) ← holding [ov] (getMethod ov m pl)
      callWith pos f first (backTo pos (starEach (e :: es) X.env)) (backToKw pos (keywordEach [] X.env))) := by rfl) :
    DE X G0 (.Call (.Attribute o m apos) (e :: es) [] pos) (dMeth C m sp W to ta) := de_methG F hr c hm hb (L2N.passAt tk) ho ha hst hpl ht
theorem de_makeN (M : Mk X.K C f) (F : FnOk X.prog X.w X.K X.mg X.base (L2N.CX X.prog X.w) k f fd ps (upSp X.K sp)) (hr : Room (k + 1) X.A) (hm : X.mg x = some (.ref C)) (hb : Binds X.K fd ps []) (tk : L2N.Takes X (upW X.K G0 W))
    (ha : DA X G0 (e :: es) ta) (hg : Gl X x := by rfl) (hdb : (x == ("__debug__" : Str)) = false := by decide) (he : starEach (e :: es) X.env = (false, eval e X.env) :: starEach es X.env := by rfl) (hpl : (backTo pos (starEach es X.env)).any (·.1) = false := by rfl) :
    DE X G0 (.Call (.Name x p) (e :: es) [] pos) (dMake C sp W ta) := de_makeG M F hr hm hb (L2N.passAt tk) ha hg hdb he hpl
end
def dTryR (K : PySem.W.Frag) (c : Value) (C : Addr) (tb : WD → TDS) (W : WD) : TDS := fun E ρ S => tb (fun C' ρ' S' => ∃ b, PySem.W.exmOne K (.ref C') c = some b ∧ (b = true → W C ρ' S') ∧ (b = false → W C' ρ' S')) E ρ S
section
variable {X : Cx} {G0 : Hp} {x y m : Str} {c : Value} {C : Addr} {body : List Stmt} {np p p2 pos pos' pos2 pos3 : Pos} {j : Nat} {tb : WD → TDS} {W : WD}
theorem ds_try_raise (hs : X.stack = X.env :: X.outer) (hf : X.env.frame = some X.env.locals) (hc : Names X x c) (hpa : ∀ hd : Option Value, PassesOwnAt (model X.prog X.w) (X.A.mark hd) X.A X.env X.xe) (tk : Takes X (upW X.K G0 W))
    (hb : ∀ (W1 : WD) (pn : List (Addr × Obj)) (xe : Value → Shared → Prop), L2N.Takes (X.tr pn xe) (upW X.K G0 W1) → PassesOwn (model X.prog X.w) X.A X.env xe → DSs (X.tr pn xe) G0 body (tb W1))
    (T : ExcT X.K X.mg y C) (hg : Gl X y := by rfl) (hdb : (y == ("__debug__" : Str)) = false := by decide) :
    DS X G0 (.Try body [.ExceptHandler (some (.Name x np)) none [.Raise (some (.Call (.Name y p) [.Constant (.str m) j p2] [] pos2)) none pos3] pos'] [] [] pos) (dTryR X.K c C tb W) :=
  PS.imp (L2H.ps_try_onlyX (tb := fun Wx D σ H => ∃ W1 : WD, (∀ cls d σ H, upW X.K G0 W1 cls d σ H → Wx cls d σ H) ∧ upS X.K G0 (tb W1) D σ H) (ts := fun a cls d D σ H => upW X.K G0 W (.ref C) none σ H) hs hf hc hpa tk
    (fun Wx pn xe tkN tk2 po => ⟨fun pins s σ H D I ⟨W1, h1, h2⟩ => (hb W1 pn xe (tkN.imp h1) po).run pins s σ H D I h2⟩)
    (fun a oe cls d pn hz hf tkS hot => pss_one (L2H.ps_raiseH hot tkS (ExcT.mkN (X := L2H.suiteX X a ((a, oe) :: pn)) T hg hdb))))
    fun E σ H ⟨ρ, S, dD, s, t, o⟩ => ⟨fun C' ρ' S' => ∃ b, PySem.W.exmOne X.K (.ref C') c = some b ∧ (b = true → W C ρ' S') ∧ (b = false → W C' ρ' S'), fun cls d σ1 H1 ⟨ρ1, S1, C1, e1, e2, s1, b, hb1, hy, hn⟩ => ⟨b, by rw [e1]; exact hb1, fun h a ha => ⟨ρ1, S1, C, rfl, rfl, s1, hy h⟩, fun h => ⟨ρ1, S1, C1, e1, e2, s1, hn h⟩⟩, ρ, S, dD, s, t, o⟩
end
section
variable {P : Program} {w : World} {K : PySem.W.Frag} {mg : Str → Option Value} {base : Heap}
theorem okG {CX : CXT} {x qual : Str} {st : Stmt} {f : Addr} {fd : FuncData} {N ps : List Str} {k : Nat} {sp : Sp} (F : Fun K x qual st f fd) (S : FnScope N ps (defScope st)) (len : ∀ vs H Q E, sp vs H Q E → vs.length = ps.length)
    (hbody : ∀ (cdv : Value) (A : Around) (outer : List Env) (s : Shared) (H : Hp) (vs : List V) (Q : VK) (E : XK), Room k (A.deeper (PyProof.Rows.envOfC qual (defScope st) s.heap.objs.size f cdv)) → sp vs H Q E →
      ∃ t, PSs (cxOf CX P w K mg base N qual (defScope st) f cdv A outer s H E) (defBody st) t ∧ t { nx := fun _ H' => Q .non H', rt := Q } (L2.start N vs) H) : FnOk P w K mg base CX (k + 1) f fd ps sp := by
  obtain ⟨oc, od, kV, doc, pm, an, cdv, ct, osl, rfl, lk, hcd⟩ := F.ex
  exact fn_of lk hcd S len fun A outer s H vs Q E hr hsp => hbody cdv A outer s H vs Q E hr hsp
theorem def_okN {x qual : Str} {st : Stmt} {f : Addr} {fd : FuncData} {N ps : List Str} {k : Nat} {sp : DSp} {t : WD → TDS} (F : Fun K x qual st f fd) (S : FnScope N ps (defScope st)) (len : ∀ ds S Q E, sp ds S Q E → ds.length = ps.length)
    (body : ∀ (cdv : Value) (A : Around) (outer : List Env) (s : Shared) (H : Hp) (E : XK) (G0 : Hp) (W : WD), Room k (A.deeper (PyProof.Rows.envOfC qual (defScope st) s.heap.objs.size f cdv)) →
      L2N.Takes (cxOf (L2N.CX P w) P w K mg base N qual (defScope st) f cdv A outer s H E) (upW K G0 W) → PassesOwn (model P w) (A.deeper (PyProof.Rows.envOfC qual (defScope st) s.heap.objs.size f cdv)) (cxOf (L2N.CX P w) P w K mg base N qual (defScope st) f cdv A outer s H E).env (cxOf (L2N.CX P w) P w K mg base N qual (defScope st) f cdv A outer s H E).xe →
      DSs (cxOf (L2N.CX P w) P w K mg base N qual (defScope st) f cdv A outer s H E) G0 (defBody st) (t W))
    (read : ∀ ds S Q E, sp ds S Q E → t (wishOf E) (endsOf Q) (dstart N ds) S) : FnOk P w K mg base (L2N.CX P w) (k + 1) f fd ps (upSp K sp) := by
  refine okG F S (fun vs H Q E ⟨ds, S, P, dE, _, r, h, _⟩ => by rw [← r.len]; exact len _ _ _ _ h) fun cdv A outer s H vs Q E hr ⟨ds, S0, P0, dE, n, r, h, oo, ox⟩ => ?_
  have tk : L2N.Takes (cxOf (L2N.CX P w) P w K mg base N qual (defScope st) f cdv A outer s H E) (upW K (wo H S0) (wishOf dE)) :=
    (L2N.takes_of (X := cxOf (L2N.CX P w) P w K mg base N qual (defScope st) f cdv A outer s H E) (E := E) rfl rfl rfl rfl).imp fun c d σ H' ⟨ρ, S', C, e1, e2, s', S'', le, w'⟩ => by
      subst e1 e2
      exact ox _ _ _ w' (s'.nx.trans (s'.nx.refl.less le))
  refine ⟨_, body cdv A outer s H E (wo H S0) (wishOf dE) hr tk (passes_of rfl), dstart N ds, S0, endsOf P0, ⟨start_env r, n⟩, read ds S0 P0 dE h, ⟨fun ρ S' σ H' ⟨S'', le, p⟩ s' => ?_, fun d S' v H' ⟨S'', le, p⟩ n' r' => ?_, fun _ _ _ _ z _ => z.elim, fun _ _ _ _ z _ => z.elim⟩⟩
  · exact oo _ _ _ _ p (s'.nx.trans (s'.nx.refl.less le)) (by simp only [Rep])
  · have n2 := n'.refl.less le
    exact oo _ _ _ _ p (n'.trans n2) (r'.mono n2.st)
theorem def_okT {x qual : Str} {st : Stmt} {f : Addr} {fd : FuncData} {N ps : List Str} {k : Nat} {sp : DSp} {t : WD → TDS} (F : Fun K x qual st f fd) (S : FnScope N ps (defScope st)) (len : ∀ ds S Q E, sp ds S Q E → ds.length = ps.length)
    (body : ∀ (cdv : Value) (A : Around) (outer : List Env) (s : Shared) (H : Hp) (E : XK) (G0 : Hp) (W : WD), Room k (A.deeper (PyProof.Rows.envOfC qual (defScope st) s.heap.objs.size f cdv)) →
      Takes (cxOf (L2.CX P w) P w K mg base N qual (defScope st) f cdv A outer s H E) (upW K G0 W) → PassesOwn (model P w) (A.deeper (PyProof.Rows.envOfC qual (defScope st) s.heap.objs.size f cdv)) (cxOf (L2.CX P w) P w K mg base N qual (defScope st) f cdv A outer s H E).env (cxOf (L2.CX P w) P w K mg base N qual (defScope st) f cdv A outer s H E).xe →
      (∀ hd : Option Value, PassesOwnAt (model P w) ((A.deeper (PyProof.Rows.envOfC qual (defScope st) s.heap.objs.size f cdv)).mark hd) (A.deeper (PyProof.Rows.envOfC qual (defScope st) s.heap.objs.size f cdv)) (cxOf (L2.CX P w) P w K mg base N qual (defScope st) f cdv A outer s H E).env (cxOf (L2.CX P w) P w K mg base N qual (defScope st) f cdv A outer s H E).xe) →
      DSs (cxOf (L2.CX P w) P w K mg base N qual (defScope st) f cdv A outer s H E) G0 (defBody st) (t W))
    (read : ∀ ds S Q E, sp ds S Q E → t (wishOf E) (endsOf Q) (dstart N ds) S) : FnOk P w K mg base (L2.CX P w) (k + 1) f fd ps (upSp K sp) :=
  def_ok F S len (fun cdv A outer s H E G0 W hr tk po => body cdv A outer s H E G0 W hr tk po (L2H.passesAt_of (X := cxOf (L2.CX P w) P w K mg base N qual (defScope st) f cdv A outer s H E) rfl)) read
end
theorem de_gstrE {X : Cx} {G0 : Hp} {pos : Pos} {x z : Str} (hg : Gl X x) (hm : ∃ t, X.mg x = some (.str z t)) (hd : (x == ("__debug__" : Str)) = false := by decide) : DE X G0 (.Name x pos) (dC (.str z)) :=
  let ⟨_, h⟩ := hm; de_gstr hg h hd
end DL
namespace DL
open PySem L2
def smulS (x : Str) (n : Nat) : Str := ⟨(List.replicate n x.cps).foldl (· ++ ·) #[]⟩
theorem op_smul {X : Cx} : OpR X (binaryOp .Mult) (fun x y H Q => ∃ (i : Str) (j : Int), x = .str i ∧ y = .int j ∧ 2 ≤ j ∧ 1 ≤ i.length ∧ (i.length : Int) * j ≤ sizeLine ∧ (smulS i j.toNat).length ≤ sizeLine ∧ Q (.str (smulS i j.toNat)) H) := by
  intro pins s σ H x y v u Q I rx ry h
  obtain ⟨i, j, rfl, rfl, h2, h1, hz, hl, q⟩ := h
  obtain ⟨t, rfl⟩ := rx
  obtain ⟨t', rfl⟩ := ry
  have hs : sizeLine = 2 ^ 24 := rfl
  rw [hs] at hz
  have hj : j ≤ 2 ^ 24 := by
    have : 1 * j ≤ (i.length : Int) * j := Int.mul_le_mul_of_nonneg_right (by omega) (by omega)
    omega
  have e0 : ¬ j < 1 := by omega
  have e1 : (j == 1 || i.length == 0) = false := by
    rw [Bool.or_eq_false_iff]
    exact ⟨beq_eq_false_iff_ne.mpr (by omega), beq_eq_false_iff_ne.mpr (by omega)⟩
  refine P.mul_str ?_ (fun _ _ h => ?_) (fun _ _ => ?_) ?_
  · rw [Bool.or_eq_false_iff]
    exact ⟨decide_eq_false (by omega), decide_eq_false (by omega)⟩
  · have : (i.length : Int) ≤ (2 ^ 63 - 1) / j := (Int.le_ediv_iff_mul_le (by omega)).mpr (by omega)
    omega
  · have : i.length * j.toNat ≤ sizeLine := by
      have e : ((i.length * j.toNat : Nat) : Int) = (i.length : Int) * j := by rw [Int.natCast_mul, Int.toNat_of_nonneg (by omega)]
      rw [hs]; omega
    show decide (_ > sizeLine) = false
    exact decide_eq_false (by omega)
  · rw [if_neg e0, if_neg (by rw [e1]; exact Bool.false_ne_true)]
    exact ⟨hl, .str _, H, I.tok _, ⟨_, rfl⟩, q⟩
def smulD : R2D := fun x y S P => match x, y with
  | .str i, .int j => 2 ≤ j ∧ 1 ≤ i.length ∧ (i.length : Int) * j ≤ sizeLine ∧ (smulS i j.toNat).length ≤ sizeLine ∧ P (.str (smulS i j.toNat)) S
  | _, _ => False
theorem lift_smul {K : PySem.W.Frag} : Lift2 K (fun x y H Q => ∃ (i : Str) (j : Int), x = .str i ∧ y = .int j ∧ 2 ≤ j ∧ 1 ≤ i.length ∧ (i.length : Int) * j ≤ sizeLine ∧ (smulS i j.toNat).length ≤ sizeLine ∧ Q (.str (smulS i j.toNat)) H) smulD := by
  intro x y u v G S H P Q n ru rv t o
  cases x with
  | str i =>
    cases y with
    | int j =>
      simp only [Rep] at ru rv
      exact ⟨i, j, ru, rv, t.1, t.2.1, t.2.2.1, t.2.2.2.1, o.now n t.2.2.2.2 (by simp only [Rep])⟩
    | _ => exact t.elim
  | _ => exact t.elim
theorem de_smul {X : Cx} {G0 : Hp} {pos : Pos} {a b : Expr} {ta tb : TDE} (ha : DE X G0 a ta) (hb : DE X G0 b tb) : DE X G0 (.BinOp a .Mult b pos) (dOp smulD ta tb) := de_op op_smul lift_smul ha hb
end DL
namespace DL
open PySem L2
structure ExK (K : PySem.W.Frag) (a : CA) : Prop where
  t0 : True
  e_GuildError : ExcC K a.GuildError
  m_GuildError_GuildError : PySem.W.exmOne K (.ref a.GuildError) (.ref a.GuildError) = some true
  i_GuildError_GuildError : PySem.W.kitOne K (.ref a.GuildError) (.ref a.GuildError) = some true
  m_GuildError_NoHouse : PySem.W.exmOne K (.ref a.GuildError) (.ref a.NoHouse) = some false
  i_GuildError_NoHouse : PySem.W.kitOne K (.ref a.GuildError) (.ref a.NoHouse) = some false
  m_GuildError_WayThere : PySem.W.exmOne K (.ref a.GuildError) (.ref a.WayThere) = some false
  i_GuildError_WayThere : PySem.W.kitOne K (.ref a.GuildError) (.ref a.WayThere) = some false
  m_GuildError_NoRoad : PySem.W.exmOne K (.ref a.GuildError) (.ref a.NoRoad) = some false
  i_GuildError_NoRoad : PySem.W.kitOne K (.ref a.GuildError) (.ref a.NoRoad) = some false
  m_GuildError_BadNote : PySem.W.exmOne K (.ref a.GuildError) (.ref a.BadNote) = some false
  i_GuildError_BadNote : PySem.W.kitOne K (.ref a.GuildError) (.ref a.BadNote) = some false
  v_GuildError : PySem.W.kitOne K (.ref a.GuildError) (.type "ValueError") = some true
  e_NoHouse : ExcC K a.NoHouse
  m_NoHouse_GuildError : PySem.W.exmOne K (.ref a.NoHouse) (.ref a.GuildError) = some true
  i_NoHouse_GuildError : PySem.W.kitOne K (.ref a.NoHouse) (.ref a.GuildError) = some true
  m_NoHouse_NoHouse : PySem.W.exmOne K (.ref a.NoHouse) (.ref a.NoHouse) = some true
  i_NoHouse_NoHouse : PySem.W.kitOne K (.ref a.NoHouse) (.ref a.NoHouse) = some true
  m_NoHouse_WayThere : PySem.W.exmOne K (.ref a.NoHouse) (.ref a.WayThere) = some false
  i_NoHouse_WayThere : PySem.W.kitOne K (.ref a.NoHouse) (.ref a.WayThere) = some false
  m_NoHouse_NoRoad : PySem.W.exmOne K (.ref a.NoHouse) (.ref a.NoRoad) = some false
  i_NoHouse_NoRoad : PySem.W.kitOne K (.ref a.NoHouse) (.ref a.NoRoad) = some false
  m_NoHouse_BadNote : PySem.W.exmOne K (.ref a.NoHouse) (.ref a.BadNote) = some false
  i_NoHouse_BadNote : PySem.W.kitOne K (.ref a.NoHouse) (.ref a.BadNote) = some false
  v_NoHouse : PySem.W.kitOne K (.ref a.NoHouse) (.type "ValueError") = some true
  e_WayThere : ExcC K a.WayThere
  m_WayThere_GuildError : PySem.W.exmOne K (.ref a.WayThere) (.ref a.GuildError) = some true
  i_WayThere_GuildError : PySem.W.kitOne K (.ref a.WayThere) (.ref a.GuildError) = some true
  m_WayThere_NoHouse : PySem.W.exmOne K (.ref a.WayThere) (.ref a.NoHouse) = some false
  i_WayThere_NoHouse : PySem.W.kitOne K (.ref a.WayThere) (.ref a.NoHouse) = some false
  m_WayThere_WayThere : PySem.W.exmOne K (.ref a.WayThere) (.ref a.WayThere) = some true
  i_WayThere_WayThere : PySem.W.kitOne K (.ref a.WayThere) (.ref a.WayThere) = some true
  m_WayThere_NoRoad : PySem.W.exmOne K (.ref a.WayThere) (.ref a.NoRoad) = some false
  i_WayThere_NoRoad : PySem.W.kitOne K (.ref a.WayThere) (.ref a.NoRoad) = some false
  m_WayThere_BadNote : PySem.W.exmOne K (.ref a.WayThere) (.ref a.BadNote) = some false
  i_WayThere_BadNote : PySem.W.kitOne K (.ref a.WayThere) (.ref a.BadNote) = some false
  v_WayThere : PySem.W.kitOne K (.ref a.WayThere) (.type "ValueError") = some true
  e_NoRoad : ExcC K a.NoRoad
  m_NoRoad_GuildError : PySem.W.exmOne K (.ref a.NoRoad) (.ref a.GuildError) = some true
  i_NoRoad_GuildError : PySem.W.kitOne K (.ref a.NoRoad) (.ref a.GuildError) = some true
  m_NoRoad_NoHouse : PySem.W.exmOne K (.ref a.NoRoad) (.ref a.NoHouse) = some false
  i_NoRoad_NoHouse : PySem.W.kitOne K (.ref a.NoRoad) (.ref a.NoHouse) = some false
  m_NoRoad_WayThere : PySem.W.exmOne K (.ref a.NoRoad) (.ref a.WayThere) = some false
  i_NoRoad_WayThere : PySem.W.kitOne K (.ref a.NoRoad) (.ref a.WayThere) = some false
  m_NoRoad_NoRoad : PySem.W.exmOne K (.ref a.NoRoad) (.ref a.NoRoad) = some true
  i_NoRoad_NoRoad : PySem.W.kitOne K (.ref a.NoRoad) (.ref a.NoRoad) = some true
  m_NoRoad_BadNote : PySem.W.exmOne K (.ref a.NoRoad) (.ref a.BadNote) = some false
  i_NoRoad_BadNote : PySem.W.kitOne K (.ref a.NoRoad) (.ref a.BadNote) = some false
  v_NoRoad : PySem.W.kitOne K (.ref a.NoRoad) (.type "ValueError") = some true
  e_BadNote : ExcC K a.BadNote
  m_BadNote_GuildError : PySem.W.exmOne K (.ref a.BadNote) (.ref a.GuildError) = some true
  i_BadNote_GuildError : PySem.W.kitOne K (.ref a.BadNote) (.ref a.GuildError) = some true
  m_BadNote_NoHouse : PySem.W.exmOne K (.ref a.BadNote) (.ref a.NoHouse) = some false
  i_BadNote_NoHouse : PySem.W.kitOne K (.ref a.BadNote) (.ref a.NoHouse) = some false
  m_BadNote_WayThere : PySem.W.exmOne K (.ref a.BadNote) (.ref a.WayThere) = some false
  i_BadNote_WayThere : PySem.W.kitOne K (.ref a.BadNote) (.ref a.WayThere) = some false
  m_BadNote_NoRoad : PySem.W.exmOne K (.ref a.BadNote) (.ref a.NoRoad) = some false
  i_BadNote_NoRoad : PySem.W.kitOne K (.ref a.BadNote) (.ref a.NoRoad) = some false
  m_BadNote_BadNote : PySem.W.exmOne K (.ref a.BadNote) (.ref a.BadNote) = some true
  i_BadNote_BadNote : PySem.W.kitOne K (.ref a.BadNote) (.ref a.BadNote) = some true
  v_BadNote : PySem.W.kitOne K (.ref a.BadNote) (.type "ValueError") = some true
end DL
namespace DL
open PySem L2
theorem vm_cases {S : Sto} {x : D} {xs : List D} (h : vm S x = some xs) : x = .lst xs ∨ ∃ p, x = .ref p ∧ S p = some (.ml xs) := by
  cases x with
  | lst ys => simp only [vm, Option.some.injEq] at h; exact .inl (by rw [h])
  | ref p =>
    simp only [vm] at h
    split at h
    · rename_i e; cases h; exact .inr ⟨p, rfl, e⟩
    · cases h
  | _ => simp [vm] at h
theorem vm_vl {S : Sto} {x : D} {xs : List D} (h : vm S x = some xs) : vl S x = some xs := by
  rcases vm_cases h with rfl | ⟨p, rfl, e⟩
  · rfl
  · exact h
theorem vm_rs {S : Sto} {x : D} {xs : List D} (h : vm S x = some xs) : rs S x = .lst xs := by unfold rs; rw [h]
theorem vm_ty {S : Sto} {x : D} {xs : List D} (h : vm S x = some xs) : tyS S x = some "list" := by
  rcases vm_cases h with rfl | ⟨p, rfl, e⟩
  · rfl
  · simp only [tyS, e]
theorem vm_len {S : Sto} {x : D} {xs : List D} (h : vm S x = some xs) : lenS S x = some xs.length := by
  rcases vm_cases h with rfl | ⟨p, rfl, e⟩
  · rfl
  · simp only [lenS, e]
def RdAt (S : Sto) (x : D) : Option (List Int) → Prop
  | none => x = .non
  | some l => vm S x = some (l.map .int)
theorem RdAt.rs {S : Sto} {x : D} {r : Option (List Int)} (h : RdAt S x r) : rs S x = eO eR r := by
  cases r with
  | none => rw [show x = .non from h]; rfl
  | some l => exact vm_rs h
theorem RdAt.ok {S : Sto} {x : D} {r : Option (List Int)} (h : RdAt S x r) : okD (DL.rs S x) = true := by rw [h.rs]; exact encOR.ok (by decide) r
theorem rdAt_eO (S : Sto) (r : Option (List Int)) : RdAt S (eO eR r) r := by
  cases r with
  | none => rfl
  | some l => rfl
theorem rdAt_lst (S : Sto) (r : List Int) : RdAt S (.lst (r.map .int)) (some r) := rfl
theorem rdAt_ref {S : Sto} {p : Addr} {r : List Int} (h : S p = some (.ml (r.map .int))) : RdAt S (.ref p) (some r) := by simp only [RdAt, vm, h]
theorem rdAt_cases {S : Sto} {x : D} {r : Option (List Int)} (h : RdAt S x r) : (x = .non ∧ r = none) ∨ (∃ l : List Int, x = .lst (l.map .int) ∧ r = some l) ∨ ∃ (p : Addr) (l : List Int), x = .ref p ∧ S p = some (.ml (l.map .int)) ∧ r = some l := by
  cases r with
  | none => exact .inl ⟨h, rfl⟩
  | some l =>
    rcases vm_cases h with rfl | ⟨p, rfl, e⟩
    · exact .inr (.inl ⟨l, rfl, rfl⟩)
    · exact .inr (.inr ⟨p, l, rfl, e, rfl⟩)
theorem ne_beq {n m : Nat} : (true ^^ dEq (.int n) (.int m)) = !decide (n = m) := by
  rw [dEq_int, Bool.true_xor]; congr 1; simp only [decide_eq_decide]; omega
theorem dEq_eO (x y : Option (List Int)) : dEq (eO eR x) (eO eR y) = decide (x = y) := encOR.eq x y
theorem okD_eO (x : Option (List Int)) : okD (eO eR x) = true := encOR.ok (by decide) x
theorem map_eraseIdx {α β : Type} (f : α → β) : ∀ (l : List α) (i : Nat), (l.map f).eraseIdx i = (l.eraseIdx i).map f
  | [], _ => rfl
  | _ :: _, 0 => rfl
  | x :: l, i + 1 => by simp only [List.map_cons, List.eraseIdx_cons_succ, map_eraseIdx f l i]
theorem append_at {S : Sto} {p : Addr} {xs : List D} {y : D} {P : D → Sto → Prop} (h : S p = some (.ml xs)) (hl : xs.length < sizeLine) (k : P .non (su S p (.ml (xs ++ [y])))) : appendD (.ref p) [y] S P := by
  simp only [appendD, onCell, cellL, h]; exact ⟨hl, k⟩
theorem popAt_at {α : Type} {f : α → D} {S : Sto} {p : Addr} {l : List α} {i : Int} {P : D → Sto → Prop} (h : S p = some (.ml (l.map f))) (h0 : 0 ≤ i) (h1 : i < l.length) (hb : l.length < sizeLine) (k : P (f (l[i.toNat]'(by omega))) (su S p (.ml ((l.eraseIdx i.toNat).map f)))) : popAtD (.ref p) [.int i] S P := by
  simp only [popAtD, onCell, cellL, h]
  have hs : sizeLine = 2 ^ 24 := rfl
  refine ⟨by omega, by omega, ?_⟩
  rw [List.length_map, seqIx_pos h0 h1]
  simp only [List.getElem?_map]
  rw [List.getElem?_eq_getElem (by omega)]
  simp only [Option.map_some]
  rw [map_eraseIdx]
  exact k
theorem nodup_le : ∀ (n : Nat) (l : List Int), l.Nodup → (∀ g ∈ l, 0 ≤ g ∧ g < n) → l.length ≤ n
  | 0, l, _, h => by
    cases l with
    | nil => exact Nat.le_refl _
    | cons x l => have := h x List.mem_cons_self; omega
  | n + 1, l, hd, h => by
    by_cases c : (n : Int) ∈ l
    · have h1 := nodup_le n (l.erase (n : Int)) (hd.erase _) fun g hg => by
        have h2 := (hd.mem_erase_iff).mp hg
        have h3 := h g h2.2
        have h4 := h2.1
        omega
      have h2 := List.length_erase_of_mem c
      have h3 : 0 < l.length := List.length_pos_of_mem c
      omega
    · have h1 := nodup_le n l hd fun g hg => by
        have h3 := h g hg
        have h4 : g ≠ n := fun z => c (z ▸ hg)
        omega
      omega
theorem any_int (l : List Int) (i : Int) : ((l.map D.int).any fun z => dEq z (.int i)) = decide (i ∈ l) := Enc.int.o.any i l
theorem nodup_one {α : Type} (x : α) : [x].Nodup := List.nodup_cons.mpr ⟨List.not_mem_nil, List.nodup_nil⟩
theorem dEq_str (x y : Str) : dEq (.str x) (.str y) = decide (x = y) := by simp only [dEq, toP, PyData.eqv]; exact Bool.beq_eq_decide_eq x y
theorem okD_str {x : Str} (h : PyData.strOk x = true) : okD (.str x) = true := by simp [okD, pureD, SeqAt.shaped, toP, PyData.canLay0, PyData.depth, h]
theorem getLast_snoc {α : Type} (l : List α) (x : α) : atI (l ++ [x]) (-1) = some x := by
  rw [atI_last (by simp)]; simp
theorem atI_tab {α : Type} (f : α → D) (xs : List α) {k : Int} (h0 : 0 ≤ k) (h1 : k < xs.length) : atI (xs.map f) k = some (f (xs[k.toNat]'(by omega))) := by
  rw [atI_map, atI_pos h0 h1]; rfl
theorem nodup_inj {α : Type} {l : List α} (hd : l.Nodup) {i j : Nat} (hi : i < l.length) (hj : j < l.length) (e : l[i] = l[j]) : i = j := by
  have h := List.pairwise_iff_getElem.mp hd
  rcases Nat.lt_trichotomy i j with h1 | h1 | h1
  · exact absurd e (h i j hi hj h1)
  · exact h1
  · exact absurd e.symm (h j i hj hi h1)
theorem dEq_tab (x y : List (Option (List Int))) : dEq (.lst (x.map (eO eR))) (.lst (y.map (eO eR))) = decide (x = y) := encTab.eq x y
theorem okD_tab (x : List (Option (List Int))) : okD (.lst (x.map (eO eR))) = true := encTab.o.ok (by decide) x
theorem free_of {S : Sto} {p q : Addr} {c : Cl} (h : su S p c q = none) : q ≠ p ∧ S q = none := by
  have n : q ≠ p := fun z => by rw [z, su_same] at h; cases h
  rw [su_ne n] at h
  exact ⟨n, h⟩
theorem su_at2 {S : Sto} {g p q : Addr} {a b d c : Cl} (h1 : g ≠ p) (h2 : g ≠ q) : su (su (su (su S g a) p b) q d) g c = su (su (su S g c) p b) q d := by
  rw [su_comm (S := su (su S g a) p b) (Ne.symm h2), su_two h1]
theorem su_at3 {S : Sto} {g p q r : Addr} {a b d e c : Cl} (h1 : g ≠ p) (h2 : g ≠ q) (h3 : g ≠ r) : su (su (su (su (su S g a) p b) q d) r e) g c = su (su (su (su S g c) p b) q d) r e := by
  rw [su_comm (S := su (su (su S g a) p b) q d) (Ne.symm h3), su_at2 h1 h2]
theorem su_at4 {S : Sto} {g p q r t : Addr} {a b d e f c : Cl} (h1 : g ≠ p) (h2 : g ≠ q) (h3 : g ≠ r) (h4 : g ≠ t) : su (su (su (su (su (su S g a) p b) q d) r e) t f) g c = su (su (su (su (su S g c) p b) q d) r e) t f := by
  rw [su_comm (S := su (su (su (su S g a) p b) q d) r e) (Ne.symm h4), su_at3 h1 h2 h3]
theorem sorted_snoc {m : Bool} {l : List Int} {b : Int} {S : Sto} {P : D → Sto → Prop} : sortedD m [.lst (l.map .int ++ [.int b])] S P = newL m ((sortI (l ++ [b])).map .int) S P := by
  have e : l.map D.int ++ [.int b] = (l ++ [b]).map .int := by rw [List.map_append]; rfl
  rw [e]
  simp only [sortedD, vm, Option.bind_some, kInts_map]
theorem setD_at {S : Sto} {p : Addr} {xs : List D} {k : Int} {d : D} {P : Sto → Prop} (h : S p = some (.ml xs)) (h0 : 0 ≤ k) (h1 : k < xs.length) (q : P (su S p (.ml (xs.set k.toNat d)))) : setD (.ref p) (.int k) d S P := by
  simp only [setD, h, ixN_pos h0 h1]
  exact q
theorem setD_key {S : Sto} {p : Addr} {kvs : List (List Int × D)} {k : List Int} {d : D} {P : Sto → Prop} (h : S p = some (.dI kvs)) (hl : kvs.length < sizeLine) (q : P (su S p (.dI (dput kvs k d)))) : setD (.ref p) (.tup (k.map .int)) d S P := by
  simp only [setD, h, kI, kInts_map]
  exact ⟨hl, q⟩
theorem vm_le {S S' : Sto} {x : D} {xs : List D} (h : vm S x = some xs) (l : SLe S S') : vm S' x = some xs := by
  rcases vm_cases h with rfl | ⟨p, rfl, e⟩
  · rfl
  · simp only [vm, l _ _ e]
theorem inR_vm {neg : Bool} {x y : D} {S : Sto} {P : D → Sto → Prop} {ys : List D} (h : vm S y = some ys) : inR neg x y S P = (okD (rs S x) = true ∧ okD (.lst ys) = true ∧ P (.bl (neg ^^ ys.any fun z => dEq z (rs S x))) S) := by
  rcases vm_cases h with rfl | ⟨p, rfl, e⟩ <;> simp only [inR, inL, h]
theorem ixD_vm {x y : D} {S : Sto} {P : D → Sto → Prop} {xs : List D} (h : vm S x = some xs) : ixD x y S P = ixL xs y S P := by
  have h2 := vm_vl h
  rcases vm_cases h with rfl | ⟨p, rfl, e⟩ <;> simp only [ixD, ixLK, h2]
theorem lenD_vm {x : D} {S : Sto} {P : D → Sto → Prop} {xs : List D} (h : vm S x = some xs) : lenD [x] S P = P (.int xs.length) S := by
  have h2 := vm_len h
  rcases vm_cases h with rfl | ⟨p, rfl, e⟩ <;> simp only [lenD, h2]
theorem listD_vm {m : Bool} {x : D} {S : Sto} {P : D → Sto → Prop} {xs : List D} (h : vm S x = some xs) : listD m [x] S P = newL m xs S P := by
  have h2 := vm_vl h
  rcases vm_cases h with rfl | ⟨p, rfl, e⟩ <;> simp only [listD, h2]
abbrev WL := List (Int × Int)
theorem encWL : Enc (eL eII) 2 := encII.lst
theorem okD_WL (w : WL) : okD (.lst (w.map eII)) = true := encWL.o.ok (by decide) w
theorem okD_II (i j : Int) : okD (.tup [.int i, .int j]) = true := encII.o.ok (by decide) (i, j)
theorem any_II (w : WL) (i j : Int) : ((w.map eII).any fun z => dEq z (.tup [.int i, .int j])) = decide ((i, j) ∈ w) := (encII.o.any (i, j) w).trans (decide_eq_decide.mpr Iff.rfl)
def relW (w : WL) : Int → Int → Bool := fun x y => decide ((min x y, max x y) ∈ w)
theorem isE_at {K : PySem.W.Frag} {C x D' : Addr} {b : Bool} {S : Sto} {P : D → Sto → Prop} (h : ExcC K C) (hk : PySem.W.kitOne K (.ref C) (.ref D') = some b) (q : P (.bl b) S) : isED K C x [.ref x, .ref D'] S P := ⟨h, rfl, by simp only [isEK, hk]; exact q⟩
theorem isE_ty {K : PySem.W.Frag} {C x : Addr} {b : Bool} {n : String} {S : Sto} {P : D → Sto → Prop} (h : ExcC K C) (hk : PySem.W.kitOne K (.ref C) (.type n) = some b) (q : P (.bl b) S) : isED K C x [.ref x, .ty n] S P := ⟨h, rfl, by simp only [isEK, hk]; exact q⟩
theorem cut1 (xs : List D) : cutD xs (some 1) none = xs.drop 1 := by
  unfold cutD
  have e1 : HT.sIx xs.length 0 (some 1) = min 1 xs.length := HT.sIx_nat xs.length 0 1
  rw [e1, HT.sIx_none]
  cases xs with
  | nil => rfl
  | cons x xs =>
    rw [show min 1 (x :: xs).length = 1 by simp]
    exact List.take_of_length_le (by simp)
theorem dEq_II (p q : Int × Int) : dEq (eII p) (eII q) = decide (p = q) := encII.eq p q
theorem find_erase (q : Int × Int) : ∀ l : WL, q ∈ l → ∃ k, (l.map eII).findIdx? (fun z => dEq z (eII q)) = some k ∧ (l.map eII).eraseIdx k = (l.erase q).map eII
  | [], h => by cases h
  | p :: l, h => by
    rw [List.map_cons, List.findIdx?_cons, dEq_II]
    by_cases c : p = q
    · subst c
      exact ⟨0, by simp, by simp⟩
    · obtain ⟨k, e1, e2⟩ := find_erase q l (by rcases List.mem_cons.mp h with h | h; exact absurd h.symm c; exact h)
      refine ⟨k + 1, by rw [e1]; simp [c], ?_⟩
      rw [List.eraseIdx_cons_succ, e2, List.erase_cons_tail (by simpa using c)]
      rfl
theorem remove_at {S : Sto} {p : Addr} {w : WL} {i j : Int} {P : D → Sto → Prop} (h : S p = some (.ml (w.map eII))) (m : (i, j) ∈ w) (q : P .non (su S p (.ml ((w.erase (i, j)).map eII)))) : removeD (.ref p) [.tup [.int i, .int j]] S P := by
  obtain ⟨k, e1, e2⟩ := find_erase (i, j) w m
  simp only [removeD, onCell, cellL, h]
  refine ⟨okD_II i j, okD_WL w, ?_⟩
  rw [show D.tup [D.int i, .int j] = eII (i, j) from rfl, e1]
  show P .non (su S p (.ml ((w.map eII).eraseIdx k)))
  rw [e2]
  exact q
theorem dEq_BL (x y : List Bool) : dEq (.lst (x.map .bl)) (.lst (y.map .bl)) = decide (x = y) := Enc.bl.lst.eq x y
theorem okD_BL (x : List Bool) : okD (.lst (x.map .bl)) = true := Enc.bl.lst.o.ok (by decide) x
theorem dEq_nil : dEq (.lst []) (.lst []) = true := rfl
theorem okD_nil : okD (.lst []) = true := rfl
theorem dFor_at {i : Nat} {x : D} {xs : List D} {g : TDG} {tb : TDS} {E : DEnds} {ρ : Env'} {S : Sto} (h : ρ[i]? = some (some x)) (hv : vl S x = some xs) (k : dGo (fun S' => vl S' x = some xs) g tb E xs ρ S) : dFor (dVar i) g tb E ρ S := by
  unfold dFor dVar
  rw [h]
  simp only [hv, dForK]
  exact k
theorem dFor_keys {i : Nat} {p : Addr} {kvs : List (List Int × D)} {g : TDG} {tb : TDS} {E : DEnds} {ρ : Env'} {S : Sto} (h : ρ[i]? = some (some (.ref p))) (hv : S p = some (.dI kvs)) (k : dGo (fun _ => True) g tb E ((kvs.map (·.1)).map fun k => .tup (k.map .int)) ρ S) : dFor (dCB (listD false) (dCons (dVar i) dNil)) g tb E ρ S := by
  unfold dFor dCB dCons dVar dNil
  rw [h]
  have e : vl S (.ref p) = none := by simp only [vl, vm, hv]
  simp only [listD, e, keysS, hv, newL, vl, vm, dForK]
  exact k

end DL
namespace DL
open PySem L2
structure GS where
  n : Nat
  T : Int → Int → Bool
  H : Int → Int → Bool
  F : Int → Int → Int
  L : List (List Int × Int)
structure GA where
  (g t h f l : Addr)
def GA.all (A : GA) : List Addr := [A.g, A.t, A.h, A.f, A.l]
def intsN (n : Nat) : List Int := (List.range n).map fun i : Nat => (i : Int)
def nb (n : Nat) (R : Int → Int → Bool) (x : Int) : List Int := (intsN n).filter fun y => R x y
def nbs (n : Nat) (R : Int → Int → Bool) : List (List Int) := (intsN n).map (nb n R)
def eKV (p : List Int × Int) : List Int × D := (p.1, .int p.2)
def gf (A : GA) (n : Nat) : List (Str × D) := [("houses", .int n), ("ties", .ref A.t), ("shy", .ref A.h), ("fond", .ref A.f), ("longings", .ref A.l)]
structure GAt (a : CA) (S : Sto) (A : GA) (s : GS) (m : Nat) : Prop where
  g : S A.g = some (.ins a.Guild (gf A s.n))
  t : S A.t = some (.ml ((nbs s.n s.T).map eR))
  h : S A.h = some (.ml ((nbs s.n s.H).map eR))
  f : ∃ fl, S A.f = some (.dI fl) ∧ (∀ x y, (dget fl [x, y]).getD (.int 0) = .int (s.F x y)) ∧ fl.length ≤ m
  l : S A.l = some (.dI (s.L.map eKV))
  ll : s.L.length ≤ m
  nt : A.t ≠ A.h
  nf : A.f ≠ A.l
  n1 : 1 ≤ s.n
  n2 : s.n ≤ 60
theorem GAt.frame {a : CA} {S S' : Sto} {A : GA} {s : GS} {m : Nat} (x : GAt a S A s m) (e : ∀ b ∈ A.all, S' b = S b) : GAt a S' A s m := by
  obtain ⟨g, t, h, f, l, ll, nt, nf, n1, n2⟩ := x
  have m1 : A.g ∈ A.all := by simp [GA.all]
  have m2 : A.t ∈ A.all := by simp [GA.all]
  have m3 : A.h ∈ A.all := by simp [GA.all]
  have m4 : A.f ∈ A.all := by simp [GA.all]
  have m5 : A.l ∈ A.all := by simp [GA.all]
  exact ⟨by rw [e _ m1]; exact g, by rw [e _ m2]; exact t, by rw [e _ m3]; exact h, by rw [e _ m4]; exact f, by rw [e _ m5]; exact l, ll, nt, nf, n1, n2⟩
theorem GAt.more {a : CA} {S : Sto} {A : GA} {s : GS} {m m' : Nat} (x : GAt a S A s m) (h : m ≤ m') : GAt a S A s m' := by
  obtain ⟨fl, e1, e2, e3⟩ := x.f
  exact ⟨x.g, x.t, x.h, ⟨fl, e1, e2, Nat.le_trans e3 h⟩, x.l, Nat.le_trans x.ll h, x.nt, x.nf, x.n1, x.n2⟩
theorem GAt.su {a : CA} {S : Sto} {A : GA} {s : GS} {m : Nat} {p : Addr} {c : Cl} (x : GAt a S A s m) (h : S p = none) : GAt a (DL.su S p c) A s m := by
  refine x.frame fun b hb => su_ne fun z => ?_
  subst z
  have : ∀ {o : Option Cl} {c : Cl}, o = none → o = some c → False := fun e1 e2 => by rw [e1] at e2; cases e2
  obtain ⟨fl, f1, _⟩ := x.f
  simp only [GA.all, List.mem_cons, List.not_mem_nil, or_false] at hb
  rcases hb with rfl | rfl | rfl | rfl | rfl
  · exact this h x.g
  · exact this h x.t
  · exact this h x.h
  · exact this h f1
  · exact this h x.l
def GS.new (n : Nat) : GS := ⟨n, fun _ _ => false, fun _ _ => false, fun _ _ => 0, []⟩
def GS.ok (s : GS) (x : Int) : Prop := 0 ≤ x ∧ x < s.n
instance (s : GS) (x : Int) : Decidable (s.ok x) := inferInstanceAs (Decidable (_ ∧ _))
def GS.ok2 (s : GS) (x y : Int) : Prop := s.ok x ∧ s.ok y ∧ x ≠ y
instance (s : GS) (x y : Int) : Decidable (s.ok2 x y) := inferInstanceAs (Decidable (_ ∧ _ ∧ _))
def relPut (R : Int → Int → Bool) (a b : Int) : Int → Int → Bool := fun x y => R x y || (decide (x = a) && decide (y = b))
def GS.lay (s : GS) (a b : Int) : GS := { s with T := fun x y => s.T x y || (decide (x = a) && decide (y = b)) || (decide (x = b) && decide (y = a)) }
def GS.lift (s : GS) (a b : Int) : GS := { s with T := fun x y => s.T x y && !(decide (x = a) && decide (y = b)) && !(decide (x = b) && decide (y = a)) }
def GS.like (s : GS) (a b r : Int) : GS := { s with F := fun x y => if x = a ∧ y = b then r else s.F x y }
def GS.shun (s : GS) (a b : Int) : GS := { s with H := relPut s.H a b }
def kget {κ β : Type} [DecidableEq κ] (l : List (κ × β)) (k : κ) : Option β := (l.find? fun p => decide (p.1 = k)).map (·.2)
def kput {κ β : Type} [DecidableEq κ] (l : List (κ × β)) (k : κ) (v : β) : List (κ × β) := if l.any (fun p => decide (p.1 = k)) then l.map (fun p => if p.1 = k then (p.1, v) else p) else l ++ [(k, v)]
def GS.wish (s : GS) (r : List Int) (k : Int) : GS := { s with L := kput s.L r k }
theorem dget_kv (l : List (List Int × Int)) (k : List Int) : dget (l.map eKV) k = (kget l k).map .int := by
  unfold dget kget
  rw [List.find?_map]
  show Option.map (·.2) (Option.map eKV (List.find? (fun p => decide (p.1 = k)) l)) = _
  cases List.find? (fun p => decide (p.1 = k)) l <;> rfl
theorem dput_kv (l : List (List Int × Int)) (k : List Int) (v : Int) : dput (l.map eKV) k (.int v) = (kput l k v).map eKV := by
  unfold dput kput
  have e : (l.map eKV).any (fun p => decide (p.1 = k)) = l.any (fun p => decide (p.1 = k)) := by rw [List.any_map]; rfl
  rw [e]
  split
  · rw [List.map_map, List.map_map]
    refine List.map_congr_left fun p _ => ?_
    by_cases c : p.1 = k <;> simp [Function.comp, eKV, c]
  · rw [List.map_append]; rfl
theorem kput_len {κ β : Type} [DecidableEq κ] (l : List (κ × β)) (k : κ) (v : β) : (kput l k v).length ≤ l.length + 1 := by
  unfold kput; split <;> simp
theorem kget_put {κ β : Type} [DecidableEq κ] (l : List (κ × β)) (k j : κ) (v : β) : kget (kput l k v) j = if j = k then some v else kget l j := by
  unfold kput
  by_cases c : l.any (fun p => decide (p.1 = k)) = true
  · rw [if_pos c]
    unfold kget
    rw [List.find?_map]
    induction l with
    | nil => simp at c
    | cons p l ih =>
      rw [List.find?_cons, List.find?_cons]
      by_cases e : p.1 = k
      · by_cases e2 : j = k
        · subst e2; simp [e]
        · have e3 : ¬ k = j := fun z => e2 z.symm
          simp only [Function.comp, e, ↓reduceIte, e3, decide_false, e2]
          by_cases c2 : l.any (fun p => decide (p.1 = k)) = true
          · have := ih c2
            rw [if_neg e2] at this
            exact this
          · have h0 : ∀ q ∈ l, ¬ q.1 = k := fun q hq z => c2 (List.any_eq_true.mpr ⟨q, hq, by simp [z]⟩)
            congr 1
            have : ∀ l' : List (κ × β), (∀ q ∈ l', ¬ q.1 = k) → Option.map (fun p => if p.1 = k then (p.1, v) else p) (List.find? ((fun p => decide (p.1 = j)) ∘ fun p => if p.1 = k then (p.1, v) else p) l') = List.find? (fun p => decide (p.1 = j)) l' := by
              intro l' h
              induction l' with
              | nil => rfl
              | cons q l' ih' =>
                have hq := h q List.mem_cons_self
                rw [List.find?_cons, List.find?_cons]
                simp only [Function.comp, hq, ↓reduceIte]
                cases decide (q.1 = j) with
                | true => simp [hq]
                | false => exact ih' fun q' h' => h q' (List.mem_cons_of_mem _ h')
            exact this l h0
      · have c2 : l.any (fun p => decide (p.1 = k)) = true := by simpa [e] using c
        have := ih c2
        by_cases e4 : p.1 = j
        · have e5 : ¬ j = k := fun z => e (e4.trans z)
          simp [e, e4, e5]
        · simp only [Function.comp, e, ↓reduceIte, e4, decide_false]
          exact this
  · rw [if_neg c]
    unfold kget
    rw [List.find?_append]
    have h0 : ∀ q ∈ l, ¬ q.1 = k := fun q hq z => c (List.any_eq_true.mpr ⟨q, hq, by simp [z]⟩)
    by_cases e2 : j = k
    · subst e2
      have : l.find? (fun p => decide (p.1 = j)) = none := List.find?_eq_none.mpr fun q hq => by simpa using h0 q hq
      rw [this]; simp
    · have e3 : ¬ k = j := fun z => e2 z.symm
      simp [e2, e3]
theorem kget_map {κ β γ : Type} [DecidableEq κ] (f : β → γ) (l : List (κ × β)) (k : κ) : kget (l.map fun p => (p.1, f p.2)) k = (kget l k).map f := by
  unfold kget
  rw [List.find?_map]
  show Option.map _ (Option.map _ (List.find? (fun p => decide (p.1 = k)) l)) = _
  cases (List.find? (fun p => decide (p.1 = k)) l) <;> rfl
theorem dget_k (l : List (List Int × D)) (k : List Int) : dget l k = kget l k := rfl
theorem dput_k (l : List (List Int × D)) (k : List Int) (v : D) : dput l k v = kput l k v := rfl
theorem intsN_len (n : Nat) : (intsN n).length = n := by unfold intsN; simp
theorem intsN_get {n i : Nat} (h : i < (intsN n).length) : (intsN n)[i] = (i : Int) := by
  have h2 : i < n := by rw [intsN_len] at h; exact h
  have e : (intsN n)[i]? = some (i : Int) := by unfold intsN; rw [List.getElem?_map, List.getElem?_range h2]; rfl
  exact (List.getElem?_eq_some_iff.mp e).2
theorem intsN_mem {n : Nat} {x : Int} : x ∈ intsN n ↔ 0 ≤ x ∧ x < n := by
  unfold intsN
  rw [List.mem_map]
  constructor
  · rintro ⟨i, hi, rfl⟩
    have := List.mem_range.mp hi
    omega
  · intro h
    have h2 : x.toNat < n := by omega
    exact ⟨x.toNat, List.mem_range.mpr h2, by omega⟩
theorem intsN_pw (n : Nat) : (intsN n).Pairwise (· < ·) := by
  unfold intsN
  rw [List.pairwise_map]
  exact List.pairwise_lt_range.imp fun h => by omega
theorem intsN_nodup (n : Nat) : (intsN n).Nodup := (intsN_pw n).imp fun h => by omega
theorem nb_pw (n : Nat) (R : Int → Int → Bool) (x : Int) : (nb n R x).Pairwise (· < ·) := (intsN_pw n).filter _
theorem nb_nodup (n : Nat) (R : Int → Int → Bool) (x : Int) : (nb n R x).Nodup := (nb_pw n R x).imp fun h => by omega
theorem nb_mem {n : Nat} {R : Int → Int → Bool} {x y : Int} : y ∈ nb n R x ↔ (0 ≤ y ∧ y < n) ∧ R x y = true := by
  unfold nb
  rw [List.mem_filter, intsN_mem]
theorem nb_len (n : Nat) (R : Int → Int → Bool) (x : Int) : (nb n R x).length ≤ n := by
  unfold nb
  exact Nat.le_trans (List.length_filter_le _ _) (by rw [intsN_len]; exact Nat.le_refl _)
theorem nb_congr {n : Nat} {R R' : Int → Int → Bool} {x : Int} (h : ∀ y : Int, 0 ≤ y → y < n → R x y = R' x y) : nb n R x = nb n R' x := by
  unfold nb
  refine List.filter_congr fun y hy => ?_
  have := intsN_mem.mp hy
  exact h y this.1 this.2
theorem nb_uniq {n : Nat} {R : Int → Int → Bool} {x : Int} {l : List Int} (hs : l.Pairwise (· ≤ ·)) (hd : l.Nodup) (hm : ∀ y, y ∈ l ↔ (0 ≤ y ∧ y < (n : Int)) ∧ R x y = true) : l = nb n R x :=
  sorted_uniq ((List.perm_ext_iff_of_nodup hd (nb_nodup n R x)).mpr fun y => (hm y).trans nb_mem.symm) hs ((nb_pw n R x).imp fun h => by omega)
theorem nb_put {n : Nat} {R : Int → Int → Bool} {a b : Int} (h0 : 0 ≤ b) (h1 : b < n) (hb : R a b = false) {R' : Int → Int → Bool} (hR : ∀ y, 0 ≤ y → y < (n : Int) → R' a y = (R a y || decide (y = b))) : sortI (nb n R a ++ [b]) = nb n R' a := by
  have p := sortI_perm (nb n R a ++ [b])
  have hd : (nb n R a ++ [b]).Nodup := by
    rw [List.nodup_append]
    refine ⟨nb_nodup n R a, nodup_one b, fun x hx y hy z => ?_⟩
    rw [List.mem_singleton.mp hy] at z
    subst z
    rw [(nb_mem.mp hx).2] at hb
    cases hb
  refine nb_uniq (sortI_sorted _) (p.nodup_iff.mpr hd) fun y => ?_
  rw [p.mem_iff, List.mem_append, nb_mem, List.mem_singleton]
  constructor
  · rintro (⟨h, q⟩ | rfl)
    · exact ⟨h, by rw [hR y h.1 h.2, q]; rfl⟩
    · exact ⟨⟨h0, h1⟩, by rw [hR y h0 h1]; simp⟩
  · rintro ⟨h, q⟩
    rw [hR y h.1 h.2, Bool.or_eq_true, decide_eq_true_eq] at q
    rcases q with q | q
    · exact .inl ⟨h, q⟩
    · exact .inr q
theorem nbs_len (n : Nat) (R : Int → Int → Bool) : (nbs n R).length = n := by unfold nbs; rw [List.length_map, intsN_len]
theorem nbs_get {n : Nat} {R : Int → Int → Bool} {i : Nat} (h : i < (nbs n R).length) : (nbs n R)[i] = nb n R i := by simp only [nbs, List.getElem_map, intsN_get]
theorem nbs_at {n : Nat} {R : Int → Int → Bool} {x : Int} (h0 : 0 ≤ x) (h1 : x < n) : atI ((nbs n R).map eR) x = some (eR (nb n R x)) := by
  rw [atI_tab eR (nbs n R) h0 (by rw [nbs_len]; exact h1), nbs_get]
  congr 3
  omega
theorem nbs_congr {n : Nat} {R R' : Int → Int → Bool} (h : ∀ x y : Int, 0 ≤ x → x < n → 0 ≤ y → y < n → R x y = R' x y) : nbs n R = nbs n R' := by
  unfold nbs
  refine List.map_congr_left fun x hx => nb_congr fun y hy0 hy1 => ?_
  have := intsN_mem.mp hx
  exact h x y this.1 this.2 hy0 hy1
theorem nbs_set {n : Nat} {R R' : Int → Int → Bool} {a : Int} {l : List Int} (h0 : 0 ≤ a) (hl : l = nb n R' a) (hR : ∀ x y, x ≠ a → R' x y = R x y) : (nbs n R).set a.toNat l = nbs n R' := by
  refine List.ext_getElem (by rw [List.length_set, nbs_len, nbs_len]) fun i h h' => ?_
  rw [List.getElem_set]
  split
  · rename_i e
    rw [hl, nbs_get]
    congr 1
    omega
  · rename_i e
    rw [nbs_get, nbs_get]
    refine nb_congr fun y _ _ => ?_
    rw [hR _ _ fun z => e (by omega)]
theorem map_set' {α β : Type} (f : α → β) (l : List α) (i : Nat) (x : α) : (l.map f).set i (f x) = (l.set i x).map f := by rw [List.map_set]
theorem ixN_lt {n : Nat} {x : Int} (h0 : 0 ≤ x) (h1 : x < n) : ixN n x = some x.toNat := ixN_pos h0 h1
theorem gf_houses {A : GA} {n : Nat} : (gf A n).lookup ("houses" : Str) = some (.int n) := by with_unfolding_all rfl
theorem gf_ties {A : GA} {n : Nat} : (gf A n).lookup ("ties" : Str) = some (.ref A.t) := by with_unfolding_all rfl
theorem gf_shy {A : GA} {n : Nat} : (gf A n).lookup ("shy" : Str) = some (.ref A.h) := by with_unfolding_all rfl
theorem gf_fond {A : GA} {n : Nat} : (gf A n).lookup ("fond" : Str) = some (.ref A.f) := by with_unfolding_all rfl
theorem gf_longings {A : GA} {n : Nat} : (gf A n).lookup ("longings" : Str) = some (.ref A.l) := by with_unfolding_all rfl
theorem gfm_see_house {A : GA} {n : Nat} : ((gf A n).lookup ("see_house" : Str)).isNone = true := by with_unfolding_all rfl
theorem gfm_see_two {A : GA} {n : Nat} : ((gf A n).lookup ("see_two" : Str)).isNone = true := by with_unfolding_all rfl
theorem gfm_size {A : GA} {n : Nat} : ((gf A n).lookup ("size" : Str)).isNone = true := by with_unfolding_all rfl
theorem gfm_neighbours {A : GA} {n : Nat} : ((gf A n).lookup ("neighbours" : Str)).isNone = true := by with_unfolding_all rfl
theorem gfm_has_way {A : GA} {n : Nat} : ((gf A n).lookup ("has_way" : Str)).isNone = true := by with_unfolding_all rfl
theorem gfm_lay_way {A : GA} {n : Nat} : ((gf A n).lookup ("lay_way" : Str)).isNone = true := by with_unfolding_all rfl
theorem gfm_lift_way {A : GA} {n : Nat} : ((gf A n).lookup ("lift_way" : Str)).isNone = true := by with_unfolding_all rfl
theorem gfm_like {A : GA} {n : Nat} : ((gf A n).lookup ("like" : Str)).isNone = true := by with_unfolding_all rfl
theorem gfm_liking {A : GA} {n : Nat} : ((gf A n).lookup ("liking" : Str)).isNone = true := by with_unfolding_all rfl
theorem gfm_shun {A : GA} {n : Nat} : ((gf A n).lookup ("shun" : Str)).isNone = true := by with_unfolding_all rfl
theorem gfm_shunned {A : GA} {n : Nat} : ((gf A n).lookup ("shunned" : Str)).isNone = true := by with_unfolding_all rfl
theorem gfm_see_road {A : GA} {n : Nat} : ((gf A n).lookup ("see_road" : Str)).isNone = true := by with_unfolding_all rfl
theorem gfm_wish {A : GA} {n : Nat} : ((gf A n).lookup ("wish" : Str)).isNone = true := by with_unfolding_all rfl
theorem gfm_wishes {A : GA} {n : Nat} : ((gf A n).lookup ("wishes" : Str)).isNone = true := by with_unfolding_all rfl
theorem gfm_rank_of {A : GA} {n : Nat} : ((gf A n).lookup ("rank_of" : Str)).isNone = true := by with_unfolding_all rfl
theorem gp_houses {v : D} : putFD "houses" v [] = [(("houses" : Str), v)] := by with_unfolding_all rfl
theorem gp_ties {x0 v : D} : putFD "ties" v [(("houses" : Str), x0)] = [(("houses" : Str), x0), (("ties" : Str), v)] := by with_unfolding_all rfl
theorem gp_shy {x0 x1 v : D} : putFD "shy" v [(("houses" : Str), x0), (("ties" : Str), x1)] = [(("houses" : Str), x0), (("ties" : Str), x1), (("shy" : Str), v)] := by with_unfolding_all rfl
theorem gp_fond {x0 x1 x2 v : D} : putFD "fond" v [(("houses" : Str), x0), (("ties" : Str), x1), (("shy" : Str), x2)] = [(("houses" : Str), x0), (("ties" : Str), x1), (("shy" : Str), x2), (("fond" : Str), v)] := by with_unfolding_all rfl
theorem gp_longings {x0 x1 x2 x3 v : D} : putFD "longings" v [(("houses" : Str), x0), (("ties" : Str), x1), (("shy" : Str), x2), (("fond" : Str), x3)] = [(("houses" : Str), x0), (("ties" : Str), x1), (("shy" : Str), x2), (("fond" : Str), x3), (("longings" : Str), v)] := by with_unfolding_all rfl
theorem GAt.ne {a : CA} {S : Sto} {A : GA} {s : GS} {m : Nat} (x : GAt a S A s m) : A.g ≠ A.t ∧ A.g ≠ A.h ∧ A.g ≠ A.f ∧ A.g ≠ A.l ∧ A.t ≠ A.f ∧ A.t ≠ A.l ∧ A.h ≠ A.f ∧ A.h ≠ A.l := by
  obtain ⟨fl, f1, _⟩ := x.f
  refine ⟨fun z => ?_, fun z => ?_, fun z => ?_, fun z => ?_, fun z => ?_, fun z => ?_, fun z => ?_, fun z => ?_⟩
  · have := x.g; rw [z, x.t] at this; cases this
  · have := x.g; rw [z, x.h] at this; cases this
  · have := x.g; rw [z, f1] at this; cases this
  · have := x.g; rw [z, x.l] at this; cases this
  · have := x.t; rw [z, f1] at this; cases this
  · have := x.t; rw [z, x.l] at this; cases this
  · have := x.h; rw [z, f1] at this; cases this
  · have := x.h; rw [z, x.l] at this; cases this
theorem GAt.setT {a : CA} {S : Sto} {A : GA} {s : GS} {m : Nat} (x : GAt a S A s m) (T : Int → Int → Bool) : GAt a (DL.su S A.t (.ml ((nbs s.n T).map eR))) A { s with T := T } m := by
  obtain ⟨h1, h2, h3, h4, h5, h6, h7, h8⟩ := x.ne
  obtain ⟨fl, f1, f2⟩ := x.f
  exact ⟨by rw [su_ne h1]; exact x.g, su_same, by rw [su_ne (Ne.symm x.nt)]; exact x.h, ⟨fl, by rw [su_ne (Ne.symm h5)]; exact f1, f2⟩, by rw [su_ne (Ne.symm h6)]; exact x.l, x.ll, x.nt, x.nf, x.n1, x.n2⟩
theorem GAt.setH {a : CA} {S : Sto} {A : GA} {s : GS} {m : Nat} (x : GAt a S A s m) (T : Int → Int → Bool) : GAt a (DL.su S A.h (.ml ((nbs s.n T).map eR))) A { s with H := T } m := by
  obtain ⟨h1, h2, h3, h4, h5, h6, h7, h8⟩ := x.ne
  obtain ⟨fl, f1, f2⟩ := x.f
  exact ⟨by rw [su_ne h2]; exact x.g, by rw [su_ne x.nt]; exact x.t, su_same, ⟨fl, by rw [su_ne (Ne.symm h7)]; exact f1, f2⟩, by rw [su_ne (Ne.symm h8)]; exact x.l, x.ll, x.nt, x.nf, x.n1, x.n2⟩
theorem GAt.setF {a : CA} {S : Sto} {A : GA} {s : GS} {m : Nat} (x : GAt a S A s m) {F : Int → Int → Int} {fl : List (List Int × D)} (h : ∀ x y, (dget fl [x, y]).getD (.int 0) = .int (F x y)) (hl : fl.length ≤ m + 1) : GAt a (DL.su S A.f (.dI fl)) A { s with F := F } (m + 1) := by
  obtain ⟨h1, h2, h3, h4, h5, h6, h7, h8⟩ := x.ne
  exact ⟨by rw [su_ne h3]; exact x.g, by rw [su_ne h5]; exact x.t, by rw [su_ne h7]; exact x.h, ⟨fl, su_same, h, hl⟩, by rw [su_ne (Ne.symm x.nf)]; exact x.l, Nat.le_succ_of_le x.ll, x.nt, x.nf, x.n1, x.n2⟩
theorem GAt.setL {a : CA} {S : Sto} {A : GA} {s : GS} {m : Nat} (x : GAt a S A s m) {L : List (List Int × Int)} (hl : L.length ≤ m + 1) : GAt a (DL.su S A.l (.dI (L.map eKV))) A { s with L := L } (m + 1) := by
  obtain ⟨h1, h2, h3, h4, h5, h6, h7, h8⟩ := x.ne
  obtain ⟨fl, f1, f2, f3⟩ := x.f
  exact ⟨by rw [su_ne h4]; exact x.g, by rw [su_ne h6]; exact x.t, by rw [su_ne h8]; exact x.h, ⟨fl, by rw [su_ne x.nf]; exact f1, f2, Nat.le_succ_of_le f3⟩, su_same, hl, x.nt, x.nf, x.n1, x.n2⟩
theorem mem_all_t {A : GA} : A.t ∈ A.all := by simp [GA.all]
theorem mem_all_h {A : GA} : A.h ∈ A.all := by simp [GA.all]
theorem mem_all_f {A : GA} : A.f ∈ A.all := by simp [GA.all]
theorem mem_all_l {A : GA} : A.l ∈ A.all := by simp [GA.all]
theorem mem_all_g {A : GA} : A.g ∈ A.all := by simp [GA.all]
theorem su_out {S : Sto} {A : GA} {p : Addr} {c : Cl} (h : p ∈ A.all) : ∀ b, b ∉ A.all → DL.su S p c b = S b := fun b hb => su_ne fun z => hb (by rw [z]; exact h)
theorem mem_nb {n : Nat} {R : Int → Int → Bool} {x y : Int} (h : 0 ≤ y ∧ y < n) : decide (y ∈ nb n R x) = R x y := by
  cases c : R x y with
  | true => exact decide_eq_true (nb_mem.mpr ⟨h, c⟩)
  | false => exact decide_eq_false fun z => by rw [(nb_mem.mp z).2] at c; cases c
theorem GAt.eq {a : CA} {S : Sto} {A : GA} {s s' : GS} {m : Nat} (x : GAt a S A s m) (hn : s'.n = s.n) (hT : ∀ x y : Int, 0 ≤ x → x < s.n → 0 ≤ y → y < s.n → s.T x y = s'.T x y) (hH : ∀ x y : Int, 0 ≤ x → x < s.n → 0 ≤ y → y < s.n → s.H x y = s'.H x y) (hF : s.F = s'.F) (hL : s.L = s'.L) : GAt a S A s' m := by
  obtain ⟨n', T', H', F', L'⟩ := s'
  obtain rfl : n' = s.n := hn
  obtain rfl : s.F = F' := hF
  obtain rfl : s.L = L' := hL
  exact ⟨x.g, by rw [x.t]; exact congrArg (fun z => some (Cl.ml (z.map eR))) (nbs_congr hT), by rw [x.h]; exact congrArg (fun z => some (Cl.ml (z.map eR))) (nbs_congr hH), x.f, x.l, x.ll, x.nt, x.nf, x.n1, x.n2⟩
def GS.rd (s : GS) (l : List Int) : Prop := 2 ≤ l.length ∧ l.getLast? = some 0 ∧ l.Nodup
def GS.rok (s : GS) (l : List Int) : Prop := (∀ x ∈ l, s.ok x) ∧ s.rd l
def GS.rank (s : GS) (l : List Int) : Int := match kget s.L l with
  | some k => k
  | none => s.F (l.getD 0 0) (l.getD 1 0)
theorem relW_sym (wl : WL) (u v : Int) : relW wl u v = relW wl v u := by unfold relW; rw [Int.min_comm, Int.max_comm]
theorem relW_app (wl : WL) (x y u v : Int) : relW (wl ++ [(min x y, max x y)]) u v = (relW wl u v || (decide (u = x) && decide (v = y)) || (decide (u = y) && decide (v = x))) := by
  unfold relW
  rw [Bool.eq_iff_iff]
  simp only [decide_eq_true_eq, List.mem_append, List.mem_singleton, Prod.mk.injEq, Bool.or_eq_true, Bool.and_eq_true]
  rw [or_assoc]
  refine or_congr Iff.rfl ?_
  omega
theorem relW_erase (wl : WL) (hd : wl.Nodup) (x y u v : Int) : relW (wl.erase (min x y, max x y)) u v = (relW wl u v && !(decide (u = x) && decide (v = y)) && !(decide (u = y) && decide (v = x))) := by
  unfold relW
  rw [Bool.eq_iff_iff]
  simp only [decide_eq_true_eq, hd.mem_erase_iff, ne_eq, Prod.mk.injEq, Bool.and_eq_true, Bool.not_eq_true', Bool.and_eq_false_iff, decide_eq_false_iff_not]
  rw [and_assoc]
  constructor
  · rintro ⟨h1, h2⟩; exact ⟨h2, by omega, by omega⟩
  · rintro ⟨h2, h3, h4⟩; exact ⟨by omega, h2⟩
theorem guild_gone {a : CA} {A : GA} {s : GS} {m : Nat} {S : Sto} {p : Addr} (g : GAt a S A s m) (h : S p = none) : p ∉ A.all := fun z => by
  obtain ⟨fl, f1, _⟩ := g.f
  have : ∀ {o : Option Cl} {c : Cl}, o = none → o = some c → False := fun e1 e2 => by rw [e1] at e2; cases e2
  simp only [GA.all, List.mem_cons, List.not_mem_nil, or_false] at z
  rcases z with rfl | rfl | rfl | rfl | rfl
  · exact this h g.g
  · exact this h g.t
  · exact this h g.h
  · exact this h f1
  · exact this h g.l

end DL
namespace DL
open PySem L2
def t_Guild_init (K : PySem.W.Frag) (a : CA) (W : WD) : TDS :=
  (dSeq (dIfS (dOrT (dB (dOp ltI (dVar 1) (dC (.int 1)))) (dB (dOp gtI (dVar 1) (dC (.int 60)))))
    (dRaise a.NoHouse W)
    dNext)
  (dSeq (dSetFld a.Guild "houses" (dVar 0) (dVar 1))
  (dSeq (dSetFld a.Guild "ties" (dVar 0) (dLc true (diR1 (dCons (dVar 1) dNil)) (dgN 2) dYes (dLst false dNil) [2]))
  (dSeq (dSetFld a.Guild "shy" (dVar 0) (dLc true (diR1 (dCons (dVar 1) dNil)) (dgN 2) dYes (dLst false dNil) [2]))
  (dSeq (dSetFld a.Guild "fond" (dVar 0) dNewI)
  (dSetFld a.Guild "longings" (dVar 0) dNewI))))))
abbrev N_Guild_init : List Str := ["self", "size", "house"]
def sp_Guild_init (a : CA) : DSp := fun ds S P E => ∃ (g : Addr) (size : Int), ds = [.ref g, .int size] ∧ S g = some (.ins a.Guild []) ∧
  (1 ≤ size ∧ size ≤ 60 → ∀ (A : GA) (S' : Sto), A.g = g → GAt a S' A (.new size.toNat) 0 → (∀ b, b ∉ A.all → S' b = S b) → (∀ b ∈ A.all, b ≠ g → S b = none) → P .non S') ∧ (¬ (1 ≤ size ∧ size ≤ 60) → E a.NoHouse S)
theorem len_Guild_init (a : CA) (ds : List D) (S : Sto) (Q : D → Sto → Prop) (E : Addr → Sto → Prop) (h : sp_Guild_init a ds S Q E) : ds.length = ["self", "size"].length := by
  obtain ⟨_, _, rfl, _⟩ := h; rfl
theorem nbs_none (n : Nat) : (List.range n).map (fun _ => D.lst []) = (nbs n fun _ _ => false).map eR := by
  unfold nbs intsN
  rw [List.map_map, List.map_map]
  refine List.map_congr_left fun x _ => ?_
  show D.lst [] = eR (nb n (fun _ _ => false) (x : Int))
  have : nb n (fun _ _ => false) (x : Int) = [] := by unfold nb; exact List.filter_eq_nil_iff.mpr fun y _ z => by cases z
  rw [this]; rfl
theorem read_Guild_init (K : PySem.W.Frag) (a : CA) (ds : List D) (S : Sto) (Q : D → Sto → Prop) (E : Addr → Sto → Prop) (h : sp_Guild_init a ds S Q E) : t_Guild_init K a (wishOf E) (endsOf Q) (dstart N_Guild_init ds) S := by
  obtain ⟨g, size, rfl, hg, q, q2⟩ := h
  simp only [t_Guild_init, N_Guild_init, dSeq, dIfS, dB, dOp, dVar, dCB, dCons, dNil, dRet, dRetN, dNext, dC, dAsg, dgN, dgT, dgSeq, dDrop, dCont, dAndT, dOrT, dNotT, dAndV, dOrV, dNotV, dIf, dIsN, dNotN, dNeg, dLst, dTup, dNewI, dCall, dMeth, dMake, dRaise, dFrz, dIsi, isiK, tyS, inst_NoneType_bool, inst_NoneType_int, inst_NoneType_str, inst_NoneType_list, inst_NoneType_tuple, inst_bool_bool, inst_bool_int, inst_bool_str, inst_bool_list, inst_bool_tuple, inst_int_bool, inst_int_int, inst_int_str, inst_int_list, inst_int_tuple, inst_str_bool, inst_str_int, inst_str_str, inst_str_list, inst_str_tuple, inst_list_bool, inst_list_int, inst_list_str, inst_list_list, inst_list_tuple, inst_tuple_bool, inst_tuple_int, inst_tuple_str, inst_tuple_list, inst_tuple_tuple, iiD, iiD0, subD, mulD, fdivD, modD, shrD, pow_10_6, pow_10_60, ltI, leI, gtI, geI, addI, addD, catD, scatD, lenD, lenS, ixD, ixL, ixLK, ixK, vl, vm, newL, i2D, absD, tupleD, dLM, dLM0, dFld, getF, dGet1, dGet2, getK, dSetIx, rng1, rng2, dFor1, dFor2, dFor, dForK, eqR, rs, dstart, List.map_cons, List.map_nil, List.length_cons, List.length_nil, List.cons_append, List.nil_append, List.replicate, List.getElem?_cons_zero, List.getElem?_cons_succ, List.set_cons_zero, List.set_cons_succ, Option.isSome_some, Option.isNone_some, Option.isNone_none, Nat.add_one_sub_one, Nat.reduceAdd, Nat.reduceSub, Nat.sub_self, Nat.sub_zero, Bool.not_true, Bool.not_false, ↓reduceIte, Bool.false_eq_true, Bool.true_eq_false, okD_int, okD_bl, okD_non, dEq_int, dEq_bl, Bool.true_xor, Bool.false_xor, Bool.not_eq_true', decide_eq_true_eq, decide_eq_false_iff_not, true_and, Bool.and_true, Bool.and_false, Bool.true_and, Bool.false_and, at_0, at_1, at_2, cast0, cast1, cast2, cast3, not_true_eq_false, not_false_eq_true, eL, Option.map_some, Option.map_none, dSlL, slk, doNone, doSome, sortedTD, dLenSet, lsk, hg, onIns, gf_houses, gf_ties, gf_shy, gf_fond, gf_longings, gfm_see_house, gfm_see_two, gfm_size, gfm_neighbours, gfm_has_way, gfm_lay_way, gfm_lift_way, gfm_like, gfm_liking, gfm_shun, gfm_shunned, gfm_see_road, gfm_wish, gfm_wishes, gfm_rank_of, gp_houses, gp_ties, gp_shy, gp_fond, gp_longings, dSetFld]
  by_cases c : size < 1
  · rw [if_pos c]; exact wish_of (q2 (by omega))
  rw [if_neg c]
  by_cases c2 : 60 < size
  · rw [if_pos c2]; exact wish_of (q2 (by omega))
  rw [if_neg c2]; replace q := q (by omega)
  refine ⟨by decide, ?_⟩
  simp only [dLc, diR1, dSeq, dIfS, dB, dOp, dVar, dCB, dCons, dNil, dRet, dRetN, dNext, dC, dAsg, dgN, dgT, dgSeq, dDrop, dCont, dAndT, dOrT, dNotT, dAndV, dOrV, dNotV, dIf, dIsN, dNotN, dNeg, dLst, dTup, dNewI, dCall, dMeth, dMake, dRaise, dFrz, dIsi, isiK, tyS, inst_NoneType_bool, inst_NoneType_int, inst_NoneType_str, inst_NoneType_list, inst_NoneType_tuple, inst_bool_bool, inst_bool_int, inst_bool_str, inst_bool_list, inst_bool_tuple, inst_int_bool, inst_int_int, inst_int_str, inst_int_list, inst_int_tuple, inst_str_bool, inst_str_int, inst_str_str, inst_str_list, inst_str_tuple, inst_list_bool, inst_list_int, inst_list_str, inst_list_list, inst_list_tuple, inst_tuple_bool, inst_tuple_int, inst_tuple_str, inst_tuple_list, inst_tuple_tuple, iiD, iiD0, subD, mulD, fdivD, modD, shrD, pow_10_6, pow_10_60, ltI, leI, gtI, geI, addI, addD, catD, scatD, lenD, lenS, ixD, ixL, ixLK, ixK, vl, vm, newL, i2D, absD, tupleD, dLM, dLM0, dFld, getF, dGet1, dGet2, getK, dSetIx, rng1, rng2, dFor1, dFor2, dFor, dForK, eqR, rs, dstart, List.map_cons, List.map_nil, List.length_cons, List.length_nil, List.cons_append, List.nil_append, List.replicate, List.getElem?_cons_zero, List.getElem?_cons_succ, List.set_cons_zero, List.set_cons_succ, Option.isSome_some, Option.isNone_some, Option.isNone_none, Nat.add_one_sub_one, Nat.reduceAdd, Nat.reduceSub, Nat.sub_self, Nat.sub_zero, Bool.not_true, Bool.not_false, ↓reduceIte, Bool.false_eq_true, Bool.true_eq_false, okD_int, okD_bl, okD_non, dEq_int, dEq_bl, Bool.true_xor, Bool.false_xor, Bool.not_eq_true', decide_eq_true_eq, decide_eq_false_iff_not, true_and, Bool.and_true, Bool.and_false, Bool.true_and, Bool.false_and, at_0, at_1, at_2, cast0, cast1, cast2, cast3, not_true_eq_false, not_false_eq_true, eL, Option.map_some, Option.map_none, dSlL, slk, doNone, doSome, sortedTD, dLenSet, lsk]
  refine ⟨by omega, ?_⟩
  have es : ((List.range size.toNat).map fun i : Nat => D.int (0 + (i : Nat))) = intsD 0 size.toNat := rfl
  rw [← es]
  refine lc_all (m := true) (P := _) _ (fun _ => .lst []) (by simp [sizeLine]; omega) (fun _ _ => trivial) (fun i _ S' Y _ y => ?_) fun p1 h1 => ?_
  · simp only [dSeq, dIfS, dB, dOp, dVar, dCB, dCons, dNil, dRet, dRetN, dNext, dC, dAsg, dgN, dgT, dgSeq, dDrop, dCont, dAndT, dOrT, dNotT, dAndV, dOrV, dNotV, dIf, dIsN, dNotN, dNeg, dLst, dTup, dNewI, dCall, dMeth, dMake, dRaise, dFrz, dIsi, isiK, tyS, inst_NoneType_bool, inst_NoneType_int, inst_NoneType_str, inst_NoneType_list, inst_NoneType_tuple, inst_bool_bool, inst_bool_int, inst_bool_str, inst_bool_list, inst_bool_tuple, inst_int_bool, inst_int_int, inst_int_str, inst_int_list, inst_int_tuple, inst_str_bool, inst_str_int, inst_str_str, inst_str_list, inst_str_tuple, inst_list_bool, inst_list_int, inst_list_str, inst_list_list, inst_list_tuple, inst_tuple_bool, inst_tuple_int, inst_tuple_str, inst_tuple_list, inst_tuple_tuple, iiD, iiD0, subD, mulD, fdivD, modD, shrD, pow_10_6, pow_10_60, ltI, leI, gtI, geI, addI, addD, catD, scatD, lenD, lenS, ixD, ixL, ixLK, ixK, vl, vm, newL, i2D, absD, tupleD, dLM, dLM0, dFld, getF, dGet1, dGet2, getK, dSetIx, rng1, rng2, dFor1, dFor2, dFor, dForK, eqR, rs, dstart, List.map_cons, List.map_nil, List.length_cons, List.length_nil, List.cons_append, List.nil_append, List.replicate, List.getElem?_cons_zero, List.getElem?_cons_succ, List.set_cons_zero, List.set_cons_succ, Option.isSome_some, Option.isNone_some, Option.isNone_none, Nat.add_one_sub_one, Nat.reduceAdd, Nat.reduceSub, Nat.sub_self, Nat.sub_zero, Bool.not_true, Bool.not_false, ↓reduceIte, Bool.false_eq_true, Bool.true_eq_false, okD_int, okD_bl, okD_non, dEq_int, dEq_bl, Bool.true_xor, Bool.false_xor, Bool.not_eq_true', decide_eq_true_eq, decide_eq_false_iff_not, true_and, Bool.and_true, Bool.and_false, Bool.true_and, Bool.false_and, at_0, at_1, at_2, cast0, cast1, cast2, cast3, not_true_eq_false, not_false_eq_true, eL, Option.map_some, Option.map_none, dSlL, slk, doNone, doSome, sortedTD, dLenSet, lsk, wipeD]; exact ⟨by decide, y⟩
  obtain ⟨n1, h1'⟩ := free_of h1
  simp only [su_ne (Ne.symm n1), su_same, true_and, gp_ties, gp_houses, su_two (Ne.symm n1)]
  refine ⟨by simp, by omega, ?_⟩
  refine lc_all (m := true) (P := _) _ (fun _ => .lst []) (by simp [sizeLine]; omega) (fun _ _ => trivial) (fun i _ S' Y _ y => ?_) fun p2 h2 => ?_
  · simp only [dSeq, dIfS, dB, dOp, dVar, dCB, dCons, dNil, dRet, dRetN, dNext, dC, dAsg, dgN, dgT, dgSeq, dDrop, dCont, dAndT, dOrT, dNotT, dAndV, dOrV, dNotV, dIf, dIsN, dNotN, dNeg, dLst, dTup, dNewI, dCall, dMeth, dMake, dRaise, dFrz, dIsi, isiK, tyS, inst_NoneType_bool, inst_NoneType_int, inst_NoneType_str, inst_NoneType_list, inst_NoneType_tuple, inst_bool_bool, inst_bool_int, inst_bool_str, inst_bool_list, inst_bool_tuple, inst_int_bool, inst_int_int, inst_int_str, inst_int_list, inst_int_tuple, inst_str_bool, inst_str_int, inst_str_str, inst_str_list, inst_str_tuple, inst_list_bool, inst_list_int, inst_list_str, inst_list_list, inst_list_tuple, inst_tuple_bool, inst_tuple_int, inst_tuple_str, inst_tuple_list, inst_tuple_tuple, iiD, iiD0, subD, mulD, fdivD, modD, shrD, pow_10_6, pow_10_60, ltI, leI, gtI, geI, addI, addD, catD, scatD, lenD, lenS, ixD, ixL, ixLK, ixK, vl, vm, newL, i2D, absD, tupleD, dLM, dLM0, dFld, getF, dGet1, dGet2, getK, dSetIx, rng1, rng2, dFor1, dFor2, dFor, dForK, eqR, rs, dstart, List.map_cons, List.map_nil, List.length_cons, List.length_nil, List.cons_append, List.nil_append, List.replicate, List.getElem?_cons_zero, List.getElem?_cons_succ, List.set_cons_zero, List.set_cons_succ, Option.isSome_some, Option.isNone_some, Option.isNone_none, Nat.add_one_sub_one, Nat.reduceAdd, Nat.reduceSub, Nat.sub_self, Nat.sub_zero, Bool.not_true, Bool.not_false, ↓reduceIte, Bool.false_eq_true, Bool.true_eq_false, okD_int, okD_bl, okD_non, dEq_int, dEq_bl, Bool.true_xor, Bool.false_xor, Bool.not_eq_true', decide_eq_true_eq, decide_eq_false_iff_not, true_and, Bool.and_true, Bool.and_false, Bool.true_and, Bool.false_and, at_0, at_1, at_2, cast0, cast1, cast2, cast3, not_true_eq_false, not_false_eq_true, eL, Option.map_some, Option.map_none, dSlL, slk, doNone, doSome, sortedTD, dLenSet, lsk, wipeD]; exact ⟨by decide, y⟩
  obtain ⟨n2, h2⟩ := free_of h2
  obtain ⟨n3, h2⟩ := free_of h2
  simp only [su_ne (Ne.symm n1), su_ne (Ne.symm n3), su_same, true_and, gp_shy, su_at2 (Ne.symm n1) (Ne.symm n3)]
  refine ⟨by simp, fun p3 h3 => ?_⟩
  obtain ⟨n4, h3⟩ := free_of h3
  obtain ⟨n5, h3⟩ := free_of h3
  obtain ⟨n6, h3⟩ := free_of h3
  simp only [su_ne (Ne.symm n1), su_ne (Ne.symm n3), su_ne (Ne.symm n6), su_same, true_and, gp_fond, su_at3 (Ne.symm n1) (Ne.symm n3) (Ne.symm n6)]
  refine ⟨by simp, fun p4 h4 => ?_⟩
  obtain ⟨m1, h4⟩ := free_of h4
  obtain ⟨m2, h4⟩ := free_of h4
  obtain ⟨m3, h4⟩ := free_of h4
  obtain ⟨m4, h4⟩ := free_of h4
  simp only [su_ne (Ne.symm n1), su_ne (Ne.symm n3), su_ne (Ne.symm n6), su_ne (Ne.symm m4), su_same, true_and, gp_longings, su_at4 (Ne.symm n1) (Ne.symm n3) (Ne.symm n6) (Ne.symm m4)]
  refine ⟨by simp, nx_of (q ⟨g, p1, p2, p3, p4⟩ _ rfl ?_ ?_ ?_)⟩
  · have e : ((size.toNat : Nat) : Int) = size := by omega
    refine ⟨?_, ?_, ?_, ⟨[], ?_, fun _ _ => rfl, Nat.le_refl _⟩, ?_, Nat.le_refl _, Ne.symm n2, Ne.symm m1, ?_, ?_⟩
    · show _ = some (Cl.ins a.Guild (gf ⟨g, p1, p2, p3, p4⟩ size.toNat))
      unfold gf
      simp only [su_ne (Ne.symm n1), su_ne (Ne.symm n3), su_ne (Ne.symm n6), su_ne (Ne.symm m4), su_same, e]
    · show _ = some (Cl.ml ((nbs size.toNat fun _ _ => false).map eR))
      simp only [su_ne (Ne.symm n2), su_ne (Ne.symm n5), su_ne (Ne.symm m3), su_same, nbs_none]
    · show _ = some (Cl.ml ((nbs size.toNat fun _ _ => false).map eR))
      simp only [su_ne (Ne.symm n4), su_ne (Ne.symm m2), su_same, nbs_none]
    · simp only [su_ne (Ne.symm m1), su_same]
    · exact su_same
    · show 1 ≤ size.toNat; omega
    · show size.toNat ≤ 60; omega
  · intro b hb
    simp only [GA.all, List.mem_cons, List.not_mem_nil, or_false, not_or] at hb
    rw [su_ne hb.2.2.2.2, su_ne hb.2.2.2.1, su_ne hb.2.2.1, su_ne hb.2.1, su_ne hb.1]
  · intro b hb hbg
    simp only [GA.all, List.mem_cons, List.not_mem_nil, or_false] at hb
    rcases hb with rfl | rfl | rfl | rfl | rfl
    · exact absurd rfl hbg
    · exact h1' 
    · exact h2
    · exact h3
    · exact h4

end DL
namespace DL
open PySem L2
def t_Guild_size (K : PySem.W.Frag) (a : CA) (W : WD) : TDS :=
  (dRet (dFld a.Guild "houses" (dVar 0)))
abbrev N_Guild_size : List Str := ["self"]
def sp_Guild_size (a : CA) : DSp := fun ds S P E => ∃ (A : GA) (s : GS) (m : Nat), ds = [.ref A.g] ∧ GAt a S A s m ∧ P (.int s.n) S
theorem len_Guild_size (a : CA) (ds : List D) (S : Sto) (Q : D → Sto → Prop) (E : Addr → Sto → Prop) (h : sp_Guild_size a ds S Q E) : ds.length = ["self"].length := by
  obtain ⟨_, _, _, rfl, _⟩ := h; rfl
theorem read_Guild_size (K : PySem.W.Frag) (a : CA) (ds : List D) (S : Sto) (Q : D → Sto → Prop) (E : Addr → Sto → Prop) (h : sp_Guild_size a ds S Q E) : t_Guild_size K a (wishOf E) (endsOf Q) (dstart N_Guild_size ds) S := by
  obtain ⟨A, s, m, rfl, g, q⟩ := h
  simp only [t_Guild_size, N_Guild_size, dSeq, dIfS, dB, dOp, dVar, dCB, dCons, dNil, dRet, dRetN, dNext, dC, dAsg, dgN, dgT, dgSeq, dDrop, dCont, dAndT, dOrT, dNotT, dAndV, dOrV, dNotV, dIf, dIsN, dNotN, dNeg, dLst, dTup, dNewI, dCall, dMeth, dMake, dRaise, dFrz, dIsi, isiK, tyS, inst_NoneType_bool, inst_NoneType_int, inst_NoneType_str, inst_NoneType_list, inst_NoneType_tuple, inst_bool_bool, inst_bool_int, inst_bool_str, inst_bool_list, inst_bool_tuple, inst_int_bool, inst_int_int, inst_int_str, inst_int_list, inst_int_tuple, inst_str_bool, inst_str_int, inst_str_str, inst_str_list, inst_str_tuple, inst_list_bool, inst_list_int, inst_list_str, inst_list_list, inst_list_tuple, inst_tuple_bool, inst_tuple_int, inst_tuple_str, inst_tuple_list, inst_tuple_tuple, iiD, iiD0, subD, mulD, fdivD, modD, shrD, pow_10_6, pow_10_60, ltI, leI, gtI, geI, addI, addD, catD, scatD, lenD, lenS, ixD, ixL, ixLK, ixK, vl, vm, newL, i2D, absD, tupleD, dLM, dLM0, dFld, getF, dGet1, dGet2, getK, dSetIx, rng1, rng2, dFor1, dFor2, dFor, dForK, eqR, rs, dstart, List.map_cons, List.map_nil, List.length_cons, List.length_nil, List.cons_append, List.nil_append, List.replicate, List.getElem?_cons_zero, List.getElem?_cons_succ, List.set_cons_zero, List.set_cons_succ, Option.isSome_some, Option.isNone_some, Option.isNone_none, Nat.add_one_sub_one, Nat.reduceAdd, Nat.reduceSub, Nat.sub_self, Nat.sub_zero, Bool.not_true, Bool.not_false, ↓reduceIte, Bool.false_eq_true, Bool.true_eq_false, okD_int, okD_bl, okD_non, dEq_int, dEq_bl, Bool.true_xor, Bool.false_xor, Bool.not_eq_true', decide_eq_true_eq, decide_eq_false_iff_not, true_and, Bool.and_true, Bool.and_false, Bool.true_and, Bool.false_and, at_0, at_1, at_2, cast0, cast1, cast2, cast3, not_true_eq_false, not_false_eq_true, eL, Option.map_some, Option.map_none, dSlL, slk, doNone, doSome, sortedTD, dLenSet, lsk, g.g, onIns, gf_houses, gf_ties, gf_shy, gf_fond, gf_longings, gfm_see_house, gfm_see_two, gfm_size, gfm_neighbours, gfm_has_way, gfm_lay_way, gfm_lift_way, gfm_like, gfm_liking, gfm_shun, gfm_shunned, gfm_see_road, gfm_wish, gfm_wishes, gfm_rank_of, gp_houses, gp_ties, gp_shy, gp_fond, gp_longings]
  exact rt_of q

end DL
namespace DL
open PySem L2
def t_Guild_see_house (K : PySem.W.Frag) (a : CA) (W : WD) : TDS :=
  (dIfS (dOrT (dB (dOp ltI (dVar 1) (dC (.int 0)))) (dB (dOp geI (dVar 1) (dFld a.Guild "houses" (dVar 0)))))
    (dRaise a.NoHouse W)
    dNext)
abbrev N_Guild_see_house : List Str := ["self", "a"]
def sp_Guild_see_house (a : CA) : DSp := fun ds S P E => ∃ (A : GA) (s : GS) (m : Nat) (x : Int), ds = [.ref A.g, .int x] ∧ GAt a S A s m ∧ (s.ok x → P .non S) ∧ (¬ s.ok x → E a.NoHouse S)
theorem len_Guild_see_house (a : CA) (ds : List D) (S : Sto) (Q : D → Sto → Prop) (E : Addr → Sto → Prop) (h : sp_Guild_see_house a ds S Q E) : ds.length = ["self", "a"].length := by
  obtain ⟨_, _, _, _, rfl, _⟩ := h; rfl
theorem read_Guild_see_house (K : PySem.W.Frag) (a : CA) (ds : List D) (S : Sto) (Q : D → Sto → Prop) (E : Addr → Sto → Prop) (h : sp_Guild_see_house a ds S Q E) : t_Guild_see_house K a (wishOf E) (endsOf Q) (dstart N_Guild_see_house ds) S := by
  obtain ⟨A, s, m, x, rfl, g, q1, q2⟩ := h
  simp only [t_Guild_see_house, N_Guild_see_house, dSeq, dIfS, dB, dOp, dVar, dCB, dCons, dNil, dRet, dRetN, dNext, dC, dAsg, dgN, dgT, dgSeq, dDrop, dCont, dAndT, dOrT, dNotT, dAndV, dOrV, dNotV, dIf, dIsN, dNotN, dNeg, dLst, dTup, dNewI, dCall, dMeth, dMake, dRaise, dFrz, dIsi, isiK, tyS, inst_NoneType_bool, inst_NoneType_int, inst_NoneType_str, inst_NoneType_list, inst_NoneType_tuple, inst_bool_bool, inst_bool_int, inst_bool_str, inst_bool_list, inst_bool_tuple, inst_int_bool, inst_int_int, inst_int_str, inst_int_list, inst_int_tuple, inst_str_bool, inst_str_int, inst_str_str, inst_str_list, inst_str_tuple, inst_list_bool, inst_list_int, inst_list_str, inst_list_list, inst_list_tuple, inst_tuple_bool, inst_tuple_int, inst_tuple_str, inst_tuple_list, inst_tuple_tuple, iiD, iiD0, subD, mulD, fdivD, modD, shrD, pow_10_6, pow_10_60, ltI, leI, gtI, geI, addI, addD, catD, scatD, lenD, lenS, ixD, ixL, ixLK, ixK, vl, vm, newL, i2D, absD, tupleD, dLM, dLM0, dFld, getF, dGet1, dGet2, getK, dSetIx, rng1, rng2, dFor1, dFor2, dFor, dForK, eqR, rs, dstart, List.map_cons, List.map_nil, List.length_cons, List.length_nil, List.cons_append, List.nil_append, List.replicate, List.getElem?_cons_zero, List.getElem?_cons_succ, List.set_cons_zero, List.set_cons_succ, Option.isSome_some, Option.isNone_some, Option.isNone_none, Nat.add_one_sub_one, Nat.reduceAdd, Nat.reduceSub, Nat.sub_self, Nat.sub_zero, Bool.not_true, Bool.not_false, ↓reduceIte, Bool.false_eq_true, Bool.true_eq_false, okD_int, okD_bl, okD_non, dEq_int, dEq_bl, Bool.true_xor, Bool.false_xor, Bool.not_eq_true', decide_eq_true_eq, decide_eq_false_iff_not, true_and, Bool.and_true, Bool.and_false, Bool.true_and, Bool.false_and, at_0, at_1, at_2, cast0, cast1, cast2, cast3, not_true_eq_false, not_false_eq_true, eL, Option.map_some, Option.map_none, dSlL, slk, doNone, doSome, sortedTD, dLenSet, lsk, g.g, onIns, gf_houses, gf_ties, gf_shy, gf_fond, gf_longings, gfm_see_house, gfm_see_two, gfm_size, gfm_neighbours, gfm_has_way, gfm_lay_way, gfm_lift_way, gfm_like, gfm_liking, gfm_shun, gfm_shunned, gfm_see_road, gfm_wish, gfm_wishes, gfm_rank_of, gp_houses, gp_ties, gp_shy, gp_fond, gp_longings]
  unfold GS.ok at q1 q2
  by_cases c : x < 0
  · rw [if_pos c]; exact wish_of (q2 (by omega))
  rw [if_neg c]
  by_cases c2 : (s.n : Int) ≤ x
  · rw [if_pos c2]; exact wish_of (q2 (by omega))
  · rw [if_neg c2]; exact nx_of (q1 (by omega))
theorem x_Guild_see_house {a : CA} {A : GA} {s : GS} {m : Nat} {x : Int} {S : Sto} {P : D → Sto → Prop} {E : Addr → Sto → Prop} (g : GAt a S A s m) (h1 : s.ok x → P .non S) (h2 : ¬ s.ok x → E a.NoHouse S) : sp_Guild_see_house a [.ref A.g, .int x] S P E :=
  ⟨A, s, m, x, rfl, g, h1, h2⟩
theorem x_ok_see_house {a : CA} {A : GA} {s : GS} {m : Nat} {x : Int} {S : Sto} {P : D → Sto → Prop} {E : Addr → Sto → Prop} (g : GAt a S A s m) (h : s.ok x) (h1 : P .non S) : sp_Guild_see_house a [.ref A.g, .int x] S P E :=
  ⟨A, s, m, x, rfl, g, fun _ => h1, fun z => absurd h z⟩

end DL
namespace DL
open PySem L2
def t_Guild_see_two (K : PySem.W.Frag) (a : CA) (W : WD) : TDS :=
  (dSeq (dDrop (dMeth a.Guild "see_house" (sp_Guild_see_house a) W (dVar 0) (dCons (dVar 1) dNil)))
  (dSeq (dDrop (dMeth a.Guild "see_house" (sp_Guild_see_house a) W (dVar 0) (dCons (dVar 2) dNil)))
  (dIfS (dB (dOp (eqR false) (dVar 1) (dVar 2)))
    (dRaise a.NoHouse W)
    dNext)))
abbrev N_Guild_see_two : List Str := ["self", "a", "b"]
def sp_Guild_see_two (a : CA) : DSp := fun ds S P E => ∃ (A : GA) (s : GS) (m : Nat) (x y : Int), ds = [.ref A.g, .int x, .int y] ∧ GAt a S A s m ∧ (s.ok2 x y → P .non S) ∧ (¬ s.ok2 x y → E a.NoHouse S)
theorem len_Guild_see_two (a : CA) (ds : List D) (S : Sto) (Q : D → Sto → Prop) (E : Addr → Sto → Prop) (h : sp_Guild_see_two a ds S Q E) : ds.length = ["self", "a", "b"].length := by
  obtain ⟨_, _, _, _, _, rfl, _⟩ := h; rfl
theorem read_Guild_see_two (K : PySem.W.Frag) (a : CA) (ds : List D) (S : Sto) (Q : D → Sto → Prop) (E : Addr → Sto → Prop) (h : sp_Guild_see_two a ds S Q E) : t_Guild_see_two K a (wishOf E) (endsOf Q) (dstart N_Guild_see_two ds) S := by
  obtain ⟨A, s, m, x, y, rfl, g, q1, q2⟩ := h
  simp only [t_Guild_see_two, N_Guild_see_two, dSeq, dIfS, dB, dOp, dVar, dCB, dCons, dNil, dRet, dRetN, dNext, dC, dAsg, dgN, dgT, dgSeq, dDrop, dCont, dAndT, dOrT, dNotT, dAndV, dOrV, dNotV, dIf, dIsN, dNotN, dNeg, dLst, dTup, dNewI, dCall, dMeth, dMake, dRaise, dFrz, dIsi, isiK, tyS, inst_NoneType_bool, inst_NoneType_int, inst_NoneType_str, inst_NoneType_list, inst_NoneType_tuple, inst_bool_bool, inst_bool_int, inst_bool_str, inst_bool_list, inst_bool_tuple, inst_int_bool, inst_int_int, inst_int_str, inst_int_list, inst_int_tuple, inst_str_bool, inst_str_int, inst_str_str, inst_str_list, inst_str_tuple, inst_list_bool, inst_list_int, inst_list_str, inst_list_list, inst_list_tuple, inst_tuple_bool, inst_tuple_int, inst_tuple_str, inst_tuple_list, inst_tuple_tuple, iiD, iiD0, subD, mulD, fdivD, modD, shrD, pow_10_6, pow_10_60, ltI, leI, gtI, geI, addI, addD, catD, scatD, lenD, lenS, ixD, ixL, ixLK, ixK, vl, vm, newL, i2D, absD, tupleD, dLM, dLM0, dFld, getF, dGet1, dGet2, getK, dSetIx, rng1, rng2, dFor1, dFor2, dFor, dForK, eqR, rs, dstart, List.map_cons, List.map_nil, List.length_cons, List.length_nil, List.cons_append, List.nil_append, List.replicate, List.getElem?_cons_zero, List.getElem?_cons_succ, List.set_cons_zero, List.set_cons_succ, Option.isSome_some, Option.isNone_some, Option.isNone_none, Nat.add_one_sub_one, Nat.reduceAdd, Nat.reduceSub, Nat.sub_self, Nat.sub_zero, Bool.not_true, Bool.not_false, ↓reduceIte, Bool.false_eq_true, Bool.true_eq_false, okD_int, okD_bl, okD_non, dEq_int, dEq_bl, Bool.true_xor, Bool.false_xor, Bool.not_eq_true', decide_eq_true_eq, decide_eq_false_iff_not, true_and, Bool.and_true, Bool.and_false, Bool.true_and, Bool.false_and, at_0, at_1, at_2, cast0, cast1, cast2, cast3, not_true_eq_false, not_false_eq_true, eL, Option.map_some, Option.map_none, dSlL, slk, doNone, doSome, sortedTD, dLenSet, lsk, g.g, onIns, gf_houses, gf_ties, gf_shy, gf_fond, gf_longings, gfm_see_house, gfm_see_two, gfm_size, gfm_neighbours, gfm_has_way, gfm_lay_way, gfm_lift_way, gfm_like, gfm_liking, gfm_shun, gfm_shunned, gfm_see_road, gfm_wish, gfm_wishes, gfm_rank_of, gp_houses, gp_ties, gp_shy, gp_fond, gp_longings]
  unfold GS.ok2 at q1 q2
  refine x_Guild_see_house g (fun h1 => ?_) fun h1 => wish_of (q2 fun z => h1 z.1)
  simp only [g.g, onIns, gf_houses, gf_ties, gf_shy, gf_fond, gf_longings, gfm_see_house, gfm_see_two, gfm_size, gfm_neighbours, gfm_has_way, gfm_lay_way, gfm_lift_way, gfm_like, gfm_liking, gfm_shun, gfm_shunned, gfm_see_road, gfm_wish, gfm_wishes, gfm_rank_of, gp_houses, gp_ties, gp_shy, gp_fond, gp_longings, true_and]
  refine x_Guild_see_house g (fun h2 => ?_) fun h2 => wish_of (q2 fun z => h2 z.2.1)
  by_cases c : x = y
  · rw [if_pos c]; exact wish_of (q2 fun z => z.2.2 c)
  · rw [if_neg c]; exact nx_of (q1 ⟨h1, h2, c⟩)

end DL
namespace DL
open PySem L2
def t_Guild_neighbours (K : PySem.W.Frag) (a : CA) (W : WD) : TDS :=
  (dSeq (dDrop (dMeth a.Guild "see_house" (sp_Guild_see_house a) W (dVar 0) (dCons (dVar 1) dNil)))
  (dRet (dCB (listD false) (dCons (dOp ixD (dFld a.Guild "ties" (dVar 0)) (dVar 1)) dNil))))
abbrev N_Guild_neighbours : List Str := ["self", "a"]
def sp_Guild_neighbours (a : CA) : DSp := fun ds S P E => ∃ (A : GA) (s : GS) (m : Nat) (x : Int), ds = [.ref A.g, .int x] ∧ GAt a S A s m ∧ (s.ok x → P (.lst ((nb s.n s.T x).map .int)) S) ∧ (¬ s.ok x → E a.NoHouse S)
theorem len_Guild_neighbours (a : CA) (ds : List D) (S : Sto) (Q : D → Sto → Prop) (E : Addr → Sto → Prop) (h : sp_Guild_neighbours a ds S Q E) : ds.length = ["self", "a"].length := by
  obtain ⟨_, _, _, _, rfl, _⟩ := h; rfl
theorem read_Guild_neighbours (K : PySem.W.Frag) (a : CA) (ds : List D) (S : Sto) (Q : D → Sto → Prop) (E : Addr → Sto → Prop) (h : sp_Guild_neighbours a ds S Q E) : t_Guild_neighbours K a (wishOf E) (endsOf Q) (dstart N_Guild_neighbours ds) S := by
  obtain ⟨A, s, m, x, rfl, g, q1, q2⟩ := h
  simp only [t_Guild_neighbours, N_Guild_neighbours, dSeq, dIfS, dB, dOp, dVar, dCB, dCons, dNil, dRet, dRetN, dNext, dC, dAsg, dgN, dgT, dgSeq, dDrop, dCont, dAndT, dOrT, dNotT, dAndV, dOrV, dNotV, dIf, dIsN, dNotN, dNeg, dLst, dTup, dNewI, dCall, dMeth, dMake, dRaise, dFrz, dIsi, isiK, tyS, inst_NoneType_bool, inst_NoneType_int, inst_NoneType_str, inst_NoneType_list, inst_NoneType_tuple, inst_bool_bool, inst_bool_int, inst_bool_str, inst_bool_list, inst_bool_tuple, inst_int_bool, inst_int_int, inst_int_str, inst_int_list, inst_int_tuple, inst_str_bool, inst_str_int, inst_str_str, inst_str_list, inst_str_tuple, inst_list_bool, inst_list_int, inst_list_str, inst_list_list, inst_list_tuple, inst_tuple_bool, inst_tuple_int, inst_tuple_str, inst_tuple_list, inst_tuple_tuple, iiD, iiD0, subD, mulD, fdivD, modD, shrD, pow_10_6, pow_10_60, ltI, leI, gtI, geI, addI, addD, catD, scatD, lenD, lenS, ixD, ixL, ixLK, ixK, vl, vm, newL, i2D, absD, tupleD, dLM, dLM0, dFld, getF, dGet1, dGet2, getK, dSetIx, rng1, rng2, dFor1, dFor2, dFor, dForK, eqR, rs, dstart, List.map_cons, List.map_nil, List.length_cons, List.length_nil, List.cons_append, List.nil_append, List.replicate, List.getElem?_cons_zero, List.getElem?_cons_succ, List.set_cons_zero, List.set_cons_succ, Option.isSome_some, Option.isNone_some, Option.isNone_none, Nat.add_one_sub_one, Nat.reduceAdd, Nat.reduceSub, Nat.sub_self, Nat.sub_zero, Bool.not_true, Bool.not_false, ↓reduceIte, Bool.false_eq_true, Bool.true_eq_false, okD_int, okD_bl, okD_non, dEq_int, dEq_bl, Bool.true_xor, Bool.false_xor, Bool.not_eq_true', decide_eq_true_eq, decide_eq_false_iff_not, true_and, Bool.and_true, Bool.and_false, Bool.true_and, Bool.false_and, at_0, at_1, at_2, cast0, cast1, cast2, cast3, not_true_eq_false, not_false_eq_true, eL, Option.map_some, Option.map_none, dSlL, slk, doNone, doSome, sortedTD, dLenSet, lsk, g.g, onIns, gf_houses, gf_ties, gf_shy, gf_fond, gf_longings, gfm_see_house, gfm_see_two, gfm_size, gfm_neighbours, gfm_has_way, gfm_lay_way, gfm_lift_way, gfm_like, gfm_liking, gfm_shun, gfm_shunned, gfm_see_road, gfm_wish, gfm_wishes, gfm_rank_of, gp_houses, gp_ties, gp_shy, gp_fond, gp_longings]
  refine x_Guild_see_house g (fun h1 => ?_) fun h1 => wish_of (q2 h1)
  simp only [g.g, g.t, onIns, gf_houses, gf_ties, gf_shy, gf_fond, gf_longings, gfm_see_house, gfm_see_two, gfm_size, gfm_neighbours, gfm_has_way, gfm_lay_way, gfm_lift_way, gfm_like, gfm_liking, gfm_shun, gfm_shunned, gfm_see_road, gfm_wish, gfm_wishes, gfm_rank_of, gp_houses, gp_ties, gp_shy, gp_fond, gp_longings, dSeq, dIfS, dB, dOp, dVar, dCB, dCons, dNil, dRet, dRetN, dNext, dC, dAsg, dgN, dgT, dgSeq, dDrop, dCont, dAndT, dOrT, dNotT, dAndV, dOrV, dNotV, dIf, dIsN, dNotN, dNeg, dLst, dTup, dNewI, dCall, dMeth, dMake, dRaise, dFrz, dIsi, isiK, tyS, inst_NoneType_bool, inst_NoneType_int, inst_NoneType_str, inst_NoneType_list, inst_NoneType_tuple, inst_bool_bool, inst_bool_int, inst_bool_str, inst_bool_list, inst_bool_tuple, inst_int_bool, inst_int_int, inst_int_str, inst_int_list, inst_int_tuple, inst_str_bool, inst_str_int, inst_str_str, inst_str_list, inst_str_tuple, inst_list_bool, inst_list_int, inst_list_str, inst_list_list, inst_list_tuple, inst_tuple_bool, inst_tuple_int, inst_tuple_str, inst_tuple_list, inst_tuple_tuple, iiD, iiD0, subD, mulD, fdivD, modD, shrD, pow_10_6, pow_10_60, ltI, leI, gtI, geI, addI, addD, catD, scatD, lenD, lenS, ixD, ixL, ixLK, ixK, vl, vm, newL, i2D, absD, tupleD, dLM, dLM0, dFld, getF, dGet1, dGet2, getK, dSetIx, rng1, rng2, dFor1, dFor2, dFor, dForK, eqR, rs, dstart, List.map_cons, List.map_nil, List.length_cons, List.length_nil, List.cons_append, List.nil_append, List.replicate, List.getElem?_cons_zero, List.getElem?_cons_succ, List.set_cons_zero, List.set_cons_succ, Option.isSome_some, Option.isNone_some, Option.isNone_none, Nat.add_one_sub_one, Nat.reduceAdd, Nat.reduceSub, Nat.sub_self, Nat.sub_zero, Bool.not_true, Bool.not_false, ↓reduceIte, Bool.false_eq_true, Bool.true_eq_false, okD_int, okD_bl, okD_non, dEq_int, dEq_bl, Bool.true_xor, Bool.false_xor, Bool.not_eq_true', decide_eq_true_eq, decide_eq_false_iff_not, true_and, Bool.and_true, Bool.and_false, Bool.true_and, Bool.false_and, at_0, at_1, at_2, cast0, cast1, cast2, cast3, not_true_eq_false, not_false_eq_true, eL, Option.map_some, Option.map_none, dSlL, slk, doNone, doSome, sortedTD, dLenSet, lsk, nbs_at h1.1 h1.2, listD]
  exact rt_of (q1 h1)
theorem x_Guild_neighbours {a : CA} {A : GA} {s : GS} {m : Nat} {x : Int} {S : Sto} {P : D → Sto → Prop} {E : Addr → Sto → Prop} (g : GAt a S A s m) (h : s.ok x) (q : P (.lst ((nb s.n s.T x).map .int)) S) : sp_Guild_neighbours a [.ref A.g, .int x] S P E := ⟨A, s, m, x, rfl, g, fun _ => q, fun z => absurd h z⟩

end DL
namespace DL
open PySem L2
def t_Guild_lay_way (K : PySem.W.Frag) (a : CA) (W : WD) : TDS :=
  (dSeq (dDrop (dMeth a.Guild "see_two" (sp_Guild_see_two a) W (dVar 0) (dCons (dVar 1) (dCons (dVar 2) dNil))))
  (dSeq (dIfS (dB (dOp (inR false) (dVar 2) (dOp ixD (dFld a.Guild "ties" (dVar 0)) (dVar 1))))
    (dRaise a.WayThere W)
    dNext)
  (dSeq (dSetIx (dFld a.Guild "ties" (dVar 0)) (dVar 1) (dCB (sortedD false) (dCons (dOp (addD false) (dOp ixD (dFld a.Guild "ties" (dVar 0)) (dVar 1)) (dLst false (dCons (dVar 2) dNil))) dNil)))
  (dSetIx (dFld a.Guild "ties" (dVar 0)) (dVar 2) (dCB (sortedD false) (dCons (dOp (addD false) (dOp ixD (dFld a.Guild "ties" (dVar 0)) (dVar 2)) (dLst false (dCons (dVar 1) dNil))) dNil))))))
abbrev N_Guild_lay_way : List Str := ["self", "a", "b"]
def sp_Guild_lay_way (a : CA) : DSp := fun ds S P E => ∃ (A : GA) (s : GS) (m : Nat) (x y : Int), ds = [.ref A.g, .int x, .int y] ∧ GAt a S A s m ∧
  (¬ s.ok2 x y → E a.NoHouse S) ∧ (s.ok2 x y → s.T x y = true → E a.WayThere S) ∧ (s.ok2 x y → s.T x y = false → s.T y x = false ∧ ∀ S', GAt a S' A (s.lay x y) m → (∀ b, b ∉ A.all → S' b = S b) → P .non S')
theorem len_Guild_lay_way (a : CA) (ds : List D) (S : Sto) (Q : D → Sto → Prop) (E : Addr → Sto → Prop) (h : sp_Guild_lay_way a ds S Q E) : ds.length = ["self", "a", "b"].length := by
  obtain ⟨_, _, _, _, _, rfl, _⟩ := h; rfl
theorem read_Guild_lay_way (K : PySem.W.Frag) (a : CA) (ds : List D) (S : Sto) (Q : D → Sto → Prop) (E : Addr → Sto → Prop) (h : sp_Guild_lay_way a ds S Q E) : t_Guild_lay_way K a (wishOf E) (endsOf Q) (dstart N_Guild_lay_way ds) S := by
  obtain ⟨A, s, m, x, y, rfl, g, q1, q2, q3⟩ := h
  simp only [t_Guild_lay_way, N_Guild_lay_way, dSeq, dIfS, dB, dOp, dVar, dCB, dCons, dNil, dRet, dRetN, dNext, dC, dAsg, dgN, dgT, dgSeq, dDrop, dCont, dAndT, dOrT, dNotT, dAndV, dOrV, dNotV, dIf, dIsN, dNotN, dNeg, dLst, dTup, dNewI, dCall, dMeth, dMake, dRaise, dFrz, dIsi, isiK, tyS, inst_NoneType_bool, inst_NoneType_int, inst_NoneType_str, inst_NoneType_list, inst_NoneType_tuple, inst_bool_bool, inst_bool_int, inst_bool_str, inst_bool_list, inst_bool_tuple, inst_int_bool, inst_int_int, inst_int_str, inst_int_list, inst_int_tuple, inst_str_bool, inst_str_int, inst_str_str, inst_str_list, inst_str_tuple, inst_list_bool, inst_list_int, inst_list_str, inst_list_list, inst_list_tuple, inst_tuple_bool, inst_tuple_int, inst_tuple_str, inst_tuple_list, inst_tuple_tuple, iiD, iiD0, subD, mulD, fdivD, modD, shrD, pow_10_6, pow_10_60, ltI, leI, gtI, geI, addI, addD, catD, scatD, lenD, lenS, ixD, ixL, ixLK, ixK, vl, vm, newL, i2D, absD, tupleD, dLM, dLM0, dFld, getF, dGet1, dGet2, getK, dSetIx, rng1, rng2, dFor1, dFor2, dFor, dForK, eqR, rs, dstart, List.map_cons, List.map_nil, List.length_cons, List.length_nil, List.cons_append, List.nil_append, List.replicate, List.getElem?_cons_zero, List.getElem?_cons_succ, List.set_cons_zero, List.set_cons_succ, Option.isSome_some, Option.isNone_some, Option.isNone_none, Nat.add_one_sub_one, Nat.reduceAdd, Nat.reduceSub, Nat.sub_self, Nat.sub_zero, Bool.not_true, Bool.not_false, ↓reduceIte, Bool.false_eq_true, Bool.true_eq_false, okD_int, okD_bl, okD_non, dEq_int, dEq_bl, Bool.true_xor, Bool.false_xor, Bool.not_eq_true', decide_eq_true_eq, decide_eq_false_iff_not, true_and, Bool.and_true, Bool.and_false, Bool.true_and, Bool.false_and, at_0, at_1, at_2, cast0, cast1, cast2, cast3, not_true_eq_false, not_false_eq_true, eL, Option.map_some, Option.map_none, dSlL, slk, doNone, doSome, sortedTD, dLenSet, lsk, g.g, onIns, gf_houses, gf_ties, gf_shy, gf_fond, gf_longings, gfm_see_house, gfm_see_two, gfm_size, gfm_neighbours, gfm_has_way, gfm_lay_way, gfm_lift_way, gfm_like, gfm_liking, gfm_shun, gfm_shunned, gfm_see_road, gfm_wish, gfm_wishes, gfm_rank_of, gp_houses, gp_ties, gp_shy, gp_fond, gp_longings]
  refine ⟨A, s, m, x, y, rfl, g, fun h => ?_, fun h => wish_of (q1 h)⟩
  have h1 := h.1
  have h2 := h.2.1
  have hs : sizeLine = 2 ^ 24 := rfl
  have n2 := g.n2
  simp only [g.g, g.t, onIns, gf_houses, gf_ties, gf_shy, gf_fond, gf_longings, gfm_see_house, gfm_see_two, gfm_size, gfm_neighbours, gfm_has_way, gfm_lay_way, gfm_lift_way, gfm_like, gfm_liking, gfm_shun, gfm_shunned, gfm_see_road, gfm_wish, gfm_wishes, gfm_rank_of, gp_houses, gp_ties, gp_shy, gp_fond, gp_longings, dSeq, dIfS, dB, dOp, dVar, dCB, dCons, dNil, dRet, dRetN, dNext, dC, dAsg, dgN, dgT, dgSeq, dDrop, dCont, dAndT, dOrT, dNotT, dAndV, dOrV, dNotV, dIf, dIsN, dNotN, dNeg, dLst, dTup, dNewI, dCall, dMeth, dMake, dRaise, dFrz, dIsi, isiK, tyS, inst_NoneType_bool, inst_NoneType_int, inst_NoneType_str, inst_NoneType_list, inst_NoneType_tuple, inst_bool_bool, inst_bool_int, inst_bool_str, inst_bool_list, inst_bool_tuple, inst_int_bool, inst_int_int, inst_int_str, inst_int_list, inst_int_tuple, inst_str_bool, inst_str_int, inst_str_str, inst_str_list, inst_str_tuple, inst_list_bool, inst_list_int, inst_list_str, inst_list_list, inst_list_tuple, inst_tuple_bool, inst_tuple_int, inst_tuple_str, inst_tuple_list, inst_tuple_tuple, iiD, iiD0, subD, mulD, fdivD, modD, shrD, pow_10_6, pow_10_60, ltI, leI, gtI, geI, addI, addD, catD, scatD, lenD, lenS, ixD, ixL, ixLK, ixK, vl, vm, newL, i2D, absD, tupleD, dLM, dLM0, dFld, getF, dGet1, dGet2, getK, dSetIx, rng1, rng2, dFor1, dFor2, dFor, dForK, eqR, rs, dstart, List.map_cons, List.map_nil, List.length_cons, List.length_nil, List.cons_append, List.nil_append, List.replicate, List.getElem?_cons_zero, List.getElem?_cons_succ, List.set_cons_zero, List.set_cons_succ, Option.isSome_some, Option.isNone_some, Option.isNone_none, Nat.add_one_sub_one, Nat.reduceAdd, Nat.reduceSub, Nat.sub_self, Nat.sub_zero, Bool.not_true, Bool.not_false, ↓reduceIte, Bool.false_eq_true, Bool.true_eq_false, okD_int, okD_bl, okD_non, dEq_int, dEq_bl, Bool.true_xor, Bool.false_xor, Bool.not_eq_true', decide_eq_true_eq, decide_eq_false_iff_not, true_and, Bool.and_true, Bool.and_false, Bool.true_and, Bool.false_and, at_0, at_1, at_2, cast0, cast1, cast2, cast3, not_true_eq_false, not_false_eq_true, eL, Option.map_some, Option.map_none, dSlL, slk, doNone, doSome, sortedTD, dLenSet, lsk, nbs_at h1.1 h1.2, inR, inL, any_int, mem_nb h2]
  refine ⟨okD_R _, ?_⟩
  cases c : s.T x y with
  | true => rw [if_pos rfl]; exact wish_of (q2 h c)
  | false =>
    obtain ⟨hyx, q3⟩ := q3 h c
    simp only [g.g, g.t, onIns, gf_houses, gf_ties, gf_shy, gf_fond, gf_longings, gfm_see_house, gfm_see_two, gfm_size, gfm_neighbours, gfm_has_way, gfm_lay_way, gfm_lift_way, gfm_like, gfm_liking, gfm_shun, gfm_shunned, gfm_see_road, gfm_wish, gfm_wishes, gfm_rank_of, gp_houses, gp_ties, gp_shy, gp_fond, gp_longings, dSeq, dIfS, dB, dOp, dVar, dCB, dCons, dNil, dRet, dRetN, dNext, dC, dAsg, dgN, dgT, dgSeq, dDrop, dCont, dAndT, dOrT, dNotT, dAndV, dOrV, dNotV, dIf, dIsN, dNotN, dNeg, dLst, dTup, dNewI, dCall, dMeth, dMake, dRaise, dFrz, dIsi, isiK, tyS, inst_NoneType_bool, inst_NoneType_int, inst_NoneType_str, inst_NoneType_list, inst_NoneType_tuple, inst_bool_bool, inst_bool_int, inst_bool_str, inst_bool_list, inst_bool_tuple, inst_int_bool, inst_int_int, inst_int_str, inst_int_list, inst_int_tuple, inst_str_bool, inst_str_int, inst_str_str, inst_str_list, inst_str_tuple, inst_list_bool, inst_list_int, inst_list_str, inst_list_list, inst_list_tuple, inst_tuple_bool, inst_tuple_int, inst_tuple_str, inst_tuple_list, inst_tuple_tuple, iiD, iiD0, subD, mulD, fdivD, modD, shrD, pow_10_6, pow_10_60, ltI, leI, gtI, geI, addI, addD, catD, scatD, lenD, lenS, ixD, ixL, ixLK, ixK, vl, vm, newL, i2D, absD, tupleD, dLM, dLM0, dFld, getF, dGet1, dGet2, getK, dSetIx, rng1, rng2, dFor1, dFor2, dFor, dForK, eqR, rs, dstart, List.map_cons, List.map_nil, List.length_cons, List.length_nil, List.cons_append, List.nil_append, List.replicate, List.getElem?_cons_zero, List.getElem?_cons_succ, List.set_cons_zero, List.set_cons_succ, Option.isSome_some, Option.isNone_some, Option.isNone_none, Nat.add_one_sub_one, Nat.reduceAdd, Nat.reduceSub, Nat.sub_self, Nat.sub_zero, Bool.not_true, Bool.not_false, ↓reduceIte, Bool.false_eq_true, Bool.true_eq_false, okD_int, okD_bl, okD_non, dEq_int, dEq_bl, Bool.true_xor, Bool.false_xor, Bool.not_eq_true', decide_eq_true_eq, decide_eq_false_iff_not, true_and, Bool.and_true, Bool.and_false, Bool.true_and, Bool.false_and, at_0, at_1, at_2, cast0, cast1, cast2, cast3, not_true_eq_false, not_false_eq_true, eL, Option.map_some, Option.map_none, dSlL, slk, doNone, doSome, sortedTD, dLenSet, lsk, nbs_at h1.1 h1.2, sorted_snoc]
    have l1 := nb_len s.n s.T x
    refine ⟨by omega, by rw [List.length_map]; omega, setD_at g.t h1.1 (by rw [List.length_map, nbs_len]; exact h1.2) ?_⟩
    have e1 : ((nbs s.n s.T).map eR).set x.toNat (.lst ((sortI (nb s.n s.T x ++ [y])).map .int)) = (nbs s.n (relPut s.T x y)).map eR := by
      rw [show D.lst ((sortI (nb s.n s.T x ++ [y])).map .int) = eR (sortI (nb s.n s.T x ++ [y])) from rfl, map_set', nbs_set h1.1 (nb_put h2.1 h2.2 c (R' := relPut s.T x y) fun z _ _ => by simp [relPut]) fun u v hu => by simp [relPut, hu]]
    rw [e1]
    have g' := g.setT (relPut s.T x y)
    have hne : ¬ y = x := fun z => h.2.2 z.symm
    have hyx' : relPut s.T x y y x = false := by simp [relPut, hyx, hne]
    have at2 := nbs_at (n := s.n) (R := relPut s.T x y) h2.1 h2.2
    simp only [g'.g, g'.t, onIns, gf_houses, gf_ties, gf_shy, gf_fond, gf_longings, gfm_see_house, gfm_see_two, gfm_size, gfm_neighbours, gfm_has_way, gfm_lay_way, gfm_lift_way, gfm_like, gfm_liking, gfm_shun, gfm_shunned, gfm_see_road, gfm_wish, gfm_wishes, gfm_rank_of, gp_houses, gp_ties, gp_shy, gp_fond, gp_longings, dSeq, dIfS, dB, dOp, dVar, dCB, dCons, dNil, dRet, dRetN, dNext, dC, dAsg, dgN, dgT, dgSeq, dDrop, dCont, dAndT, dOrT, dNotT, dAndV, dOrV, dNotV, dIf, dIsN, dNotN, dNeg, dLst, dTup, dNewI, dCall, dMeth, dMake, dRaise, dFrz, dIsi, isiK, tyS, inst_NoneType_bool, inst_NoneType_int, inst_NoneType_str, inst_NoneType_list, inst_NoneType_tuple, inst_bool_bool, inst_bool_int, inst_bool_str, inst_bool_list, inst_bool_tuple, inst_int_bool, inst_int_int, inst_int_str, inst_int_list, inst_int_tuple, inst_str_bool, inst_str_int, inst_str_str, inst_str_list, inst_str_tuple, inst_list_bool, inst_list_int, inst_list_str, inst_list_list, inst_list_tuple, inst_tuple_bool, inst_tuple_int, inst_tuple_str, inst_tuple_list, inst_tuple_tuple, iiD, iiD0, subD, mulD, fdivD, modD, shrD, pow_10_6, pow_10_60, ltI, leI, gtI, geI, addI, addD, catD, scatD, lenD, lenS, ixD, ixL, ixLK, ixK, vl, vm, newL, i2D, absD, tupleD, dLM, dLM0, dFld, getF, dGet1, dGet2, getK, dSetIx, rng1, rng2, dFor1, dFor2, dFor, dForK, eqR, rs, dstart, List.map_cons, List.map_nil, List.length_cons, List.length_nil, List.cons_append, List.nil_append, List.replicate, List.getElem?_cons_zero, List.getElem?_cons_succ, List.set_cons_zero, List.set_cons_succ, Option.isSome_some, Option.isNone_some, Option.isNone_none, Nat.add_one_sub_one, Nat.reduceAdd, Nat.reduceSub, Nat.sub_self, Nat.sub_zero, Bool.not_true, Bool.not_false, ↓reduceIte, Bool.false_eq_true, Bool.true_eq_false, okD_int, okD_bl, okD_non, dEq_int, dEq_bl, Bool.true_xor, Bool.false_xor, Bool.not_eq_true', decide_eq_true_eq, decide_eq_false_iff_not, true_and, Bool.and_true, Bool.and_false, Bool.true_and, Bool.false_and, at_0, at_1, at_2, cast0, cast1, cast2, cast3, not_true_eq_false, not_false_eq_true, eL, Option.map_some, Option.map_none, dSlL, slk, doNone, doSome, sortedTD, dLenSet, lsk, at2, sorted_snoc]
    have l2 := nb_len s.n (relPut s.T x y) y
    refine ⟨by omega, by rw [List.length_map]; omega, setD_at g'.t h2.1 (by rw [List.length_map, nbs_len]; exact h2.2) ?_⟩
    have e2 : ((nbs s.n (relPut s.T x y)).map eR).set y.toNat (.lst ((sortI (nb s.n (relPut s.T x y) y ++ [x])).map .int)) = (nbs s.n (s.lay x y).T).map eR := by
      rw [show D.lst ((sortI (nb s.n (relPut s.T x y) y ++ [x])).map .int) = eR (sortI (nb s.n (relPut s.T x y) y ++ [x])) from rfl, map_set', nbs_set h2.1 (nb_put h1.1 h1.2 hyx' (R' := (s.lay x y).T) fun z _ _ => by simp [relPut, GS.lay]) fun u v hu => by simp [relPut, GS.lay, hu]]
    have g2 := g'.setT (s.lay x y).T
    dsimp only at g2 ⊢
    rw [e2]
    refine nx_of (q3 _ g2 fun b hb => ?_)
    rw [su_out mem_all_t b hb, su_out mem_all_t b hb]

end DL
namespace DL
open PySem L2
def t_Guild_like (K : PySem.W.Frag) (a : CA) (W : WD) : TDS :=
  (dSeq (dDrop (dMeth a.Guild "see_house" (sp_Guild_see_house a) W (dVar 0) (dCons (dVar 1) dNil)))
  (dSeq (dDrop (dMeth a.Guild "see_house" (sp_Guild_see_house a) W (dVar 0) (dCons (dVar 2) dNil)))
  (dSetIx (dFld a.Guild "fond" (dVar 0)) (dTup (dCons (dVar 1) (dCons (dVar 2) dNil))) (dVar 3))))
abbrev N_Guild_like : List Str := ["self", "a", "b", "rank"]
def sp_Guild_like (a : CA) : DSp := fun ds S P E => ∃ (A : GA) (s : GS) (m : Nat) (x y r : Int), ds = [.ref A.g, .int x, .int y, .int r] ∧ GAt a S A s m ∧ m < 1000000 ∧
  (¬ (s.ok x ∧ s.ok y) → E a.NoHouse S) ∧ (s.ok x → s.ok y → ∀ S', GAt a S' A (s.like x y r) (m + 1) → (∀ b, b ∉ A.all → S' b = S b) → P .non S')
theorem len_Guild_like (a : CA) (ds : List D) (S : Sto) (Q : D → Sto → Prop) (E : Addr → Sto → Prop) (h : sp_Guild_like a ds S Q E) : ds.length = ["self", "a", "b", "rank"].length := by
  obtain ⟨_, _, _, _, _, _, rfl, _⟩ := h; rfl
theorem read_Guild_like (K : PySem.W.Frag) (a : CA) (ds : List D) (S : Sto) (Q : D → Sto → Prop) (E : Addr → Sto → Prop) (h : sp_Guild_like a ds S Q E) : t_Guild_like K a (wishOf E) (endsOf Q) (dstart N_Guild_like ds) S := by
  obtain ⟨A, s, m, x, y, r, rfl, g, hm, q1, q2⟩ := h
  simp only [t_Guild_like, N_Guild_like, dSeq, dIfS, dB, dOp, dVar, dCB, dCons, dNil, dRet, dRetN, dNext, dC, dAsg, dgN, dgT, dgSeq, dDrop, dCont, dAndT, dOrT, dNotT, dAndV, dOrV, dNotV, dIf, dIsN, dNotN, dNeg, dLst, dTup, dNewI, dCall, dMeth, dMake, dRaise, dFrz, dIsi, isiK, tyS, inst_NoneType_bool, inst_NoneType_int, inst_NoneType_str, inst_NoneType_list, inst_NoneType_tuple, inst_bool_bool, inst_bool_int, inst_bool_str, inst_bool_list, inst_bool_tuple, inst_int_bool, inst_int_int, inst_int_str, inst_int_list, inst_int_tuple, inst_str_bool, inst_str_int, inst_str_str, inst_str_list, inst_str_tuple, inst_list_bool, inst_list_int, inst_list_str, inst_list_list, inst_list_tuple, inst_tuple_bool, inst_tuple_int, inst_tuple_str, inst_tuple_list, inst_tuple_tuple, iiD, iiD0, subD, mulD, fdivD, modD, shrD, pow_10_6, pow_10_60, ltI, leI, gtI, geI, addI, addD, catD, scatD, lenD, lenS, ixD, ixL, ixLK, ixK, vl, vm, newL, i2D, absD, tupleD, dLM, dLM0, dFld, getF, dGet1, dGet2, getK, dSetIx, rng1, rng2, dFor1, dFor2, dFor, dForK, eqR, rs, dstart, List.map_cons, List.map_nil, List.length_cons, List.length_nil, List.cons_append, List.nil_append, List.replicate, List.getElem?_cons_zero, List.getElem?_cons_succ, List.set_cons_zero, List.set_cons_succ, Option.isSome_some, Option.isNone_some, Option.isNone_none, Nat.add_one_sub_one, Nat.reduceAdd, Nat.reduceSub, Nat.sub_self, Nat.sub_zero, Bool.not_true, Bool.not_false, ↓reduceIte, Bool.false_eq_true, Bool.true_eq_false, okD_int, okD_bl, okD_non, dEq_int, dEq_bl, Bool.true_xor, Bool.false_xor, Bool.not_eq_true', decide_eq_true_eq, decide_eq_false_iff_not, true_and, Bool.and_true, Bool.and_false, Bool.true_and, Bool.false_and, at_0, at_1, at_2, cast0, cast1, cast2, cast3, not_true_eq_false, not_false_eq_true, eL, Option.map_some, Option.map_none, dSlL, slk, doNone, doSome, sortedTD, dLenSet, lsk, g.g, onIns, gf_houses, gf_ties, gf_shy, gf_fond, gf_longings, gfm_see_house, gfm_see_two, gfm_size, gfm_neighbours, gfm_has_way, gfm_lay_way, gfm_lift_way, gfm_like, gfm_liking, gfm_shun, gfm_shunned, gfm_see_road, gfm_wish, gfm_wishes, gfm_rank_of, gp_houses, gp_ties, gp_shy, gp_fond, gp_longings]
  refine x_Guild_see_house g (fun h1 => ?_) fun h1 => wish_of (q1 fun z => h1 z.1)
  simp only [g.g, onIns, gf_houses, gf_ties, gf_shy, gf_fond, gf_longings, gfm_see_house, gfm_see_two, gfm_size, gfm_neighbours, gfm_has_way, gfm_lay_way, gfm_lift_way, gfm_like, gfm_liking, gfm_shun, gfm_shunned, gfm_see_road, gfm_wish, gfm_wishes, gfm_rank_of, gp_houses, gp_ties, gp_shy, gp_fond, gp_longings, true_and]
  refine x_Guild_see_house g (fun h2 => ?_) fun h2 => wish_of (q1 fun z => h2 z.2)
  obtain ⟨fl, f1, f2, f3⟩ := g.f
  simp only [g.g, onIns, gf_houses, gf_ties, gf_shy, gf_fond, gf_longings, gfm_see_house, gfm_see_two, gfm_size, gfm_neighbours, gfm_has_way, gfm_lay_way, gfm_lift_way, gfm_like, gfm_liking, gfm_shun, gfm_shunned, gfm_see_road, gfm_wish, gfm_wishes, gfm_rank_of, gp_houses, gp_ties, gp_shy, gp_fond, gp_longings, dSeq, dIfS, dB, dOp, dVar, dCB, dCons, dNil, dRet, dRetN, dNext, dC, dAsg, dgN, dgT, dgSeq, dDrop, dCont, dAndT, dOrT, dNotT, dAndV, dOrV, dNotV, dIf, dIsN, dNotN, dNeg, dLst, dTup, dNewI, dCall, dMeth, dMake, dRaise, dFrz, dIsi, isiK, tyS, inst_NoneType_bool, inst_NoneType_int, inst_NoneType_str, inst_NoneType_list, inst_NoneType_tuple, inst_bool_bool, inst_bool_int, inst_bool_str, inst_bool_list, inst_bool_tuple, inst_int_bool, inst_int_int, inst_int_str, inst_int_list, inst_int_tuple, inst_str_bool, inst_str_int, inst_str_str, inst_str_list, inst_str_tuple, inst_list_bool, inst_list_int, inst_list_str, inst_list_list, inst_list_tuple, inst_tuple_bool, inst_tuple_int, inst_tuple_str, inst_tuple_list, inst_tuple_tuple, iiD, iiD0, subD, mulD, fdivD, modD, shrD, pow_10_6, pow_10_60, ltI, leI, gtI, geI, addI, addD, catD, scatD, lenD, lenS, ixD, ixL, ixLK, ixK, vl, vm, newL, i2D, absD, tupleD, dLM, dLM0, dFld, getF, dGet1, dGet2, getK, dSetIx, rng1, rng2, dFor1, dFor2, dFor, dForK, eqR, rs, dstart, List.map_cons, List.map_nil, List.length_cons, List.length_nil, List.cons_append, List.nil_append, List.replicate, List.getElem?_cons_zero, List.getElem?_cons_succ, List.set_cons_zero, List.set_cons_succ, Option.isSome_some, Option.isNone_some, Option.isNone_none, Nat.add_one_sub_one, Nat.reduceAdd, Nat.reduceSub, Nat.sub_self, Nat.sub_zero, Bool.not_true, Bool.not_false, ↓reduceIte, Bool.false_eq_true, Bool.true_eq_false, okD_int, okD_bl, okD_non, dEq_int, dEq_bl, Bool.true_xor, Bool.false_xor, Bool.not_eq_true', decide_eq_true_eq, decide_eq_false_iff_not, true_and, Bool.and_true, Bool.and_false, Bool.true_and, Bool.false_and, at_0, at_1, at_2, cast0, cast1, cast2, cast3, not_true_eq_false, not_false_eq_true, eL, Option.map_some, Option.map_none, dSlL, slk, doNone, doSome, sortedTD, dLenSet, lsk]
  refine ⟨by decide, setD_key (k := [x, y]) f1 (by simp [sizeLine]; omega) (nx_of (q2 h1 h2 _ ?_ ?_))⟩
  · refine g.setF (fun u v => ?_) (Nat.le_trans (dput_len _ _ _) (Nat.succ_le_succ f3))
    rw [dput_k, dget_k, kget_put]
    by_cases c : u = x ∧ v = y
    · rw [if_pos (by rw [c.1, c.2]), if_pos c]; rfl
    · rw [if_neg (fun z => c (by injection z with z1 z2; injection z2 with z2; exact ⟨z1, z2⟩)), if_neg c, ← dget_k]; exact f2 u v
  · exact su_out mem_all_f

end DL
namespace DL
open PySem L2
def t_Guild_liking (K : PySem.W.Frag) (a : CA) (W : WD) : TDS :=
  (dSeq (dDrop (dMeth a.Guild "see_house" (sp_Guild_see_house a) W (dVar 0) (dCons (dVar 1) dNil)))
  (dSeq (dDrop (dMeth a.Guild "see_house" (sp_Guild_see_house a) W (dVar 0) (dCons (dVar 2) dNil)))
  (dRet (dGet2 (dFld a.Guild "fond" (dVar 0)) (dTup (dCons (dVar 1) (dCons (dVar 2) dNil))) (dC (.int 0))))))
abbrev N_Guild_liking : List Str := ["self", "a", "b"]
def sp_Guild_liking (a : CA) : DSp := fun ds S P E => ∃ (A : GA) (s : GS) (m : Nat) (x y : Int), ds = [.ref A.g, .int x, .int y] ∧ GAt a S A s m ∧ (s.ok x ∧ s.ok y → P (.int (s.F x y)) S) ∧ (¬ (s.ok x ∧ s.ok y) → E a.NoHouse S)
theorem len_Guild_liking (a : CA) (ds : List D) (S : Sto) (Q : D → Sto → Prop) (E : Addr → Sto → Prop) (h : sp_Guild_liking a ds S Q E) : ds.length = ["self", "a", "b"].length := by
  obtain ⟨_, _, _, _, _, rfl, _⟩ := h; rfl
theorem read_Guild_liking (K : PySem.W.Frag) (a : CA) (ds : List D) (S : Sto) (Q : D → Sto → Prop) (E : Addr → Sto → Prop) (h : sp_Guild_liking a ds S Q E) : t_Guild_liking K a (wishOf E) (endsOf Q) (dstart N_Guild_liking ds) S := by
  obtain ⟨A, s, m, x, y, rfl, g, q1, q2⟩ := h
  simp only [t_Guild_liking, N_Guild_liking, dSeq, dIfS, dB, dOp, dVar, dCB, dCons, dNil, dRet, dRetN, dNext, dC, dAsg, dgN, dgT, dgSeq, dDrop, dCont, dAndT, dOrT, dNotT, dAndV, dOrV, dNotV, dIf, dIsN, dNotN, dNeg, dLst, dTup, dNewI, dCall, dMeth, dMake, dRaise, dFrz, dIsi, isiK, tyS, inst_NoneType_bool, inst_NoneType_int, inst_NoneType_str, inst_NoneType_list, inst_NoneType_tuple, inst_bool_bool, inst_bool_int, inst_bool_str, inst_bool_list, inst_bool_tuple, inst_int_bool, inst_int_int, inst_int_str, inst_int_list, inst_int_tuple, inst_str_bool, inst_str_int, inst_str_str, inst_str_list, inst_str_tuple, inst_list_bool, inst_list_int, inst_list_str, inst_list_list, inst_list_tuple, inst_tuple_bool, inst_tuple_int, inst_tuple_str, inst_tuple_list, inst_tuple_tuple, iiD, iiD0, subD, mulD, fdivD, modD, shrD, pow_10_6, pow_10_60, ltI, leI, gtI, geI, addI, addD, catD, scatD, lenD, lenS, ixD, ixL, ixLK, ixK, vl, vm, newL, i2D, absD, tupleD, dLM, dLM0, dFld, getF, dGet1, dGet2, getK, dSetIx, rng1, rng2, dFor1, dFor2, dFor, dForK, eqR, rs, dstart, List.map_cons, List.map_nil, List.length_cons, List.length_nil, List.cons_append, List.nil_append, List.replicate, List.getElem?_cons_zero, List.getElem?_cons_succ, List.set_cons_zero, List.set_cons_succ, Option.isSome_some, Option.isNone_some, Option.isNone_none, Nat.add_one_sub_one, Nat.reduceAdd, Nat.reduceSub, Nat.sub_self, Nat.sub_zero, Bool.not_true, Bool.not_false, ↓reduceIte, Bool.false_eq_true, Bool.true_eq_false, okD_int, okD_bl, okD_non, dEq_int, dEq_bl, Bool.true_xor, Bool.false_xor, Bool.not_eq_true', decide_eq_true_eq, decide_eq_false_iff_not, true_and, Bool.and_true, Bool.and_false, Bool.true_and, Bool.false_and, at_0, at_1, at_2, cast0, cast1, cast2, cast3, not_true_eq_false, not_false_eq_true, eL, Option.map_some, Option.map_none, dSlL, slk, doNone, doSome, sortedTD, dLenSet, lsk, g.g, onIns, gf_houses, gf_ties, gf_shy, gf_fond, gf_longings, gfm_see_house, gfm_see_two, gfm_size, gfm_neighbours, gfm_has_way, gfm_lay_way, gfm_lift_way, gfm_like, gfm_liking, gfm_shun, gfm_shunned, gfm_see_road, gfm_wish, gfm_wishes, gfm_rank_of, gp_houses, gp_ties, gp_shy, gp_fond, gp_longings]
  refine x_Guild_see_house g (fun h1 => ?_) fun h1 => wish_of (q2 fun z => h1 z.1)
  simp only [g.g, onIns, gf_houses, gf_ties, gf_shy, gf_fond, gf_longings, gfm_see_house, gfm_see_two, gfm_size, gfm_neighbours, gfm_has_way, gfm_lay_way, gfm_lift_way, gfm_like, gfm_liking, gfm_shun, gfm_shunned, gfm_see_road, gfm_wish, gfm_wishes, gfm_rank_of, gp_houses, gp_ties, gp_shy, gp_fond, gp_longings, true_and]
  refine x_Guild_see_house g (fun h2 => ?_) fun h2 => wish_of (q2 fun z => h2 z.2)
  obtain ⟨fl, f1, f2, f3⟩ := g.f
  have e : dgetS S (.ref A.f) (.tup [.int x, .int y]) = some (dget fl [x, y]) := by simp only [dgetS, f1]; rfl
  simp only [g.g, onIns, gf_houses, gf_ties, gf_shy, gf_fond, gf_longings, gfm_see_house, gfm_see_two, gfm_size, gfm_neighbours, gfm_has_way, gfm_lay_way, gfm_lift_way, gfm_like, gfm_liking, gfm_shun, gfm_shunned, gfm_see_road, gfm_wish, gfm_wishes, gfm_rank_of, gp_houses, gp_ties, gp_shy, gp_fond, gp_longings, dSeq, dIfS, dB, dOp, dVar, dCB, dCons, dNil, dRet, dRetN, dNext, dC, dAsg, dgN, dgT, dgSeq, dDrop, dCont, dAndT, dOrT, dNotT, dAndV, dOrV, dNotV, dIf, dIsN, dNotN, dNeg, dLst, dTup, dNewI, dCall, dMeth, dMake, dRaise, dFrz, dIsi, isiK, tyS, inst_NoneType_bool, inst_NoneType_int, inst_NoneType_str, inst_NoneType_list, inst_NoneType_tuple, inst_bool_bool, inst_bool_int, inst_bool_str, inst_bool_list, inst_bool_tuple, inst_int_bool, inst_int_int, inst_int_str, inst_int_list, inst_int_tuple, inst_str_bool, inst_str_int, inst_str_str, inst_str_list, inst_str_tuple, inst_list_bool, inst_list_int, inst_list_str, inst_list_list, inst_list_tuple, inst_tuple_bool, inst_tuple_int, inst_tuple_str, inst_tuple_list, inst_tuple_tuple, iiD, iiD0, subD, mulD, fdivD, modD, shrD, pow_10_6, pow_10_60, ltI, leI, gtI, geI, addI, addD, catD, scatD, lenD, lenS, ixD, ixL, ixLK, ixK, vl, vm, newL, i2D, absD, tupleD, dLM, dLM0, dFld, getF, dGet1, dGet2, getK, dSetIx, rng1, rng2, dFor1, dFor2, dFor, dForK, eqR, rs, dstart, List.map_cons, List.map_nil, List.length_cons, List.length_nil, List.cons_append, List.nil_append, List.replicate, List.getElem?_cons_zero, List.getElem?_cons_succ, List.set_cons_zero, List.set_cons_succ, Option.isSome_some, Option.isNone_some, Option.isNone_none, Nat.add_one_sub_one, Nat.reduceAdd, Nat.reduceSub, Nat.sub_self, Nat.sub_zero, Bool.not_true, Bool.not_false, ↓reduceIte, Bool.false_eq_true, Bool.true_eq_false, okD_int, okD_bl, okD_non, dEq_int, dEq_bl, Bool.true_xor, Bool.false_xor, Bool.not_eq_true', decide_eq_true_eq, decide_eq_false_iff_not, true_and, Bool.and_true, Bool.and_false, Bool.true_and, Bool.false_and, at_0, at_1, at_2, cast0, cast1, cast2, cast3, not_true_eq_false, not_false_eq_true, eL, Option.map_some, Option.map_none, dSlL, slk, doNone, doSome, sortedTD, dLenSet, lsk, e, isDS, f1, f2]
  exact ⟨by decide, rt_of (q1 ⟨h1, h2⟩)⟩
theorem x_Guild_liking {a : CA} {A : GA} {s : GS} {m : Nat} {x y : Int} {S : Sto} {P : D → Sto → Prop} {E : Addr → Sto → Prop} (g : GAt a S A s m) (h1 : s.ok x) (h2 : s.ok y) (q : P (.int (s.F x y)) S) : sp_Guild_liking a [.ref A.g, .int x, .int y] S P E := ⟨A, s, m, x, y, rfl, g, fun _ => q, fun z => absurd ⟨h1, h2⟩ z⟩

end DL
namespace DL
open PySem L2
def t_Guild_shun (K : PySem.W.Frag) (a : CA) (W : WD) : TDS :=
  (dSeq (dDrop (dMeth a.Guild "see_two" (sp_Guild_see_two a) W (dVar 0) (dCons (dVar 1) (dCons (dVar 2) dNil))))
  (dIfS (dB (dOp (inR true) (dVar 2) (dOp ixD (dFld a.Guild "shy" (dVar 0)) (dVar 1))))
    (dSetIx (dFld a.Guild "shy" (dVar 0)) (dVar 1) (dCB (sortedD false) (dCons (dOp (addD false) (dOp ixD (dFld a.Guild "shy" (dVar 0)) (dVar 1)) (dLst false (dCons (dVar 2) dNil))) dNil)))
    dNext))
abbrev N_Guild_shun : List Str := ["self", "a", "b"]
def sp_Guild_shun (a : CA) : DSp := fun ds S P E => ∃ (A : GA) (s : GS) (m : Nat) (x y : Int), ds = [.ref A.g, .int x, .int y] ∧ GAt a S A s m ∧
  (¬ s.ok2 x y → E a.NoHouse S) ∧ (s.ok2 x y → ∀ S', GAt a S' A (s.shun x y) m → (∀ b, b ∉ A.all → S' b = S b) → P .non S')
theorem len_Guild_shun (a : CA) (ds : List D) (S : Sto) (Q : D → Sto → Prop) (E : Addr → Sto → Prop) (h : sp_Guild_shun a ds S Q E) : ds.length = ["self", "a", "b"].length := by
  obtain ⟨_, _, _, _, _, rfl, _⟩ := h; rfl
theorem read_Guild_shun (K : PySem.W.Frag) (a : CA) (ds : List D) (S : Sto) (Q : D → Sto → Prop) (E : Addr → Sto → Prop) (h : sp_Guild_shun a ds S Q E) : t_Guild_shun K a (wishOf E) (endsOf Q) (dstart N_Guild_shun ds) S := by
  obtain ⟨A, s, m, x, y, rfl, g, q1, q3⟩ := h
  simp only [t_Guild_shun, N_Guild_shun, dSeq, dIfS, dB, dOp, dVar, dCB, dCons, dNil, dRet, dRetN, dNext, dC, dAsg, dgN, dgT, dgSeq, dDrop, dCont, dAndT, dOrT, dNotT, dAndV, dOrV, dNotV, dIf, dIsN, dNotN, dNeg, dLst, dTup, dNewI, dCall, dMeth, dMake, dRaise, dFrz, dIsi, isiK, tyS, inst_NoneType_bool, inst_NoneType_int, inst_NoneType_str, inst_NoneType_list, inst_NoneType_tuple, inst_bool_bool, inst_bool_int, inst_bool_str, inst_bool_list, inst_bool_tuple, inst_int_bool, inst_int_int, inst_int_str, inst_int_list, inst_int_tuple, inst_str_bool, inst_str_int, inst_str_str, inst_str_list, inst_str_tuple, inst_list_bool, inst_list_int, inst_list_str, inst_list_list, inst_list_tuple, inst_tuple_bool, inst_tuple_int, inst_tuple_str, inst_tuple_list, inst_tuple_tuple, iiD, iiD0, subD, mulD, fdivD, modD, shrD, pow_10_6, pow_10_60, ltI, leI, gtI, geI, addI, addD, catD, scatD, lenD, lenS, ixD, ixL, ixLK, ixK, vl, vm, newL, i2D, absD, tupleD, dLM, dLM0, dFld, getF, dGet1, dGet2, getK, dSetIx, rng1, rng2, dFor1, dFor2, dFor, dForK, eqR, rs, dstart, List.map_cons, List.map_nil, List.length_cons, List.length_nil, List.cons_append, List.nil_append, List.replicate, List.getElem?_cons_zero, List.getElem?_cons_succ, List.set_cons_zero, List.set_cons_succ, Option.isSome_some, Option.isNone_some, Option.isNone_none, Nat.add_one_sub_one, Nat.reduceAdd, Nat.reduceSub, Nat.sub_self, Nat.sub_zero, Bool.not_true, Bool.not_false, ↓reduceIte, Bool.false_eq_true, Bool.true_eq_false, okD_int, okD_bl, okD_non, dEq_int, dEq_bl, Bool.true_xor, Bool.false_xor, Bool.not_eq_true', decide_eq_true_eq, decide_eq_false_iff_not, true_and, Bool.and_true, Bool.and_false, Bool.true_and, Bool.false_and, at_0, at_1, at_2, cast0, cast1, cast2, cast3, not_true_eq_false, not_false_eq_true, eL, Option.map_some, Option.map_none, dSlL, slk, doNone, doSome, sortedTD, dLenSet, lsk, g.g, onIns, gf_houses, gf_ties, gf_shy, gf_fond, gf_longings, gfm_see_house, gfm_see_two, gfm_size, gfm_neighbours, gfm_has_way, gfm_lay_way, gfm_lift_way, gfm_like, gfm_liking, gfm_shun, gfm_shunned, gfm_see_road, gfm_wish, gfm_wishes, gfm_rank_of, gp_houses, gp_ties, gp_shy, gp_fond, gp_longings]
  refine ⟨A, s, m, x, y, rfl, g, fun h => ?_, fun h => wish_of (q1 h)⟩
  have h1 := h.1
  have h2 := h.2.1
  have hs : sizeLine = 2 ^ 24 := rfl
  have n2 := g.n2
  simp only [g.g, g.h, onIns, gf_houses, gf_ties, gf_shy, gf_fond, gf_longings, gfm_see_house, gfm_see_two, gfm_size, gfm_neighbours, gfm_has_way, gfm_lay_way, gfm_lift_way, gfm_like, gfm_liking, gfm_shun, gfm_shunned, gfm_see_road, gfm_wish, gfm_wishes, gfm_rank_of, gp_houses, gp_ties, gp_shy, gp_fond, gp_longings, dSeq, dIfS, dB, dOp, dVar, dCB, dCons, dNil, dRet, dRetN, dNext, dC, dAsg, dgN, dgT, dgSeq, dDrop, dCont, dAndT, dOrT, dNotT, dAndV, dOrV, dNotV, dIf, dIsN, dNotN, dNeg, dLst, dTup, dNewI, dCall, dMeth, dMake, dRaise, dFrz, dIsi, isiK, tyS, inst_NoneType_bool, inst_NoneType_int, inst_NoneType_str, inst_NoneType_list, inst_NoneType_tuple, inst_bool_bool, inst_bool_int, inst_bool_str, inst_bool_list, inst_bool_tuple, inst_int_bool, inst_int_int, inst_int_str, inst_int_list, inst_int_tuple, inst_str_bool, inst_str_int, inst_str_str, inst_str_list, inst_str_tuple, inst_list_bool, inst_list_int, inst_list_str, inst_list_list, inst_list_tuple, inst_tuple_bool, inst_tuple_int, inst_tuple_str, inst_tuple_list, inst_tuple_tuple, iiD, iiD0, subD, mulD, fdivD, modD, shrD, pow_10_6, pow_10_60, ltI, leI, gtI, geI, addI, addD, catD, scatD, lenD, lenS, ixD, ixL, ixLK, ixK, vl, vm, newL, i2D, absD, tupleD, dLM, dLM0, dFld, getF, dGet1, dGet2, getK, dSetIx, rng1, rng2, dFor1, dFor2, dFor, dForK, eqR, rs, dstart, List.map_cons, List.map_nil, List.length_cons, List.length_nil, List.cons_append, List.nil_append, List.replicate, List.getElem?_cons_zero, List.getElem?_cons_succ, List.set_cons_zero, List.set_cons_succ, Option.isSome_some, Option.isNone_some, Option.isNone_none, Nat.add_one_sub_one, Nat.reduceAdd, Nat.reduceSub, Nat.sub_self, Nat.sub_zero, Bool.not_true, Bool.not_false, ↓reduceIte, Bool.false_eq_true, Bool.true_eq_false, okD_int, okD_bl, okD_non, dEq_int, dEq_bl, Bool.true_xor, Bool.false_xor, Bool.not_eq_true', decide_eq_true_eq, decide_eq_false_iff_not, true_and, Bool.and_true, Bool.and_false, Bool.true_and, Bool.false_and, at_0, at_1, at_2, cast0, cast1, cast2, cast3, not_true_eq_false, not_false_eq_true, eL, Option.map_some, Option.map_none, dSlL, slk, doNone, doSome, sortedTD, dLenSet, lsk, nbs_at h1.1 h1.2, inR, inL, any_int, mem_nb h2]
  refine ⟨okD_R _, ?_⟩
  cases c : s.H x y with
  | true =>
    try rw [if_neg (by decide)]
    refine nx_of (q3 h S (g.eq rfl (fun _ _ _ _ _ _ => rfl) (fun u v _ _ _ _ => ?_) rfl rfl) fun _ _ => rfl)
    show s.H u v = (s.H u v || (decide (u = x) && decide (v = y)))
    by_cases e : u = x ∧ v = y
    · rw [e.1, e.2, c]; rfl
    · have : (decide (u = x) && decide (v = y)) = false := by
        rw [Bool.eq_false_iff]; intro z; simp only [Bool.and_eq_true, decide_eq_true_eq] at z; exact e z
      rw [this, Bool.or_false]
  | false =>
    simp only [g.g, g.h, onIns, gf_houses, gf_ties, gf_shy, gf_fond, gf_longings, gfm_see_house, gfm_see_two, gfm_size, gfm_neighbours, gfm_has_way, gfm_lay_way, gfm_lift_way, gfm_like, gfm_liking, gfm_shun, gfm_shunned, gfm_see_road, gfm_wish, gfm_wishes, gfm_rank_of, gp_houses, gp_ties, gp_shy, gp_fond, gp_longings, dSeq, dIfS, dB, dOp, dVar, dCB, dCons, dNil, dRet, dRetN, dNext, dC, dAsg, dgN, dgT, dgSeq, dDrop, dCont, dAndT, dOrT, dNotT, dAndV, dOrV, dNotV, dIf, dIsN, dNotN, dNeg, dLst, dTup, dNewI, dCall, dMeth, dMake, dRaise, dFrz, dIsi, isiK, tyS, inst_NoneType_bool, inst_NoneType_int, inst_NoneType_str, inst_NoneType_list, inst_NoneType_tuple, inst_bool_bool, inst_bool_int, inst_bool_str, inst_bool_list, inst_bool_tuple, inst_int_bool, inst_int_int, inst_int_str, inst_int_list, inst_int_tuple, inst_str_bool, inst_str_int, inst_str_str, inst_str_list, inst_str_tuple, inst_list_bool, inst_list_int, inst_list_str, inst_list_list, inst_list_tuple, inst_tuple_bool, inst_tuple_int, inst_tuple_str, inst_tuple_list, inst_tuple_tuple, iiD, iiD0, subD, mulD, fdivD, modD, shrD, pow_10_6, pow_10_60, ltI, leI, gtI, geI, addI, addD, catD, scatD, lenD, lenS, ixD, ixL, ixLK, ixK, vl, vm, newL, i2D, absD, tupleD, dLM, dLM0, dFld, getF, dGet1, dGet2, getK, dSetIx, rng1, rng2, dFor1, dFor2, dFor, dForK, eqR, rs, dstart, List.map_cons, List.map_nil, List.length_cons, List.length_nil, List.cons_append, List.nil_append, List.replicate, List.getElem?_cons_zero, List.getElem?_cons_succ, List.set_cons_zero, List.set_cons_succ, Option.isSome_some, Option.isNone_some, Option.isNone_none, Nat.add_one_sub_one, Nat.reduceAdd, Nat.reduceSub, Nat.sub_self, Nat.sub_zero, Bool.not_true, Bool.not_false, ↓reduceIte, Bool.false_eq_true, Bool.true_eq_false, okD_int, okD_bl, okD_non, dEq_int, dEq_bl, Bool.true_xor, Bool.false_xor, Bool.not_eq_true', decide_eq_true_eq, decide_eq_false_iff_not, true_and, Bool.and_true, Bool.and_false, Bool.true_and, Bool.false_and, at_0, at_1, at_2, cast0, cast1, cast2, cast3, not_true_eq_false, not_false_eq_true, eL, Option.map_some, Option.map_none, dSlL, slk, doNone, doSome, sortedTD, dLenSet, lsk, nbs_at h1.1 h1.2, sorted_snoc]
    have l1 := nb_len s.n s.H x
    refine ⟨by omega, by rw [List.length_map]; omega, setD_at g.h h1.1 (by rw [List.length_map, nbs_len]; exact h1.2) ?_⟩
    have e1 : ((nbs s.n s.H).map eR).set x.toNat (.lst ((sortI (nb s.n s.H x ++ [y])).map .int)) = (nbs s.n (relPut s.H x y)).map eR := by
      rw [show D.lst ((sortI (nb s.n s.H x ++ [y])).map .int) = eR (sortI (nb s.n s.H x ++ [y])) from rfl, map_set', nbs_set h1.1 (nb_put h2.1 h2.2 c (R' := relPut s.H x y) fun z _ _ => by simp [relPut]) fun u v hu => by simp [relPut, hu]]
    rw [e1]
    exact nx_of (q3 h _ (g.setH (relPut s.H x y)) (su_out mem_all_h))

end DL
namespace DL
open PySem L2
def t_Guild_shunned (K : PySem.W.Frag) (a : CA) (W : WD) : TDS :=
  (dSeq (dDrop (dMeth a.Guild "see_house" (sp_Guild_see_house a) W (dVar 0) (dCons (dVar 1) dNil)))
  (dRet (dCB (listD false) (dCons (dOp ixD (dFld a.Guild "shy" (dVar 0)) (dVar 1)) dNil))))
abbrev N_Guild_shunned : List Str := ["self", "a"]
def sp_Guild_shunned (a : CA) : DSp := fun ds S P E => ∃ (A : GA) (s : GS) (m : Nat) (x : Int), ds = [.ref A.g, .int x] ∧ GAt a S A s m ∧ (s.ok x → P (.lst ((nb s.n s.H x).map .int)) S) ∧ (¬ s.ok x → E a.NoHouse S)
theorem len_Guild_shunned (a : CA) (ds : List D) (S : Sto) (Q : D → Sto → Prop) (E : Addr → Sto → Prop) (h : sp_Guild_shunned a ds S Q E) : ds.length = ["self", "a"].length := by
  obtain ⟨_, _, _, _, rfl, _⟩ := h; rfl
theorem read_Guild_shunned (K : PySem.W.Frag) (a : CA) (ds : List D) (S : Sto) (Q : D → Sto → Prop) (E : Addr → Sto → Prop) (h : sp_Guild_shunned a ds S Q E) : t_Guild_shunned K a (wishOf E) (endsOf Q) (dstart N_Guild_shunned ds) S := by
  obtain ⟨A, s, m, x, rfl, g, q1, q2⟩ := h
  simp only [t_Guild_shunned, N_Guild_shunned, dSeq, dIfS, dB, dOp, dVar, dCB, dCons, dNil, dRet, dRetN, dNext, dC, dAsg, dgN, dgT, dgSeq, dDrop, dCont, dAndT, dOrT, dNotT, dAndV, dOrV, dNotV, dIf, dIsN, dNotN, dNeg, dLst, dTup, dNewI, dCall, dMeth, dMake, dRaise, dFrz, dIsi, isiK, tyS, inst_NoneType_bool, inst_NoneType_int, inst_NoneType_str, inst_NoneType_list, inst_NoneType_tuple, inst_bool_bool, inst_bool_int, inst_bool_str, inst_bool_list, inst_bool_tuple, inst_int_bool, inst_int_int, inst_int_str, inst_int_list, inst_int_tuple, inst_str_bool, inst_str_int, inst_str_str, inst_str_list, inst_str_tuple, inst_list_bool, inst_list_int, inst_list_str, inst_list_list, inst_list_tuple, inst_tuple_bool, inst_tuple_int, inst_tuple_str, inst_tuple_list, inst_tuple_tuple, iiD, iiD0, subD, mulD, fdivD, modD, shrD, pow_10_6, pow_10_60, ltI, leI, gtI, geI, addI, addD, catD, scatD, lenD, lenS, ixD, ixL, ixLK, ixK, vl, vm, newL, i2D, absD, tupleD, dLM, dLM0, dFld, getF, dGet1, dGet2, getK, dSetIx, rng1, rng2, dFor1, dFor2, dFor, dForK, eqR, rs, dstart, List.map_cons, List.map_nil, List.length_cons, List.length_nil, List.cons_append, List.nil_append, List.replicate, List.getElem?_cons_zero, List.getElem?_cons_succ, List.set_cons_zero, List.set_cons_succ, Option.isSome_some, Option.isNone_some, Option.isNone_none, Nat.add_one_sub_one, Nat.reduceAdd, Nat.reduceSub, Nat.sub_self, Nat.sub_zero, Bool.not_true, Bool.not_false, ↓reduceIte, Bool.false_eq_true, Bool.true_eq_false, okD_int, okD_bl, okD_non, dEq_int, dEq_bl, Bool.true_xor, Bool.false_xor, Bool.not_eq_true', decide_eq_true_eq, decide_eq_false_iff_not, true_and, Bool.and_true, Bool.and_false, Bool.true_and, Bool.false_and, at_0, at_1, at_2, cast0, cast1, cast2, cast3, not_true_eq_false, not_false_eq_true, eL, Option.map_some, Option.map_none, dSlL, slk, doNone, doSome, sortedTD, dLenSet, lsk, g.g, onIns, gf_houses, gf_ties, gf_shy, gf_fond, gf_longings, gfm_see_house, gfm_see_two, gfm_size, gfm_neighbours, gfm_has_way, gfm_lay_way, gfm_lift_way, gfm_like, gfm_liking, gfm_shun, gfm_shunned, gfm_see_road, gfm_wish, gfm_wishes, gfm_rank_of, gp_houses, gp_ties, gp_shy, gp_fond, gp_longings]
  refine x_Guild_see_house g (fun h1 => ?_) fun h1 => wish_of (q2 h1)
  simp only [g.g, g.h, onIns, gf_houses, gf_ties, gf_shy, gf_fond, gf_longings, gfm_see_house, gfm_see_two, gfm_size, gfm_neighbours, gfm_has_way, gfm_lay_way, gfm_lift_way, gfm_like, gfm_liking, gfm_shun, gfm_shunned, gfm_see_road, gfm_wish, gfm_wishes, gfm_rank_of, gp_houses, gp_ties, gp_shy, gp_fond, gp_longings, dSeq, dIfS, dB, dOp, dVar, dCB, dCons, dNil, dRet, dRetN, dNext, dC, dAsg, dgN, dgT, dgSeq, dDrop, dCont, dAndT, dOrT, dNotT, dAndV, dOrV, dNotV, dIf, dIsN, dNotN, dNeg, dLst, dTup, dNewI, dCall, dMeth, dMake, dRaise, dFrz, dIsi, isiK, tyS, inst_NoneType_bool, inst_NoneType_int, inst_NoneType_str, inst_NoneType_list, inst_NoneType_tuple, inst_bool_bool, inst_bool_int, inst_bool_str, inst_bool_list, inst_bool_tuple, inst_int_bool, inst_int_int, inst_int_str, inst_int_list, inst_int_tuple, inst_str_bool, inst_str_int, inst_str_str, inst_str_list, inst_str_tuple, inst_list_bool, inst_list_int, inst_list_str, inst_list_list, inst_list_tuple, inst_tuple_bool, inst_tuple_int, inst_tuple_str, inst_tuple_list, inst_tuple_tuple, iiD, iiD0, subD, mulD, fdivD, modD, shrD, pow_10_6, pow_10_60, ltI, leI, gtI, geI, addI, addD, catD, scatD, lenD, lenS, ixD, ixL, ixLK, ixK, vl, vm, newL, i2D, absD, tupleD, dLM, dLM0, dFld, getF, dGet1, dGet2, getK, dSetIx, rng1, rng2, dFor1, dFor2, dFor, dForK, eqR, rs, dstart, List.map_cons, List.map_nil, List.length_cons, List.length_nil, List.cons_append, List.nil_append, List.replicate, List.getElem?_cons_zero, List.getElem?_cons_succ, List.set_cons_zero, List.set_cons_succ, Option.isSome_some, Option.isNone_some, Option.isNone_none, Nat.add_one_sub_one, Nat.reduceAdd, Nat.reduceSub, Nat.sub_self, Nat.sub_zero, Bool.not_true, Bool.not_false, ↓reduceIte, Bool.false_eq_true, Bool.true_eq_false, okD_int, okD_bl, okD_non, dEq_int, dEq_bl, Bool.true_xor, Bool.false_xor, Bool.not_eq_true', decide_eq_true_eq, decide_eq_false_iff_not, true_and, Bool.and_true, Bool.and_false, Bool.true_and, Bool.false_and, at_0, at_1, at_2, cast0, cast1, cast2, cast3, not_true_eq_false, not_false_eq_true, eL, Option.map_some, Option.map_none, dSlL, slk, doNone, doSome, sortedTD, dLenSet, lsk, nbs_at h1.1 h1.2, listD]
  exact rt_of (q1 h1)
theorem x_Guild_shunned {a : CA} {A : GA} {s : GS} {m : Nat} {x : Int} {S : Sto} {P : D → Sto → Prop} {E : Addr → Sto → Prop} (g : GAt a S A s m) (h : s.ok x) (q : P (.lst ((nb s.n s.H x).map .int)) S) : sp_Guild_shunned a [.ref A.g, .int x] S P E := ⟨A, s, m, x, rfl, g, fun _ => q, fun z => absurd h z⟩

end DL
namespace DL
open PySem L2
def t_Guild_see_road (K : PySem.W.Frag) (a : CA) (W : WD) : TDS :=
  (dSeq (dFor (dVar 1) (dgN 2)
    (dDrop (dMeth a.Guild "see_house" (sp_Guild_see_house a) W (dVar 0) (dCons (dVar 2) dNil))))
  (dIfS (dOrT (dB (dOp ltI (dCB lenD (dCons (dVar 1) dNil)) (dC (.int 2)))) (dOrT (dB (dOp (eqR true) (dOp ixD (dVar 1) (dNeg (dC (.int 1)))) (dC (.int 0)))) (dB (dOp (eqR true) (dLenSet (dVar 1)) (dCB lenD (dCons (dVar 1) dNil))))))
    (dRaise a.NoRoad W)
    dNext))
abbrev N_Guild_see_road : List Str := ["self", "road", "house"]
def sp_Guild_see_road (a : CA) : DSp := fun ds S P E => ∃ (A : GA) (s : GS) (m : Nat) (r : D) (l : List Int), ds = [.ref A.g, r] ∧ GAt a S A s m ∧ vm S r = some (l.map .int) ∧ l.length ≤ 4000 ∧
  (¬ (∀ x ∈ l, s.ok x) → E a.NoHouse S) ∧ ((∀ x ∈ l, s.ok x) → ¬ s.rd l → E a.NoRoad S) ∧ (s.rok l → P .non S)
theorem len_Guild_see_road (a : CA) (ds : List D) (S : Sto) (Q : D → Sto → Prop) (E : Addr → Sto → Prop) (h : sp_Guild_see_road a ds S Q E) : ds.length = ["self", "road"].length := by
  obtain ⟨_, _, _, _, _, rfl, _⟩ := h; rfl
theorem read_Guild_see_road (K : PySem.W.Frag) (a : CA) (ds : List D) (S : Sto) (Q : D → Sto → Prop) (E : Addr → Sto → Prop) (h : sp_Guild_see_road a ds S Q E) : t_Guild_see_road K a (wishOf E) (endsOf Q) (dstart N_Guild_see_road ds) S := by
  obtain ⟨A, s, m, r, l, rfl, g, hr, hl, q1, q2, q3⟩ := h
  have hv := vm_vl hr
  have e1 : kInts (l.map D.int) = some l := kInts_map l
  simp only [t_Guild_see_road, N_Guild_see_road, dSeq, dFor, dVar, List.getElem?_cons_zero, List.getElem?_cons_succ, dstart, List.map_cons, List.map_nil, List.length_cons, List.length_nil, List.cons_append, List.nil_append, List.replicate, hv, dForK, Nat.reduceAdd, Nat.reduceSub]
  have hfin : ∀ (o : Option D), (∀ x ∈ l, s.ok x) → dIfS (dOrT (dB (dOp ltI (dCB lenD (dCons (dVar 1) dNil)) (dC (D.int 2)))) (dOrT (dB (dOp (eqR true) (dOp ixD (dVar 1) (dNeg (dC (D.int 1)))) (dC (D.int 0)))) (dB (dOp (eqR true) (dLenSet (dVar 1)) (dCB lenD (dCons (dVar 1) dNil)))))) (dRaise a.NoRoad (wishOf E)) dNext (endsOf Q) [some (.ref A.g), some r, o] S := by
    intro o ha
    have hq2 := q2 ha
    by_cases c : l.length < 2
    · have hn : E a.NoRoad S := hq2 fun z => by have := z.1; omega
      rcases vm_cases hr with rfl | ⟨p, rfl, er⟩
      all_goals
        first | simp only [dSeq, dIfS, dB, dOp, dVar, dCB, dCons, dNil, dRet, dRetN, dNext, dC, dAsg, dgN, dgT, dgSeq, dDrop, dCont, dAndT, dOrT, dNotT, dAndV, dOrV, dNotV, dIf, dIsN, dNotN, dNeg, dLst, dTup, dNewI, dCall, dMeth, dMake, dRaise, dFrz, dIsi, isiK, tyS, inst_NoneType_bool, inst_NoneType_int, inst_NoneType_str, inst_NoneType_list, inst_NoneType_tuple, inst_bool_bool, inst_bool_int, inst_bool_str, inst_bool_list, inst_bool_tuple, inst_int_bool, inst_int_int, inst_int_str, inst_int_list, inst_int_tuple, inst_str_bool, inst_str_int, inst_str_str, inst_str_list, inst_str_tuple, inst_list_bool, inst_list_int, inst_list_str, inst_list_list, inst_list_tuple, inst_tuple_bool, inst_tuple_int, inst_tuple_str, inst_tuple_list, inst_tuple_tuple, iiD, iiD0, subD, mulD, fdivD, modD, shrD, pow_10_6, pow_10_60, ltI, leI, gtI, geI, addI, addD, catD, scatD, lenD, lenS, ixD, ixL, ixLK, ixK, vl, vm, newL, i2D, absD, tupleD, dLM, dLM0, dFld, getF, dGet1, dGet2, getK, dSetIx, rng1, rng2, dFor1, dFor2, dFor, dForK, eqR, rs, dstart, List.map_cons, List.map_nil, List.length_cons, List.length_nil, List.cons_append, List.nil_append, List.replicate, List.getElem?_cons_zero, List.getElem?_cons_succ, List.set_cons_zero, List.set_cons_succ, Option.isSome_some, Option.isNone_some, Option.isNone_none, Nat.add_one_sub_one, Nat.reduceAdd, Nat.reduceSub, Nat.sub_self, Nat.sub_zero, Bool.not_true, Bool.not_false, ↓reduceIte, Bool.false_eq_true, Bool.true_eq_false, okD_int, okD_bl, okD_non, dEq_int, dEq_bl, Bool.true_xor, Bool.false_xor, Bool.not_eq_true', decide_eq_true_eq, decide_eq_false_iff_not, true_and, Bool.and_true, Bool.and_false, Bool.true_and, Bool.false_and, at_0, at_1, at_2, cast0, cast1, cast2, cast3, not_true_eq_false, not_false_eq_true, eL, Option.map_some, Option.map_none, dSlL, slk, doNone, doSome, sortedTD, dLenSet, lsk, er, e1] | simp only [dSeq, dIfS, dB, dOp, dVar, dCB, dCons, dNil, dRet, dRetN, dNext, dC, dAsg, dgN, dgT, dgSeq, dDrop, dCont, dAndT, dOrT, dNotT, dAndV, dOrV, dNotV, dIf, dIsN, dNotN, dNeg, dLst, dTup, dNewI, dCall, dMeth, dMake, dRaise, dFrz, dIsi, isiK, tyS, inst_NoneType_bool, inst_NoneType_int, inst_NoneType_str, inst_NoneType_list, inst_NoneType_tuple, inst_bool_bool, inst_bool_int, inst_bool_str, inst_bool_list, inst_bool_tuple, inst_int_bool, inst_int_int, inst_int_str, inst_int_list, inst_int_tuple, inst_str_bool, inst_str_int, inst_str_str, inst_str_list, inst_str_tuple, inst_list_bool, inst_list_int, inst_list_str, inst_list_list, inst_list_tuple, inst_tuple_bool, inst_tuple_int, inst_tuple_str, inst_tuple_list, inst_tuple_tuple, iiD, iiD0, subD, mulD, fdivD, modD, shrD, pow_10_6, pow_10_60, ltI, leI, gtI, geI, addI, addD, catD, scatD, lenD, lenS, ixD, ixL, ixLK, ixK, vl, vm, newL, i2D, absD, tupleD, dLM, dLM0, dFld, getF, dGet1, dGet2, getK, dSetIx, rng1, rng2, dFor1, dFor2, dFor, dForK, eqR, rs, dstart, List.map_cons, List.map_nil, List.length_cons, List.length_nil, List.cons_append, List.nil_append, List.replicate, List.getElem?_cons_zero, List.getElem?_cons_succ, List.set_cons_zero, List.set_cons_succ, Option.isSome_some, Option.isNone_some, Option.isNone_none, Nat.add_one_sub_one, Nat.reduceAdd, Nat.reduceSub, Nat.sub_self, Nat.sub_zero, Bool.not_true, Bool.not_false, ↓reduceIte, Bool.false_eq_true, Bool.true_eq_false, okD_int, okD_bl, okD_non, dEq_int, dEq_bl, Bool.true_xor, Bool.false_xor, Bool.not_eq_true', decide_eq_true_eq, decide_eq_false_iff_not, true_and, Bool.and_true, Bool.and_false, Bool.true_and, Bool.false_and, at_0, at_1, at_2, cast0, cast1, cast2, cast3, not_true_eq_false, not_false_eq_true, eL, Option.map_some, Option.map_none, dSlL, slk, doNone, doSome, sortedTD, dLenSet, lsk, e1]
        rw [if_pos (by rw [List.length_map]; omega)]
        exact wish_of hn
    · have hne : l ≠ [] := fun z => by rw [z] at c; simp at c
      have ea : atI (l.map D.int) (-1) = some (.int (l.getLast hne)) := by rw [atI_map, atI_last hne]; rfl
      rcases vm_cases hr with rfl | ⟨p, rfl, er⟩
      all_goals
        first | simp only [dSeq, dIfS, dB, dOp, dVar, dCB, dCons, dNil, dRet, dRetN, dNext, dC, dAsg, dgN, dgT, dgSeq, dDrop, dCont, dAndT, dOrT, dNotT, dAndV, dOrV, dNotV, dIf, dIsN, dNotN, dNeg, dLst, dTup, dNewI, dCall, dMeth, dMake, dRaise, dFrz, dIsi, isiK, tyS, inst_NoneType_bool, inst_NoneType_int, inst_NoneType_str, inst_NoneType_list, inst_NoneType_tuple, inst_bool_bool, inst_bool_int, inst_bool_str, inst_bool_list, inst_bool_tuple, inst_int_bool, inst_int_int, inst_int_str, inst_int_list, inst_int_tuple, inst_str_bool, inst_str_int, inst_str_str, inst_str_list, inst_str_tuple, inst_list_bool, inst_list_int, inst_list_str, inst_list_list, inst_list_tuple, inst_tuple_bool, inst_tuple_int, inst_tuple_str, inst_tuple_list, inst_tuple_tuple, iiD, iiD0, subD, mulD, fdivD, modD, shrD, pow_10_6, pow_10_60, ltI, leI, gtI, geI, addI, addD, catD, scatD, lenD, lenS, ixD, ixL, ixLK, ixK, vl, vm, newL, i2D, absD, tupleD, dLM, dLM0, dFld, getF, dGet1, dGet2, getK, dSetIx, rng1, rng2, dFor1, dFor2, dFor, dForK, eqR, rs, dstart, List.map_cons, List.map_nil, List.length_cons, List.length_nil, List.cons_append, List.nil_append, List.replicate, List.getElem?_cons_zero, List.getElem?_cons_succ, List.set_cons_zero, List.set_cons_succ, Option.isSome_some, Option.isNone_some, Option.isNone_none, Nat.add_one_sub_one, Nat.reduceAdd, Nat.reduceSub, Nat.sub_self, Nat.sub_zero, Bool.not_true, Bool.not_false, ↓reduceIte, Bool.false_eq_true, Bool.true_eq_false, okD_int, okD_bl, okD_non, dEq_int, dEq_bl, Bool.true_xor, Bool.false_xor, Bool.not_eq_true', decide_eq_true_eq, decide_eq_false_iff_not, true_and, Bool.and_true, Bool.and_false, Bool.true_and, Bool.false_and, at_0, at_1, at_2, cast0, cast1, cast2, cast3, not_true_eq_false, not_false_eq_true, eL, Option.map_some, Option.map_none, dSlL, slk, doNone, doSome, sortedTD, dLenSet, lsk, er, ea, e1, Option.bind_some] | simp only [dSeq, dIfS, dB, dOp, dVar, dCB, dCons, dNil, dRet, dRetN, dNext, dC, dAsg, dgN, dgT, dgSeq, dDrop, dCont, dAndT, dOrT, dNotT, dAndV, dOrV, dNotV, dIf, dIsN, dNotN, dNeg, dLst, dTup, dNewI, dCall, dMeth, dMake, dRaise, dFrz, dIsi, isiK, tyS, inst_NoneType_bool, inst_NoneType_int, inst_NoneType_str, inst_NoneType_list, inst_NoneType_tuple, inst_bool_bool, inst_bool_int, inst_bool_str, inst_bool_list, inst_bool_tuple, inst_int_bool, inst_int_int, inst_int_str, inst_int_list, inst_int_tuple, inst_str_bool, inst_str_int, inst_str_str, inst_str_list, inst_str_tuple, inst_list_bool, inst_list_int, inst_list_str, inst_list_list, inst_list_tuple, inst_tuple_bool, inst_tuple_int, inst_tuple_str, inst_tuple_list, inst_tuple_tuple, iiD, iiD0, subD, mulD, fdivD, modD, shrD, pow_10_6, pow_10_60, ltI, leI, gtI, geI, addI, addD, catD, scatD, lenD, lenS, ixD, ixL, ixLK, ixK, vl, vm, newL, i2D, absD, tupleD, dLM, dLM0, dFld, getF, dGet1, dGet2, getK, dSetIx, rng1, rng2, dFor1, dFor2, dFor, dForK, eqR, rs, dstart, List.map_cons, List.map_nil, List.length_cons, List.length_nil, List.cons_append, List.nil_append, List.replicate, List.getElem?_cons_zero, List.getElem?_cons_succ, List.set_cons_zero, List.set_cons_succ, Option.isSome_some, Option.isNone_some, Option.isNone_none, Nat.add_one_sub_one, Nat.reduceAdd, Nat.reduceSub, Nat.sub_self, Nat.sub_zero, Bool.not_true, Bool.not_false, ↓reduceIte, Bool.false_eq_true, Bool.true_eq_false, okD_int, okD_bl, okD_non, dEq_int, dEq_bl, Bool.true_xor, Bool.false_xor, Bool.not_eq_true', decide_eq_true_eq, decide_eq_false_iff_not, true_and, Bool.and_true, Bool.and_false, Bool.true_and, Bool.false_and, at_0, at_1, at_2, cast0, cast1, cast2, cast3, not_true_eq_false, not_false_eq_true, eL, Option.map_some, Option.map_none, dSlL, slk, doNone, doSome, sortedTD, dLenSet, lsk, ea, e1, Option.bind_some]
        rw [if_neg (by rw [List.length_map]; omega)]
        by_cases c2 : l.getLast hne = 0
        · rw [if_neg (not_not_intro c2)]
          refine ⟨hl, ?_⟩
          by_cases c3 : l.Nodup
          · rw [if_neg (not_not_intro (by rw [ddN_nodup c3, List.length_map]))]
            exact nx_of (q3 ⟨ha, by omega, by rw [List.getLast?_eq_some_getLast hne, c2], c3⟩)
          · rw [if_pos fun z => c3 ((ddN_iff l).mp (by rw [List.length_map] at z; omega))]
            exact wish_of (hq2 fun z => c3 z.2.2)
        · rw [if_pos c2]
          exact wish_of (hq2 fun z => c2 (by have := z.2.1; rw [List.getLast?_eq_some_getLast hne] at this; exact Option.some.inj this))
  refine dGo_map (f := D.int) (fun rest ρ S' => S' = S ∧ (∃ o, ρ = [some (.ref A.g), some r, o]) ∧ ∃ pre, l = pre ++ rest ∧ ∀ x ∈ pre, s.ok x) ?_ ?_ _ _ _ ⟨rfl, ⟨_, rfl⟩, [], rfl, fun x hx => by cases hx⟩
  · rintro ρ S' ⟨rfl, ⟨o, rfl⟩, pre, e, hp⟩
    rw [List.append_nil] at e
    exact ⟨hv, hfin o (by rw [e]; exact hp)⟩
  · rintro x rest ρ S' N ⟨rfl, ⟨o, rfl⟩, pre, e, hp⟩ hN
    refine ⟨hv, ?_⟩
    simp only [dSeq, dIfS, dB, dOp, dVar, dCB, dCons, dNil, dRet, dRetN, dNext, dC, dAsg, dgN, dgT, dgSeq, dDrop, dCont, dAndT, dOrT, dNotT, dAndV, dOrV, dNotV, dIf, dIsN, dNotN, dNeg, dLst, dTup, dNewI, dCall, dMeth, dMake, dRaise, dFrz, dIsi, isiK, tyS, inst_NoneType_bool, inst_NoneType_int, inst_NoneType_str, inst_NoneType_list, inst_NoneType_tuple, inst_bool_bool, inst_bool_int, inst_bool_str, inst_bool_list, inst_bool_tuple, inst_int_bool, inst_int_int, inst_int_str, inst_int_list, inst_int_tuple, inst_str_bool, inst_str_int, inst_str_str, inst_str_list, inst_str_tuple, inst_list_bool, inst_list_int, inst_list_str, inst_list_list, inst_list_tuple, inst_tuple_bool, inst_tuple_int, inst_tuple_str, inst_tuple_list, inst_tuple_tuple, iiD, iiD0, subD, mulD, fdivD, modD, shrD, pow_10_6, pow_10_60, ltI, leI, gtI, geI, addI, addD, catD, scatD, lenD, lenS, ixD, ixL, ixLK, ixK, vl, vm, newL, i2D, absD, tupleD, dLM, dLM0, dFld, getF, dGet1, dGet2, getK, dSetIx, rng1, rng2, dFor1, dFor2, dFor, dForK, eqR, rs, dstart, List.map_cons, List.map_nil, List.length_cons, List.length_nil, List.cons_append, List.nil_append, List.replicate, List.getElem?_cons_zero, List.getElem?_cons_succ, List.set_cons_zero, List.set_cons_succ, Option.isSome_some, Option.isNone_some, Option.isNone_none, Nat.add_one_sub_one, Nat.reduceAdd, Nat.reduceSub, Nat.sub_self, Nat.sub_zero, Bool.not_true, Bool.not_false, ↓reduceIte, Bool.false_eq_true, Bool.true_eq_false, okD_int, okD_bl, okD_non, dEq_int, dEq_bl, Bool.true_xor, Bool.false_xor, Bool.not_eq_true', decide_eq_true_eq, decide_eq_false_iff_not, true_and, Bool.and_true, Bool.and_false, Bool.true_and, Bool.false_and, at_0, at_1, at_2, cast0, cast1, cast2, cast3, not_true_eq_false, not_false_eq_true, eL, Option.map_some, Option.map_none, dSlL, slk, doNone, doSome, sortedTD, dLenSet, lsk, g.g, onIns, gf_houses, gf_ties, gf_shy, gf_fond, gf_longings, gfm_see_house, gfm_see_two, gfm_size, gfm_neighbours, gfm_has_way, gfm_lay_way, gfm_lift_way, gfm_like, gfm_liking, gfm_shun, gfm_shunned, gfm_see_road, gfm_wish, gfm_wishes, gfm_rank_of, gp_houses, gp_ties, gp_shy, gp_fond, gp_longings]
    refine x_Guild_see_house g (fun h1 => ?_) fun h1 => wish_of (q1 fun z => h1 (z x (by rw [e]; simp)))
    exact hN _ _ ⟨rfl, ⟨_, rfl⟩, pre ++ [x], by rw [e]; simp, fun y hy => by
      rcases List.mem_append.mp hy with hy | hy
      · exact hp y hy
      · rw [List.mem_singleton.mp hy]; exact h1⟩
theorem x_Guild_see_road {a : CA} {A : GA} {s : GS} {m : Nat} {r : D} {l : List Int} {S : Sto} {P : D → Sto → Prop} {E : Addr → Sto → Prop} (g : GAt a S A s m) (hr : vm S r = some (l.map .int)) (hl : l.length ≤ 4000) (h : s.rok l) (q : P .non S) : sp_Guild_see_road a [.ref A.g, r] S P E :=
  ⟨A, s, m, r, l, rfl, g, hr, hl, fun z => absurd h.1 z, fun _ z => absurd h.2 z, fun _ => q⟩

end DL
namespace DL
open PySem L2
def t_Guild_wish (K : PySem.W.Frag) (a : CA) (W : WD) : TDS :=
  (dSeq (dDrop (dMeth a.Guild "see_road" (sp_Guild_see_road a) W (dVar 0) (dCons (dVar 1) dNil)))
  (dSetIx (dFld a.Guild "longings" (dVar 0)) (dCB tupleD (dCons (dVar 1) dNil)) (dVar 2)))
abbrev N_Guild_wish : List Str := ["self", "road", "rank"]
def sp_Guild_wish (a : CA) : DSp := fun ds S P E => ∃ (A : GA) (s : GS) (m : Nat) (r : D) (l : List Int) (k : Int), ds = [.ref A.g, r, .int k] ∧ GAt a S A s m ∧ vm S r = some (l.map .int) ∧ l.length ≤ 4000 ∧ m < 1000000 ∧
  (¬ (∀ x ∈ l, s.ok x) → E a.NoHouse S) ∧ ((∀ x ∈ l, s.ok x) → ¬ s.rd l → E a.NoRoad S) ∧ (s.rok l → ∀ S', GAt a S' A (s.wish l k) (m + 1) → (∀ b, b ∉ A.all → S' b = S b) → P .non S')
theorem len_Guild_wish (a : CA) (ds : List D) (S : Sto) (Q : D → Sto → Prop) (E : Addr → Sto → Prop) (h : sp_Guild_wish a ds S Q E) : ds.length = ["self", "road", "rank"].length := by
  obtain ⟨_, _, _, _, _, _, rfl, _⟩ := h; rfl
theorem read_Guild_wish (K : PySem.W.Frag) (a : CA) (ds : List D) (S : Sto) (Q : D → Sto → Prop) (E : Addr → Sto → Prop) (h : sp_Guild_wish a ds S Q E) : t_Guild_wish K a (wishOf E) (endsOf Q) (dstart N_Guild_wish ds) S := by
  obtain ⟨A, s, m, r, l, k, rfl, g, hr, hl, hm, q1, q2, q3⟩ := h
  have hs : sizeLine = 2 ^ 24 := rfl
  have main : s.rok l → ∀ x, vm S x = some (l.map .int) → setD (.ref A.l) (.tup (l.map .int)) (.int k) S fun S' => (endsOf Q).nx [some (.ref A.g), some x, some (.int k)] S' := fun h x hx => by
    refine setD_key g.l (by rw [List.length_map]; have := g.ll; omega) (nx_of (q3 h _ ?_ (su_out mem_all_l)))
    rw [dput_kv]
    exact g.setL (Nat.le_trans (kput_len _ _ _) (Nat.succ_le_succ g.ll))
  rcases vm_cases hr with rfl | ⟨p, rfl, er⟩
  all_goals
    simp only [t_Guild_wish, N_Guild_wish, dSeq, dIfS, dB, dOp, dVar, dCB, dCons, dNil, dRet, dRetN, dNext, dC, dAsg, dgN, dgT, dgSeq, dDrop, dCont, dAndT, dOrT, dNotT, dAndV, dOrV, dNotV, dIf, dIsN, dNotN, dNeg, dLst, dTup, dNewI, dCall, dMeth, dMake, dRaise, dFrz, dIsi, isiK, tyS, inst_NoneType_bool, inst_NoneType_int, inst_NoneType_str, inst_NoneType_list, inst_NoneType_tuple, inst_bool_bool, inst_bool_int, inst_bool_str, inst_bool_list, inst_bool_tuple, inst_int_bool, inst_int_int, inst_int_str, inst_int_list, inst_int_tuple, inst_str_bool, inst_str_int, inst_str_str, inst_str_list, inst_str_tuple, inst_list_bool, inst_list_int, inst_list_str, inst_list_list, inst_list_tuple, inst_tuple_bool, inst_tuple_int, inst_tuple_str, inst_tuple_list, inst_tuple_tuple, iiD, iiD0, subD, mulD, fdivD, modD, shrD, pow_10_6, pow_10_60, ltI, leI, gtI, geI, addI, addD, catD, scatD, lenD, lenS, ixD, ixL, ixLK, ixK, vl, vm, newL, i2D, absD, tupleD, dLM, dLM0, dFld, getF, dGet1, dGet2, getK, dSetIx, rng1, rng2, dFor1, dFor2, dFor, dForK, eqR, rs, dstart, List.map_cons, List.map_nil, List.length_cons, List.length_nil, List.cons_append, List.nil_append, List.replicate, List.getElem?_cons_zero, List.getElem?_cons_succ, List.set_cons_zero, List.set_cons_succ, Option.isSome_some, Option.isNone_some, Option.isNone_none, Nat.add_one_sub_one, Nat.reduceAdd, Nat.reduceSub, Nat.sub_self, Nat.sub_zero, Bool.not_true, Bool.not_false, ↓reduceIte, Bool.false_eq_true, Bool.true_eq_false, okD_int, okD_bl, okD_non, dEq_int, dEq_bl, Bool.true_xor, Bool.false_xor, Bool.not_eq_true', decide_eq_true_eq, decide_eq_false_iff_not, true_and, Bool.and_true, Bool.and_false, Bool.true_and, Bool.false_and, at_0, at_1, at_2, cast0, cast1, cast2, cast3, not_true_eq_false, not_false_eq_true, eL, Option.map_some, Option.map_none, dSlL, slk, doNone, doSome, sortedTD, dLenSet, lsk, g.g, onIns, gf_houses, gf_ties, gf_shy, gf_fond, gf_longings, gfm_see_house, gfm_see_two, gfm_size, gfm_neighbours, gfm_has_way, gfm_lay_way, gfm_lift_way, gfm_like, gfm_liking, gfm_shun, gfm_shunned, gfm_see_road, gfm_wish, gfm_wishes, gfm_rank_of, gp_houses, gp_ties, gp_shy, gp_fond, gp_longings]
    refine ⟨A, s, m, _, l, rfl, g, hr, hl, fun h => wish_of (q1 h), fun h h' => wish_of (q2 h h'), fun h => ?_⟩
    first | simp only [g.g, onIns, gf_houses, gf_ties, gf_shy, gf_fond, gf_longings, gfm_see_house, gfm_see_two, gfm_size, gfm_neighbours, gfm_has_way, gfm_lay_way, gfm_lift_way, gfm_like, gfm_liking, gfm_shun, gfm_shunned, gfm_see_road, gfm_wish, gfm_wishes, gfm_rank_of, gp_houses, gp_ties, gp_shy, gp_fond, gp_longings, dSeq, dIfS, dB, dOp, dVar, dCB, dCons, dNil, dRet, dRetN, dNext, dC, dAsg, dgN, dgT, dgSeq, dDrop, dCont, dAndT, dOrT, dNotT, dAndV, dOrV, dNotV, dIf, dIsN, dNotN, dNeg, dLst, dTup, dNewI, dCall, dMeth, dMake, dRaise, dFrz, dIsi, isiK, tyS, inst_NoneType_bool, inst_NoneType_int, inst_NoneType_str, inst_NoneType_list, inst_NoneType_tuple, inst_bool_bool, inst_bool_int, inst_bool_str, inst_bool_list, inst_bool_tuple, inst_int_bool, inst_int_int, inst_int_str, inst_int_list, inst_int_tuple, inst_str_bool, inst_str_int, inst_str_str, inst_str_list, inst_str_tuple, inst_list_bool, inst_list_int, inst_list_str, inst_list_list, inst_list_tuple, inst_tuple_bool, inst_tuple_int, inst_tuple_str, inst_tuple_list, inst_tuple_tuple, iiD, iiD0, subD, mulD, fdivD, modD, shrD, pow_10_6, pow_10_60, ltI, leI, gtI, geI, addI, addD, catD, scatD, lenD, lenS, ixD, ixL, ixLK, ixK, vl, vm, newL, i2D, absD, tupleD, dLM, dLM0, dFld, getF, dGet1, dGet2, getK, dSetIx, rng1, rng2, dFor1, dFor2, dFor, dForK, eqR, rs, dstart, List.map_cons, List.map_nil, List.length_cons, List.length_nil, List.cons_append, List.nil_append, List.replicate, List.getElem?_cons_zero, List.getElem?_cons_succ, List.set_cons_zero, List.set_cons_succ, Option.isSome_some, Option.isNone_some, Option.isNone_none, Nat.add_one_sub_one, Nat.reduceAdd, Nat.reduceSub, Nat.sub_self, Nat.sub_zero, Bool.not_true, Bool.not_false, ↓reduceIte, Bool.false_eq_true, Bool.true_eq_false, okD_int, okD_bl, okD_non, dEq_int, dEq_bl, Bool.true_xor, Bool.false_xor, Bool.not_eq_true', decide_eq_true_eq, decide_eq_false_iff_not, true_and, Bool.and_true, Bool.and_false, Bool.true_and, Bool.false_and, at_0, at_1, at_2, cast0, cast1, cast2, cast3, not_true_eq_false, not_false_eq_true, eL, Option.map_some, Option.map_none, dSlL, slk, doNone, doSome, sortedTD, dLenSet, lsk, er] | simp only [g.g, onIns, gf_houses, gf_ties, gf_shy, gf_fond, gf_longings, gfm_see_house, gfm_see_two, gfm_size, gfm_neighbours, gfm_has_way, gfm_lay_way, gfm_lift_way, gfm_like, gfm_liking, gfm_shun, gfm_shunned, gfm_see_road, gfm_wish, gfm_wishes, gfm_rank_of, gp_houses, gp_ties, gp_shy, gp_fond, gp_longings, dSeq, dIfS, dB, dOp, dVar, dCB, dCons, dNil, dRet, dRetN, dNext, dC, dAsg, dgN, dgT, dgSeq, dDrop, dCont, dAndT, dOrT, dNotT, dAndV, dOrV, dNotV, dIf, dIsN, dNotN, dNeg, dLst, dTup, dNewI, dCall, dMeth, dMake, dRaise, dFrz, dIsi, isiK, tyS, inst_NoneType_bool, inst_NoneType_int, inst_NoneType_str, inst_NoneType_list, inst_NoneType_tuple, inst_bool_bool, inst_bool_int, inst_bool_str, inst_bool_list, inst_bool_tuple, inst_int_bool, inst_int_int, inst_int_str, inst_int_list, inst_int_tuple, inst_str_bool, inst_str_int, inst_str_str, inst_str_list, inst_str_tuple, inst_list_bool, inst_list_int, inst_list_str, inst_list_list, inst_list_tuple, inst_tuple_bool, inst_tuple_int, inst_tuple_str, inst_tuple_list, inst_tuple_tuple, iiD, iiD0, subD, mulD, fdivD, modD, shrD, pow_10_6, pow_10_60, ltI, leI, gtI, geI, addI, addD, catD, scatD, lenD, lenS, ixD, ixL, ixLK, ixK, vl, vm, newL, i2D, absD, tupleD, dLM, dLM0, dFld, getF, dGet1, dGet2, getK, dSetIx, rng1, rng2, dFor1, dFor2, dFor, dForK, eqR, rs, dstart, List.map_cons, List.map_nil, List.length_cons, List.length_nil, List.cons_append, List.nil_append, List.replicate, List.getElem?_cons_zero, List.getElem?_cons_succ, List.set_cons_zero, List.set_cons_succ, Option.isSome_some, Option.isNone_some, Option.isNone_none, Nat.add_one_sub_one, Nat.reduceAdd, Nat.reduceSub, Nat.sub_self, Nat.sub_zero, Bool.not_true, Bool.not_false, ↓reduceIte, Bool.false_eq_true, Bool.true_eq_false, okD_int, okD_bl, okD_non, dEq_int, dEq_bl, Bool.true_xor, Bool.false_xor, Bool.not_eq_true', decide_eq_true_eq, decide_eq_false_iff_not, true_and, Bool.and_true, Bool.and_false, Bool.true_and, Bool.false_and, at_0, at_1, at_2, cast0, cast1, cast2, cast3, not_true_eq_false, not_false_eq_true, eL, Option.map_some, Option.map_none, dSlL, slk, doNone, doSome, sortedTD, dLenSet, lsk]
    exact main h _ hr

end DL
namespace DL
open PySem L2
open PySem.W in
theorem le_tup (x y : List Int) : dataLe false toP (D.tup (x.map .int)) (D.tup (y.map .int)) = decide (x ≤ y) := by
  have h := congrFun (congrFun (dataLe_rows (β := List Int) fun b => b) x) y
  rw [← h, dataLe_eq, dataLe_eq]
  have e : ∀ z : List Int, toPs (z.map D.int) = z.map PyData.int := fun z => by rw [toPs_map, List.map_map]; rfl
  simp only [cond_false, dataLt, toP, keyToks, e]
def sortK (ks : List (List Int)) : List (List Int) := ks.mergeSort fun x y => decide (x ≤ y)
def eTup (k : List Int) : D := .tup (k.map .int)
theorem srt_tups (ks : List (List Int)) : srtD (ks.map eTup) = (sortK ks).map eTup := by
  unfold srtD sortK
  exact (List.map_mergeSort fun x _ y _ => (le_tup x y).symm).symm
theorem sortK_perm (ks : List (List Int)) : (sortK ks).Perm ks := List.mergeSort_perm ks _
theorem sortK_len (ks : List (List Int)) : (sortK ks).length = ks.length := (sortK_perm ks).length_eq
open PySem.W in
theorem alike_tups (ks : List (List Int)) : AllAlike ((ks.map eTup).map toP) := by
  intro d hd d' hd'
  rw [List.map_map] at hd hd'
  obtain ⟨x, _, rfl⟩ := List.mem_map.mp hd
  obtain ⟨y, _, rfl⟩ := List.mem_map.mp hd'
  have e : ∀ z : List Int, toPs (z.map D.int) = z.map PyData.int := fun z => by rw [toPs_map, List.map_map]; rfl
  simp only [Function.comp, eTup, toP, alike, e]
  exact alike_ints x y
open PySem.W in
theorem sortable_tups (ks : List (List Int)) (h : ∀ k ∈ ks, k ≠ []) : Sortable ((ks.map eTup).map toP) := by
  left
  intro d hd
  rw [List.map_map] at hd
  obtain ⟨x, hx, rfl⟩ := List.mem_map.mp hd
  cases x with
  | nil => exact absurd rfl (h [] hx)
  | cons i r => exact ⟨.int i, toPs (r.map .int), rfl⟩
theorem pures_tups (ks : List (List Int)) : pureDs (ks.map eTup) = true := Enc.int.tup.lst.pu ks
theorem depth_tups (ks : List (List Int)) : ∀ d ∈ ks.map eTup, (toP d).depth ≤ 60 := fun d hd => by
  obtain ⟨x, _, rfl⟩ := List.mem_map.mp hd
  exact Nat.le_trans (Enc.int.tup.dp x) (by decide)
theorem sortedT_tups {m : Bool} {ks : List (List Int)} {S : Sto} {P : D → Sto → Prop} (h : ∀ k ∈ ks, k ≠ []) (q : newL m ((sortK ks).map eTup) S P) : sortedTD m [.lst (ks.map eTup)] S P := by
  simp only [sortedTD, vm]
  refine ⟨pures_tups ks, alike_tups ks, sortable_tups ks h, fun d hd => ?_, by rw [srt_tups]; exact q⟩
  obtain ⟨x, _, rfl⟩ := List.mem_map.mp hd
  exact Nat.le_trans (Enc.int.tup.dp x) (by decide)
def wishesOf (L : List (List Int × Int)) : List (List Int × Int) := (sortK (L.map (·.1))).map fun k => (k, (kget L k).getD 0)
def eW (p : List Int × Int) : D := .tup [.lst (p.1.map .int), .int p.2]
theorem kget_some {β : Type} {L : List (List Int × β)} {k : List Int} (h : k ∈ L.map (·.1)) : ∃ v, kget L k = some v := by
  obtain ⟨p, hp, rfl⟩ := List.mem_map.mp h
  unfold kget
  cases e : L.find? fun q => decide (q.1 = p.1) with
  | some q => exact ⟨_, rfl⟩
  | none => exact absurd (List.find?_eq_none.mp e p hp) (by simp)
theorem wishes_len (L : List (List Int × Int)) : (wishesOf L).length = L.length := by unfold wishesOf; rw [List.length_map, sortK_len, List.length_map]

end DL
namespace DL
open PySem L2
def t_Guild_wishes (K : PySem.W.Frag) (a : CA) (W : WD) : TDS :=
  (dRet (dLc false (diL (dCB (sortedTD false) (dCons (dCB (listD false) (dCons (dFld a.Guild "longings" (dVar 0)) dNil)) dNil))) (dgN 1) dYes (dTup (dCons (dCB (listD false) (dCons (dVar 1) dNil)) (dCons (dOp ixD (dFld a.Guild "longings" (dVar 0)) (dVar 1)) dNil))) [1]))
abbrev N_Guild_wishes : List Str := ["self", "key"]
def sp_Guild_wishes (a : CA) : DSp := fun ds S P E => ∃ (A : GA) (s : GS) (m : Nat), ds = [.ref A.g] ∧ GAt a S A s m ∧ m < 1000000 ∧ (∀ p ∈ s.L, p.1 ≠ []) ∧ P (.lst ((wishesOf s.L).map eW)) S
theorem len_Guild_wishes (a : CA) (ds : List D) (S : Sto) (Q : D → Sto → Prop) (E : Addr → Sto → Prop) (h : sp_Guild_wishes a ds S Q E) : ds.length = ["self"].length := by
  obtain ⟨_, _, _, rfl, _⟩ := h; rfl
theorem read_Guild_wishes (K : PySem.W.Frag) (a : CA) (ds : List D) (S : Sto) (Q : D → Sto → Prop) (E : Addr → Sto → Prop) (h : sp_Guild_wishes a ds S Q E) : t_Guild_wishes K a (wishOf E) (endsOf Q) (dstart N_Guild_wishes ds) S := by
  obtain ⟨A, s, m, rfl, g, hm, hk, q⟩ := h
  have hl := g.ll
  have hs : sizeLine = 2 ^ 24 := rfl
  simp only [t_Guild_wishes, N_Guild_wishes, dSeq, dIfS, dB, dOp, dVar, dCB, dCons, dNil, dRet, dRetN, dNext, dC, dAsg, dgN, dgT, dgSeq, dDrop, dCont, dAndT, dOrT, dNotT, dAndV, dOrV, dNotV, dIf, dIsN, dNotN, dNeg, dLst, dTup, dNewI, dCall, dMeth, dMake, dRaise, dFrz, dIsi, isiK, tyS, inst_NoneType_bool, inst_NoneType_int, inst_NoneType_str, inst_NoneType_list, inst_NoneType_tuple, inst_bool_bool, inst_bool_int, inst_bool_str, inst_bool_list, inst_bool_tuple, inst_int_bool, inst_int_int, inst_int_str, inst_int_list, inst_int_tuple, inst_str_bool, inst_str_int, inst_str_str, inst_str_list, inst_str_tuple, inst_list_bool, inst_list_int, inst_list_str, inst_list_list, inst_list_tuple, inst_tuple_bool, inst_tuple_int, inst_tuple_str, inst_tuple_list, inst_tuple_tuple, iiD, iiD0, subD, mulD, fdivD, modD, shrD, pow_10_6, pow_10_60, ltI, leI, gtI, geI, addI, addD, catD, scatD, lenD, lenS, ixD, ixL, ixLK, ixK, vl, vm, newL, i2D, absD, tupleD, dLM, dLM0, dFld, getF, dGet1, dGet2, getK, dSetIx, rng1, rng2, dFor1, dFor2, dFor, dForK, eqR, rs, dstart, List.map_cons, List.map_nil, List.length_cons, List.length_nil, List.cons_append, List.nil_append, List.replicate, List.getElem?_cons_zero, List.getElem?_cons_succ, List.set_cons_zero, List.set_cons_succ, Option.isSome_some, Option.isNone_some, Option.isNone_none, Nat.add_one_sub_one, Nat.reduceAdd, Nat.reduceSub, Nat.sub_self, Nat.sub_zero, Bool.not_true, Bool.not_false, ↓reduceIte, Bool.false_eq_true, Bool.true_eq_false, okD_int, okD_bl, okD_non, dEq_int, dEq_bl, Bool.true_xor, Bool.false_xor, Bool.not_eq_true', decide_eq_true_eq, decide_eq_false_iff_not, true_and, Bool.and_true, Bool.and_false, Bool.true_and, Bool.false_and, at_0, at_1, at_2, cast0, cast1, cast2, cast3, not_true_eq_false, not_false_eq_true, eL, Option.map_some, Option.map_none, dSlL, slk, doNone, doSome, sortedTD, dLenSet, lsk, dLc, diL, g.g, g.l, onIns, gf_houses, gf_ties, gf_shy, gf_fond, gf_longings, gfm_see_house, gfm_see_two, gfm_size, gfm_neighbours, gfm_has_way, gfm_lay_way, gfm_lift_way, gfm_like, gfm_liking, gfm_shun, gfm_shunned, gfm_see_road, gfm_wish, gfm_wishes, gfm_rank_of, gp_houses, gp_ties, gp_shy, gp_fond, gp_longings, listD, keysS]
  have ek : ((s.L.map eKV).map (fun x => x.1)).map (fun k => D.tup (k.map .int)) = (s.L.map (·.1)).map eTup := by rw [List.map_map, List.map_map, List.map_map]; rfl
  rw [ek]
  refine ⟨pures_tups _, alike_tups _, sortable_tups _ fun k h => ?_, depth_tups _, ?_⟩
  · obtain ⟨p, hp, rfl⟩ := List.mem_map.mp h
    exact hk p hp
  rw [srt_tups]
  simp only [diLk]
  refine lc_all (m := false) (P := _) eTup (fun k => eW (k, (kget s.L k).getD 0)) (by rw [sortK_len, List.length_map]; omega) (fun _ _ => rfl) (fun k h S' Y hS y => ?_) ?_
  · have hk : k ∈ s.L.map (·.1) := (sortK_perm _).mem_iff.mp h
    obtain ⟨v, ev⟩ := kget_some hk
    have e : dgetS S' (.ref A.l) (.tup (k.map .int)) = some (some (.int v)) := by simp only [dgetS, hS _ _ g.l, kI, kInts_map, Option.map_some, dget_kv, ev]
    have g' : S' A.g = _ := hS _ _ g.g
    have l' : S' A.l = _ := hS _ _ g.l
    rw [ev] at y
    simp only [dSeq, dIfS, dB, dOp, dVar, dCB, dCons, dNil, dRet, dRetN, dNext, dC, dAsg, dgN, dgT, dgSeq, dDrop, dCont, dAndT, dOrT, dNotT, dAndV, dOrV, dNotV, dIf, dIsN, dNotN, dNeg, dLst, dTup, dNewI, dCall, dMeth, dMake, dRaise, dFrz, dIsi, isiK, tyS, inst_NoneType_bool, inst_NoneType_int, inst_NoneType_str, inst_NoneType_list, inst_NoneType_tuple, inst_bool_bool, inst_bool_int, inst_bool_str, inst_bool_list, inst_bool_tuple, inst_int_bool, inst_int_int, inst_int_str, inst_int_list, inst_int_tuple, inst_str_bool, inst_str_int, inst_str_str, inst_str_list, inst_str_tuple, inst_list_bool, inst_list_int, inst_list_str, inst_list_list, inst_list_tuple, inst_tuple_bool, inst_tuple_int, inst_tuple_str, inst_tuple_list, inst_tuple_tuple, iiD, iiD0, subD, mulD, fdivD, modD, shrD, pow_10_6, pow_10_60, ltI, leI, gtI, geI, addI, addD, catD, scatD, lenD, lenS, ixD, ixL, ixLK, ixK, vl, vm, newL, i2D, absD, tupleD, dLM, dLM0, dFld, getF, dGet1, dGet2, getK, dSetIx, rng1, rng2, dFor1, dFor2, dFor, dForK, eqR, rs, dstart, List.map_cons, List.map_nil, List.length_cons, List.length_nil, List.cons_append, List.nil_append, List.replicate, List.getElem?_cons_zero, List.getElem?_cons_succ, List.set_cons_zero, List.set_cons_succ, Option.isSome_some, Option.isNone_some, Option.isNone_none, Nat.add_one_sub_one, Nat.reduceAdd, Nat.reduceSub, Nat.sub_self, Nat.sub_zero, Bool.not_true, Bool.not_false, ↓reduceIte, Bool.false_eq_true, Bool.true_eq_false, okD_int, okD_bl, okD_non, dEq_int, dEq_bl, Bool.true_xor, Bool.false_xor, Bool.not_eq_true', decide_eq_true_eq, decide_eq_false_iff_not, true_and, Bool.and_true, Bool.and_false, Bool.true_and, Bool.false_and, at_0, at_1, at_2, cast0, cast1, cast2, cast3, not_true_eq_false, not_false_eq_true, eL, Option.map_some, Option.map_none, dSlL, slk, doNone, doSome, sortedTD, dLenSet, lsk, wipeD, eTup, listD, g', l', onIns, gf_houses, gf_ties, gf_shy, gf_fond, gf_longings, gfm_see_house, gfm_see_two, gfm_size, gfm_neighbours, gfm_has_way, gfm_lay_way, gfm_lift_way, gfm_like, gfm_liking, gfm_shun, gfm_shunned, gfm_see_road, gfm_wish, gfm_wishes, gfm_rank_of, gp_houses, gp_ties, gp_shy, gp_fond, gp_longings, e]
    exact ⟨by simp [sizeLine], y⟩
  · unfold wishesOf at q
    rw [List.map_map] at q
    exact rt_of q

end DL
namespace DL
open PySem L2
open TL PySem.NumText
theorem tl_neg (k : Nat) : tl (Str.ofString (toString (Int.negSucc k))) = 45 :: numL (k + 1) := by
  show (Str.ofString (toString (Int.negSucc k))).cps.toList = _
  rw [PyProof.Rows.signs_ofString]
  have e : toString (Int.negSucc k) = "-" ++ Nat.repr (k + 1) := rfl
  rw [e, String.toList_append, List.map_append, Nat.toList_repr]
  rfl
def numS (i : Int) : Str := Str.ofString (toString i)
theorem tl_numS (i : Int) : tl (numS i) = if i < 0 then 45 :: numL i.natAbs else numL i.natAbs := by
  match i with
  | .ofNat n => rw [if_neg (by simp)]; exact tl_num n
  | .negSucc k => rw [if_pos (Int.negSucc_lt_zero k)]; exact tl_neg k
theorem numS_signs (i : Int) : ∀ c ∈ tl (numS i), c = 45 ∨ (48 ≤ c ∧ c ≤ 57) := fun c hc => by
  rw [tl_numS] at hc
  split at hc
  · rcases List.mem_cons.mp hc with h | h
    · exact .inl h
    · exact .inr (numL_digits _ c h)
  · exact .inr (numL_digits _ c hc)
theorem numS_len {i : Int} {k : Nat} (hk : 0 < k) (h : i.natAbs < 10 ^ k) : (numS i).length ≤ k + 1 := by
  rw [len_tl, tl_numS]
  have := numL_len hk h
  split
  · rw [List.length_cons]; omega
  · omega
theorem int_numS {i : Int} (h : i.natAbs < 10 ^ 60) : intText? (numS i) = some i := by
  have hl := numS_len (k := 60) (by decide) h
  have e := tl_numS i
  have hz := numL_len (n := i.natAbs) (k := 60) (by decide) h
  by_cases c : i < 0
  · rw [if_pos c] at e
    rw [intText_neg e (numL_digits _) (numL_ne _) (by omega), numL_val]
    congr 1
    omega
  · rw [if_neg c] at e
    have h1 : AllDigits (numS i).cps.toList := by show AllDigits (tl (numS i)); rw [e]; exact numL_digits _
    have h2 : (numS i).cps.toList ≠ [] := by show tl (numS i) ≠ []; rw [e]; exact numL_ne _
    rw [intText_digits h1 h2 (by omega)]
    show some ((digitsVal (tl (numS i)) : Nat) : Int) = some i
    rw [e, numL_val]
    congr 1
    omega
theorem numS_free {i : Int} {s : Nat} (h : s < 45 ∨ 57 < s ∨ s = 46 ∨ s = 47) : s ∉ tl (numS i) := fun hm => by
  rcases numS_signs i s hm with e | e <;> omega

end DL
namespace DL
open PySem L2
def t_line_of (K : PySem.W.Frag) (a : CA) (W : WD) : TDS :=
  (dRet (dOp (addD false) (dJoin (dC (.str " ")) (dLc false (diL (dVar 0)) (dgN 1) dYes (dCB strD (dCons (dVar 1) dNil)) [1])) (dC (.str "\n"))))
abbrev N_line_of : List Str := ["words", "word"]
def wordS : D → Str
  | .int i => numS i
  | .str z => z
  | _ => ""
def okW (d : D) : Prop := (∃ i, d = .int i ∧ i.natAbs < 10 ^ 60) ∨ ∃ z, d = .str z ∧ z.length ≤ 61
def lineS (l : List D) : Str := Txt.join " " (l.map wordS) ++ "\n"
theorem okW_len {d : D} (h : okW d) : (wordS d).length ≤ 61 := by
  rcases h with ⟨i, rfl, h⟩ | ⟨z, rfl, h⟩
  · exact numS_len (k := 60) (by decide) h
  · exact h
theorem sum_le {l : List Nat} {b : Nat} (h : ∀ x ∈ l, x ≤ b) : l.sum ≤ l.length * b := by
  induction l with
  | nil => simp
  | cons x l ih =>
    have := h x List.mem_cons_self
    have := ih fun y hy => h y (List.mem_cons_of_mem _ hy)
    rw [List.sum_cons, List.length_cons, Nat.add_mul, Nat.one_mul]; omega
theorem words_sum {l : List D} (h : ∀ d ∈ l, okW d) : (((l.map wordS).map (·.length)).sum) ≤ l.length * 61 := by
  have := sum_le (l := (l.map wordS).map (·.length)) (b := 61) fun x hx => by
    obtain ⟨y, hy, rfl⟩ := List.mem_map.mp hx
    obtain ⟨d, hd, rfl⟩ := List.mem_map.mp hy
    exact okW_len (h d hd)
  rwa [List.length_map, List.length_map] at this
theorem join_len {a : Str} (l : List Str) : (Txt.join a l).length ≤ (l.map (·.length)).sum + l.length * a.length := by
  rw [TL.join_eq]; exact PySem.StrLaws.join_length_le a l
theorem str_word {d : D} (h : okW d) {S : Sto} {P : D → Sto → Prop} (q : P (.str (wordS d)) S) : strD [d] S P := by
  rcases h with ⟨i, rfl, h⟩ | ⟨z, rfl, _⟩
  · refine ⟨?_, q⟩
    have : i.natAbs < 2 ^ 200 := Nat.lt_trans h (by decide)
    exact Nat.lt_of_le_of_lt (Nat.le_of_lt_succ (Nat.lt_succ_of_lt (by
      by_cases c : i.natAbs = 0
      · rw [c]; decide
      · exact (Nat.log2_lt c).mpr this))) (show 200 < 1920 by decide)
  · exact q
def sp_line_of (a : CA) : DSp := fun ds S P E => ∃ (x : D) (l : List D), ds = [x] ∧ vm S x = some l ∧ (∀ d ∈ l, okW d) ∧ l.length ≤ 1000 ∧ P (.str (lineS l)) S
theorem len_line_of (a : CA) (ds : List D) (S : Sto) (Q : D → Sto → Prop) (E : Addr → Sto → Prop) (h : sp_line_of a ds S Q E) : ds.length = ["words"].length := by
  obtain ⟨_, _, rfl, _⟩ := h; rfl
theorem read_line_of (K : PySem.W.Frag) (a : CA) (ds : List D) (S : Sto) (Q : D → Sto → Prop) (E : Addr → Sto → Prop) (h : sp_line_of a ds S Q E) : t_line_of K a (wishOf E) (endsOf Q) (dstart N_line_of ds) S := by
  obtain ⟨x, l, rfl, hx, hw, hl, q⟩ := h
  have hs : sizeLine = 2 ^ 24 := rfl
  have hsum := words_sum hw
  have hj := join_len (a := " ") (l.map wordS)
  rw [List.length_map] at hj
  have e1 : (" " : Str).length = 1 := by decide
  have e2 : ("\n" : Str).length = 1 := by decide
  rw [e1, Nat.mul_one] at hj
  simp only [t_line_of, N_line_of, dstart, List.map_cons, List.map_nil, List.length_cons, List.length_nil, List.cons_append, List.nil_append, List.replicate, Nat.add_one_sub_one, Nat.reduceAdd, Nat.reduceSub, Nat.sub_self, Nat.sub_zero]
  simp only [dRet, dOp, dJoin, dC, dCons, dNil, dLc, diL, dVar, List.getElem?_cons_zero, List.getElem?_cons_succ]
  rw [vm_vl hx]
  simp only [diLk]
  refine ⟨⟨_, rfl⟩, fun p hp => ?_⟩
  have fin : ∀ S2, S2 = S → ∃ a l' ys, D.str (" " : Str) = D.str a ∧ vm S2 (.lst (l.map fun d => D.str (wordS d))) = some l' ∧ txtsD l' = some ys ∧ (List.map (fun x => x.length) ys).sum + ys.length * a.length ≤ 16777216 ∧ addD false (D.str (Txt.join a ys)) (D.str ("\n" : Str)) S2 (endsOf Q).rt := fun S2 e => by
    subst e
    refine ⟨" ", _, l.map wordS, rfl, rfl, ?_, ?_, ?_⟩
    · have := txtsD_map (l.map wordS)
      rw [List.map_map] at this
      exact this
    · rw [List.length_map, e1]; omega
    · simp only [addD, scatD]
      refine ⟨by rw [e2]; omega, rt_of q⟩
  have h := lc_all (m := false) (g := dgN 1) (te := dCB strD (dCons (dVar 1) dNil)) (ρ0 := wipeD [some x, none] [1]) (still := fun S' => vl S' x = some l) (S1 := S) (P := fun y S2 => ∃ a l' ys, D.str (" " : Str) = D.str a ∧ vm S2 y = some l' ∧ txtsD l' = some ys ∧ (List.map (fun x => x.length) ys).sum + ys.length * a.length ≤ 16777216 ∧ addD false (D.str (Txt.join a ys)) (D.str ("\n" : Str)) S2 (endsOf Q).rt) (fun d : D => d) (fun d => D.str (wordS d)) (xs := l) (by omega) (fun S' hS => vm_vl (vm_le hx hS)) (fun d hd S' Y _ y => by
      simp only [dgN, wipeD, dCB, dCons, dNil, dVar, List.set_cons_zero, List.set_cons_succ, List.getElem?_cons_zero, List.getElem?_cons_succ]
      exact str_word (hw d hd) y) (by simp only [newL, Bool.false_eq_true, ↓reduceIte]; exact fin S rfl) p hp
  rw [List.map_id'] at h
  exact h
theorem x_line_of {a : CA} {x : D} {l : List D} {S : Sto} {P : D → Sto → Prop} {E : Addr → Sto → Prop} (hx : vm S x = some l) (hw : ∀ d ∈ l, okW d) (hl : l.length ≤ 1000) (q : P (.str (lineS l)) S) : sp_line_of a [x] S P E := ⟨x, l, rfl, hx, hw, hl, q⟩

end DL
namespace DL
open PySem L2
def GS.better (s : GS) (x y : List Int) : Bool := if s.rank x ≠ s.rank y then decide (s.rank y < s.rank x) else if x.length ≠ y.length then decide (x.length < y.length) else decide (x < y)
theorem toPs_ints (z : List Int) : toPs (z.map D.int) = z.map PyData.int := by rw [toPs_map, List.map_map]; rfl
open PySem.W in
theorem dLt_R (x y : List Int) : dLt (.lst (x.map .int)) (.lst (y.map .int)) = decide (x < y) := by
  unfold dLt
  simp only [toP, toPs_ints, dataLt_list]
  exact dataLt_ints x y
open PySem.W in
theorem alike_R (x y : List Int) : alike (toP (.lst (x.map .int))) (toP (.lst (y.map .int))) = true := by
  simp only [toP, toPs_ints, alike]; exact alike_ints x y
theorem depth_R (x : List Int) : (toP (.lst (x.map .int))).depth ≤ 64 := Nat.le_trans (encR.dp x) (by decide)
theorem ltD_R {x y : D} {k l : List Int} {S : Sto} {P : D → Sto → Prop} (hx : rs S x = .lst (k.map .int)) (hy : rs S y = .lst (l.map .int)) (q : P (.bl (decide (k < l))) S) : ltD x y S P := by
  unfold ltD
  rw [hx, hy, dLt_R]
  exact ⟨encR.pu k, encR.pu l, alike_R k l, fun z => by simp [toP] at z, depth_R k, q⟩
open PySem.W in
theorem dLt_key (r1 r2 : Int) (k l : List Int) : dLt (.tup [.int (0 - r1), .int k.length, .lst (k.map .int)]) (.tup [.int (0 - r2), .int l.length, .lst (l.map .int)]) = if r1 ≠ r2 then decide (r2 < r1) else if k.length ≠ l.length then decide (k.length < l.length) else decide (k < l) := by
  have e1 : ∀ x y : Int, alike (.int x) (.int y) = true := fun _ _ => rfl
  have e2 : alike (.list (k.map PyData.int)) (.list (l.map PyData.int)) = true := by simp only [alike]; exact alike_ints k l
  have e3 : alike (.list []) (.list []) = true := rfl
  unfold dLt
  simp only [toP, toPs, toPs_ints, dataLt_tuple]
  rw [dataLt_cons (e1 _ _), dataLt_cons (e1 _ _), dataLt_cons e2]
  have q1 : ∀ x y : Int, PyData.eqv (.int x) (.int y) = decide (x = y) := fun x y => by simp only [PyData.eqv]; exact Bool.beq_eq_decide_eq x y
  simp only [q1, dataLt_int, decide_eq_true_eq]
  by_cases c : r1 = r2
  · subst c
    rw [if_pos rfl, if_neg (not_not_intro rfl)]
    by_cases c2 : k.length = l.length
    · rw [if_pos (by rw [c2]), if_neg (not_not_intro c2)]
      have q2 : PyData.eqv (.list (k.map PyData.int)) (.list (l.map PyData.int)) = decide (k = l) := by
        have := encR.eq k l
        simpa only [dEq, eL, toP, toPs_ints] using this
      rw [q2]
      by_cases c3 : k = l
      · subst c3
        rw [if_pos (by simp)]
        have : ¬ (k < k) := List.lt_irrefl k
        rw [decide_eq_false this]
        simp only [keyToksAll, PyProof.Rows.lexLt]
        first | rfl | decide | simp [PyProof.Rows.itemLt]
      · rw [if_neg (by simpa using c3), dataLt_list]
        exact dataLt_ints k l
    · rw [if_neg (by omega), if_pos c2]
      exact decide_eq_decide.mpr (by omega)
  · rw [if_neg (by omega), if_pos c]
    exact decide_eq_decide.mpr (by omega)
open PySem.W in
theorem ltD_key {r1 r2 : Int} {k l : List Int} {S : Sto} {P : D → Sto → Prop} (q : P (.bl (if r1 ≠ r2 then decide (r2 < r1) else if k.length ≠ l.length then decide (k.length < l.length) else decide (k < l))) S) : ltD (.tup [.int (0 - r1), .int k.length, .lst (k.map .int)]) (.tup [.int (0 - r2), .int l.length, .lst (l.map .int)]) S P := by
  unfold ltD
  simp only [rs, vm]
  rw [dLt_key]
  have p : ∀ (r : Int) (k : List Int), pureD (.tup [.int (0 - r), .int k.length, .lst (k.map .int)]) = true := fun r k => by
    simp only [pureD, pureDs, Bool.and_true, Bool.true_and]; exact pureDs_map Enc.int k
  refine ⟨p _ _, p _ _, ?_, fun z => by simp [toP] at z, ?_, q⟩
  · simp only [toP, toPs, toPs_ints, alike, alikeAll, alike_ints, Bool.and_self]
  · have := encR.dp k
    simp only [eL, toP, toPs, PyData.depth, PyData.depthAll] at this ⊢
    omega

end DL
namespace DL
open PySem L2
def GS.told (s : GS) (r : List Int) : Prop := (∀ x ∈ r, s.ok x) ∧ r.getLast? = some 0 ∧ r.Nodup
def takeQ (shy : List Int) (house : Int) : Option (List Int) → Bool
  | none => false
  | some r => !decide (house ∈ r) && !shy.any fun far => decide (far ∈ r)
def GS.look (s : GS) (house : Int) (best : Option (List Int)) (o : Option (List Int)) : Option (List Int) :=
  if takeQ (nb s.n s.H house) house o then match o with
    | none => best
    | some r => match best with
      | none => some (house :: r)
      | some b => if s.better (house :: r) b then some (house :: r) else some b
  else best
def GS.chosen (s : GS) (house : Int) (tl : List (Option (List Int))) : Option (List Int) := if house = 0 then some [0] else tl.foldl (s.look house) none
theorem GS.told.cons {s : GS} {house : Int} {r : List Int} (h : s.told r) (hh : s.ok house) (hn : house ∉ r) : s.rok (house :: r) := by
  have hr : r ≠ [] := fun z => by have := h.2.1; rw [z] at this; cases this
  refine ⟨fun x hx => ?_, ?_, ?_, List.nodup_cons.mpr ⟨hn, h.2.2⟩⟩
  · rcases List.mem_cons.mp hx with rfl | hx
    · exact hh
    · exact h.1 x hx
  · have := List.length_pos_iff.mpr hr
    rw [List.length_cons]; omega
  · rw [List.getLast?_cons, h.2.1]; rfl
theorem GS.told.len {s : GS} {r : List Int} (h : s.told r) : r.length ≤ s.n := nodup_le _ _ h.2.2 fun g hg => h.1 g hg
theorem takeQ_some {shy : List Int} {house : Int} {o : Option (List Int)} (h : takeQ shy house o = true) : ∃ r, o = some r ∧ house ∉ r ∧ ∀ far ∈ shy, far ∉ r := by
  cases o with
  | none => cases h
  | some r =>
    simp only [takeQ, Bool.and_eq_true, Bool.not_eq_true', decide_eq_false_iff_not, List.any_eq_false, decide_eq_true_eq] at h
    exact ⟨r, rfl, h.1, h.2⟩
def GS.mine (s : GS) (house : Int) : Option (List Int) → Prop
  | none => True
  | some b => s.rok b ∧ b.length ≤ s.n + 1 ∧ b.head? = some house
theorem look_mine {s : GS} {house : Int} {best o : Option (List Int)} (hh : s.ok house) (hb : s.mine house best) (ho : ∀ r, o = some r → s.told r) : s.mine house (s.look house best o) := by
  unfold GS.look
  split
  · rename_i c
    obtain ⟨r, rfl, hn, _⟩ := takeQ_some c
    have h1 : s.mine house (some (house :: r)) := ⟨(ho r rfl).cons hh hn, by have := (ho r rfl).len; rw [List.length_cons]; omega, rfl⟩
    cases best with
    | none => exact h1
    | some b => dsimp only; split <;> assumption
  · exact hb
theorem fold_mine {s : GS} {house : Int} (hh : s.ok house) : ∀ (tl : List (Option (List Int))) (best : Option (List Int)), s.mine house best → (∀ r, some r ∈ tl → s.told r) → s.mine house (tl.foldl (s.look house) best)
  | [], best, h, _ => h
  | o :: tl, best, h, ht => fold_mine hh tl _ (look_mine hh h fun r e => ht r (by rw [e]; exact List.mem_cons_self)) fun r hr => ht r (List.mem_cons_of_mem _ hr)

end DL
namespace DL
open PySem L2
def roadGo : Nat → Int → Int → List Int → List Int
  | 0, _, _, _ => []
  | n + 1, cell, many, rest => if 0 < many ∧ 0 < rest.length then rest.getD (cell % rest.length).toNat 0 :: roadGo n (cell / 5) (many - 1) (rest.eraseIdx (cell % rest.length).toNat) else []
theorem roadGo_step {cell many : Int} {rest : List Int} (h1 : 0 < many) (h2 : 0 < rest.length) (hi : (cell % (rest.length : Int)).toNat < rest.length) :
    roadGo rest.length cell many rest = rest[(cell % (rest.length : Int)).toNat] :: roadGo (rest.eraseIdx (cell % (rest.length : Int)).toNat).length (cell / 5) (many - 1) (rest.eraseIdx (cell % (rest.length : Int)).toNat) := by
  have e : ∀ n, rest.length = n + 1 → roadGo (n + 1) cell many rest = rest[(cell % (rest.length : Int)).toNat] :: roadGo n (cell / 5) (many - 1) (rest.eraseIdx (cell % (rest.length : Int)).toNat) := fun n _ => by
    rw [roadGo, if_pos ⟨h1, h2⟩, List.getD_eq_getElem?_getD, List.getElem?_eq_getElem hi]; rfl
  rw [List.length_eraseIdx_of_lt hi]
  have h3 := e (rest.length - 1) (by omega)
  rwa [show rest.length - 1 + 1 = rest.length by omega] at h3
def restOf (house : Int) (size : Nat) : List Int := ((List.range (size - 1)).filter fun i => decide (¬ (1 + (i : Nat) : Int) = house)).map fun i => 1 + (i : Nat)
def roadMany (cell : Int) (size : Nat) : Int := if cell / 4 % 8 = 3 then size else cell % 4
def roadBy (cell house : Int) (size : Nat) : List Int := house :: roadGo (restOf house size).length (cell / 4) (roadMany cell size) (restOf house size) ++ [0]
theorem restOf_mem {house x : Int} {size : Nat} (h : x ∈ restOf house size) : x ≠ house ∧ 1 ≤ x ∧ x < size := by
  unfold restOf at h
  obtain ⟨i, hi, rfl⟩ := List.mem_map.mp h
  have h1 := List.mem_filter.mp hi
  have h2 := List.mem_range.mp h1.1
  have h3 := of_decide_eq_true h1.2
  exact ⟨h3, by omega, by omega⟩
theorem restOf_nodup (house : Int) (size : Nat) : (restOf house size).Nodup := by
  unfold restOf
  unfold List.Nodup
  rw [List.pairwise_map]
  refine ((List.nodup_range (n := size - 1)).filter _).imp fun {x y} h z => h (by omega)
theorem roadGo_mem : ∀ (n : Nat) (cell many : Int) (rest : List Int) (x : Int), x ∈ roadGo n cell many rest → x ∈ rest
  | 0, _, _, _, x, h => by cases h
  | n + 1, cell, many, rest, x, h => by
    rw [roadGo] at h
    split at h
    · rename_i hc
      have b0 : 0 ≤ cell % (rest.length : Int) := Int.emod_nonneg _ (by omega)
      have b1 : cell % (rest.length : Int) < rest.length := Int.emod_lt_of_pos _ (by omega)
      rcases List.mem_cons.mp h with h | h
      · rw [h, List.getD_eq_getElem?_getD, List.getElem?_eq_getElem (by omega)]
        exact List.getElem_mem _
      · exact List.mem_of_mem_eraseIdx (roadGo_mem n _ _ _ x h)
    · cases h
theorem roadGo_nodup : ∀ (n : Nat) (cell many : Int) (rest : List Int), rest.Nodup → (roadGo n cell many rest).Nodup
  | 0, _, _, _, _ => List.nodup_nil
  | n + 1, cell, many, rest, hd => by
    rw [roadGo]
    split
    · rename_i hc
      have b0 : 0 ≤ cell % (rest.length : Int) := Int.emod_nonneg _ (by omega)
      have b1 : cell % (rest.length : Int) < rest.length := Int.emod_lt_of_pos _ (by omega)
      refine List.nodup_cons.mpr ⟨fun hx => ?_, roadGo_nodup n _ _ _ (hd.sublist (List.eraseIdx_sublist ..))⟩
      have h1 := roadGo_mem _ _ _ _ _ hx
      rw [List.getD_eq_getElem?_getD, List.getElem?_eq_getElem (by omega)] at h1
      have h2 : (cell % (rest.length : Int)).toNat < rest.length := by omega
      have h4 := List.mem_eraseIdx_iff_getElem.mp h1
      obtain ⟨j, hj, hne, he⟩ := h4
      exact hne (nodup_inj hd _ _ he)
    · exact List.nodup_nil
theorem roadBy_next {cell house : Int} {size : Nat} (h : 1 ≤ size) : 2 ≤ (roadBy cell house size).length ∧ 0 ≤ (roadBy cell house size).getD 1 0 ∧ (roadBy cell house size).getD 1 0 < size := by
  unfold roadBy
  refine ⟨by simp, ?_⟩
  cases e : roadGo (restOf house size).length (cell / 4) (roadMany cell size) (restOf house size) with
  | nil => simp; omega
  | cons x xs =>
    have h1 := restOf_mem (roadGo_mem _ _ _ _ x (by rw [e]; exact List.mem_cons_self))
    simp; omega

end DL
namespace DL
open PySem L2
def keyRank (fl dl : List (List Int × Int)) (r : List Int) : Int := match kget dl r with
  | some k => k
  | none => (kget fl [r.getD 0 0, r.getD 1 0]).getD 0
theorem keyRank_eq {s : GS} {fl dl : List (List Int × Int)} (hF : ∀ x y, s.F x y = (kget fl [x, y]).getD 0) (hL : ∀ r, kget s.L r = kget dl r) (r : List Int) : keyRank fl dl r = s.rank r := by
  unfold keyRank GS.rank
  rw [hL, hF] <;> rfl

end DL
namespace DL
open PySem L2
abbrev KL := List (List Int × Int)
structure FondOk (n : Nat) (L : KL) : Prop where
  k : ∀ q ∈ L, ∃ x y : Int, q.1 = [x, y] ∧ (0 ≤ x ∧ x < n) ∧ (0 ≤ y ∧ y < n)
  l : L.length ≤ 100
structure DearOk (n : Nat) (L : KL) : Prop where
  k : ∀ q ∈ L, (GS.new n).rok q.1
  l : L.length ≤ 100
  d : (L.map (·.1)).Nodup
theorem rok_n {s s' : GS} (h : s.n = s'.n) {l : List Int} : s.rok l ↔ s'.rok l := by unfold GS.rok GS.rd GS.ok; rw [h]
theorem told_n {s s' : GS} (h : s.n = s'.n) {l : List Int} : s.told l ↔ s'.told l := by unfold GS.told GS.ok; rw [h]
theorem ok_n {s s' : GS} (h : s.n = s'.n) {x : Int} : s.ok x ↔ s'.ok x := by unfold GS.ok; rw [h]
theorem kput_keys {κ β : Type} [DecidableEq κ] (l : List (κ × β)) (k : κ) (v : β) : (kput l k v).map (·.1) = if k ∈ l.map (·.1) then l.map (·.1) else l.map (·.1) ++ [k] := by
  unfold kput
  have e : l.any (fun p => decide (p.1 = k)) = decide (k ∈ l.map (·.1)) := by
    rw [Bool.eq_iff_iff, List.any_eq_true, decide_eq_true_eq, List.mem_map]
    constructor
    · rintro ⟨p, hp, h⟩; exact ⟨p, hp, of_decide_eq_true h⟩
    · rintro ⟨p, hp, h⟩; exact ⟨p, hp, decide_eq_true h⟩
  rw [e]
  by_cases c : k ∈ l.map (·.1)
  · rw [if_pos (decide_eq_true c), if_pos c, List.map_map]
    refine List.map_congr_left fun p _ => ?_
    simp only [Function.comp]
    split <;> rfl
  · rw [if_neg (by simpa using c), if_neg c, List.map_append]; rfl
theorem kput_nodup {κ β : Type} [DecidableEq κ] {l : List (κ × β)} (k : κ) (v : β) (h : (l.map (·.1)).Nodup) : ((kput l k v).map (·.1)).Nodup := by
  rw [kput_keys]
  split
  · exact h
  · rename_i c
    rw [List.nodup_append]
    exact ⟨h, nodup_one k, fun x hx y hy z => c (by rw [List.mem_singleton.mp hy] at z; rw [← z]; exact hx)⟩
theorem kput_mem {κ β : Type} [DecidableEq κ] {l : List (κ × β)} {k : κ} {v : β} {q : κ × β} (h : q ∈ kput l k v) : q.1 = k ∨ ∃ u, (q.1, u) ∈ l := by
  have h2 : q.1 ∈ (kput l k v).map (·.1) := List.mem_map.mpr ⟨q, h, rfl⟩
  rw [kput_keys] at h2
  split at h2
  · obtain ⟨p, hp, e⟩ := List.mem_map.mp h2
    exact .inr ⟨p.2, by rw [← e]; exact hp⟩
  · rcases List.mem_append.mp h2 with h2 | h2
    · obtain ⟨p, hp, e⟩ := List.mem_map.mp h2
      exact .inr ⟨p.2, by rw [← e]; exact hp⟩
    · exact .inl (List.mem_singleton.mp h2)
theorem kput_new {κ β : Type} [DecidableEq κ] {l : List (κ × β)} {k : κ} {v : β} (h : k ∉ l.map (·.1)) : kput l k v = l ++ [(k, v)] := by
  unfold kput
  rw [if_neg]
  intro z
  obtain ⟨p, hp, e⟩ := List.any_eq_true.mp z
  exact h (List.mem_map.mpr ⟨p, hp, of_decide_eq_true e⟩)
theorem DearOk.put {n : Nat} {L : KL} {r : List Int} {k : Int} (h : DearOk n L) (hr : (GS.new n).rok r) (hl : L.length < 100) : DearOk n (kput L r k) :=
  ⟨fun q hq => by
    rcases kput_mem hq with e | ⟨u, e⟩
    · rw [e]; exact hr
    · exact h.k (q.1, u) e, Nat.le_trans (kput_len _ _ _) hl, kput_nodup _ _ h.d⟩
theorem FondOk.put {n : Nat} {L : KL} {x y k : Int} (h : FondOk n L) (hx : 0 ≤ x ∧ x < n) (hy : 0 ≤ y ∧ y < n) (hl : L.length < 100) : FondOk n (kput L [x, y] k) :=
  ⟨fun q hq => by
    rcases kput_mem hq with e | ⟨u, e⟩
    · exact ⟨x, y, e, hx, hy⟩
    · exact h.k (q.1, u) e, Nat.le_trans (kput_len _ _ _) hl⟩
theorem FondOk.nil (n : Nat) : FondOk n [] := ⟨fun q h => (by cases h), Nat.zero_le _⟩
theorem DearOk.nil (n : Nat) : DearOk n [] := ⟨fun q h => (by cases h), Nat.zero_le _, List.nodup_nil⟩
structure WayOk (n : Nat) (w : WL) : Prop where
  k : ∀ p ∈ w, (0 ≤ p.1 ∧ p.1 < p.2 ∧ p.2 < n)
  d : w.Nodup
  l : w.length ≤ 100000
structure ShyOk (n : Nat) (w : WL) : Prop where
  k : ∀ p ∈ w, (0 ≤ p.1 ∧ p.1 < n) ∧ (0 ≤ p.2 ∧ p.2 < n) ∧ p.1 ≠ p.2
  l : w.length ≤ 1000
def gOf (n : Nat) (wl : WL) (fl dl : KL) (sl : WL) : GS := ⟨n, relW wl, fun x y => decide ((x, y) ∈ sl), fun x y => (kget fl [x, y]).getD 0, dl⟩
theorem roadBy_ok {cell house : Int} {n : Nat} (h : 1 ≤ house ∧ house < n) : (GS.new n).rok (roadBy cell house n) := by
  have hn : 1 ≤ n := by omega
  have hm := fun x (hx : x ∈ roadGo (restOf house n).length (cell / 4) (roadMany cell n) (restOf house n)) => restOf_mem (roadGo_mem _ _ _ _ x hx)
  have hd := roadGo_nodup (restOf house n).length (cell / 4) (roadMany cell n) (restOf house n) (restOf_nodup house n)
  unfold roadBy
  refine ⟨fun x hx => ?_, by simp, by rw [List.cons_append, List.getLast?_cons, List.getLast?_append]; simp, ?_⟩
  · show 0 ≤ x ∧ x < (n : Int)
    simp only [List.cons_append, List.mem_cons, List.mem_append, List.not_mem_nil, or_false] at hx
    rcases hx with rfl | hx | rfl
    · omega
    · have := hm x hx; omega
    · omega
  · rw [List.cons_append, List.nodup_cons, List.nodup_append]
    refine ⟨fun z => ?_, hd, nodup_one 0, fun x hx y hy z => ?_⟩
    · rcases List.mem_append.mp z with z | z
      · exact (hm _ z).1 rfl
      · rw [List.mem_singleton.mp z] at h; omega
    · rw [List.mem_singleton.mp hy] at z
      have := hm x hx; omega
theorem roadBy_told {cell house : Int} {n : Nat} (h : 1 ≤ house ∧ house < n) : (GS.new n).told (roadBy cell house n) := let ⟨a, _, b, c⟩ := roadBy_ok (cell := cell) h; ⟨a, b, c⟩
theorem rok_len {s : GS} {l : List Int} (h : s.rok l) : l.length ≤ s.n := nodup_le _ _ h.2.2.2 fun g hg => h.1 g hg
theorem SLe.put {S0 S : Sto} {p : Addr} {c : Cl} (h : SLe S0 S) (hp : S0 p = none) : SLe S0 (DL.su S p c) := fun b v hb => by
  rw [su_ne fun z => by rw [z, hp] at hb; cases hb]; exact h b v hb
theorem SLe.stepG {S0 S S' : Sto} {A : GA} (h : SLe S0 S) (hA : ∀ b ∈ A.all, S0 b = none) (f : ∀ b, b ∉ A.all → S' b = S b) : SLe S0 S' := fun b v hb => by
  rw [f b fun z => by rw [hA b z] at hb; cases hb]; exact h b v hb
theorem SLe.none {S0 S : Sto} {p : Addr} (h : SLe S0 S) (hp : S p = none) : S0 p = none := by
  cases c : S0 p with
  | none => rfl
  | some v => rw [h p v c] at hp; cases hp
theorem lex_total {k l : List Int} (h : k ≠ l) : decide (l < k) = !decide (k < l) := by
  by_cases c : k < l
  · rw [decide_eq_true c, decide_eq_false (List.lt_asymm c)]; rfl
  · rw [decide_eq_false c]
    by_cases c2 : l < k
    · rw [decide_eq_true c2]; rfl
    · exact absurd (List.le_antisymm (List.not_lt.mp c2) (List.not_lt.mp c)) h
theorem better_not {s : GS} {k l : List Int} (h : k ≠ l) : s.better l k = !s.better k l := by
  unfold GS.better
  by_cases c : s.rank k = s.rank l
  · rw [if_neg (not_not_intro c.symm), if_neg (not_not_intro c)]
    by_cases c2 : k.length = l.length
    · rw [if_neg (not_not_intro c2.symm), if_neg (not_not_intro c2)]; exact lex_total h
    · rw [if_pos (Ne.symm c2), if_pos c2, ← decide_not, decide_eq_decide]; omega
  · rw [if_pos (Ne.symm c), if_pos c, ← decide_not, decide_eq_decide]; omega
theorem better_key {s : GS} {fl dl : KL} {k l : List Int} (hk : keyRank fl dl k = s.rank k) (hl : keyRank fl dl l = s.rank l) : (if keyRank fl dl k ≠ keyRank fl dl l then decide (keyRank fl dl l < keyRank fl dl k) else if k.length ≠ l.length then decide (k.length < l.length) else decide (k < l)) = s.better k l := by
  rw [hk, hl]; rfl
structure Same' (s : GS) (fl dl : KL) (sl : WL) : Prop where
  F : ∀ x y, s.F x y = (kget fl [x, y]).getD 0
  L : ∀ r, kget s.L r = kget dl r
  H : ∀ x y : Int, 0 ≤ x → x < s.n → 0 ≤ y → y < s.n → s.H x y = decide ((x, y) ∈ sl)
theorem takeQ_same {s : GS} {fl dl : KL} {sl : WL} (e : Same' s fl dl sl) {house : Int} (hh : s.ok house) {r : List Int} (hr : s.told r) : takeQ (nb s.n s.H house) house (some r) = (!decide (house ∈ r) && !r.any fun far => decide ((house, far) ∈ sl)) := by
  simp only [takeQ]
  congr 2
  rw [Bool.eq_iff_iff, List.any_eq_true, List.any_eq_true]
  constructor
  · rintro ⟨x, hx, h⟩
    have h1 := nb_mem.mp hx
    exact ⟨x, of_decide_eq_true h, by rw [← e.H house x hh.1 hh.2 h1.1.1 h1.1.2]; exact h1.2⟩
  · rintro ⟨x, hx, h⟩
    have h1 := hr.1 x hx
    exact ⟨x, nb_mem.mpr ⟨h1, by rw [e.H house x hh.1 hh.2 h1.1 h1.2]; exact h⟩, decide_eq_true hx⟩
theorem app_nodup {w : WL} {q : Int × Int} (h : w.Nodup) (hq : q ∉ w) : (w ++ [q]).Nodup := by
  rw [List.nodup_append]
  exact ⟨h, nodup_one q, fun x hx y hy z => hq (by rw [List.mem_singleton.mp hy] at z; rw [← z]; exact hx)⟩
structure FreshG (S S' : Sto) (A : GA) : Prop where
  o : ∀ b, b ∉ A.all → S' b = S b
  n : ∀ b ∈ A.all, S b = none
theorem FreshG.le {S S' : Sto} {A : GA} (f : FreshG S S' A) : SLe S S' := fun b v hb => by
  rw [f.o b fun z => by rw [f.n b z] at hb; cases hb]; exact hb
theorem FreshG.step {S S' S'' : Sto} {A : GA} (f : FreshG S S' A) (h : ∀ b, b ∉ A.all → S'' b = S' b) : FreshG S S'' A := ⟨fun b hb => by rw [h b hb]; exact f.o b hb, f.n⟩
theorem FreshG.vm {S S' : Sto} {A : GA} (f : FreshG S S' A) {x : D} {xs : List D} (h : DL.vm S x = some xs) : DL.vm S' x = some xs := vm_le h f.le
theorem FreshG.at {S S' : Sto} {A : GA} (f : FreshG S S' A) {p : Addr} {c : Cl} (h : S p = some c) : S' p = some c := f.le p c h

end DL
namespace DL
open PySem L2
def lexK (n : Nat) (R : Int → Int → Bool) (k : Nat) : WL := (List.range k).flatMap fun i : Nat => (nb n R (i : Int)).map fun b => ((i : Int), b)
def lexP (n : Nat) (R : Int → Int → Bool) : WL := lexK n R n
theorem lexK_succ (n : Nat) (R : Int → Int → Bool) (k : Nat) : lexK n R (k + 1) = lexK n R k ++ (nb n R (k : Int)).map fun b => ((k : Int), b) := by
  unfold lexK
  rw [List.range_succ, List.flatMap_append]
  simp
theorem lexK_mem {n k : Nat} {R : Int → Int → Bool} {p : Int × Int} : p ∈ lexK n R k ↔ (0 ≤ p.1 ∧ p.1 < k) ∧ (0 ≤ p.2 ∧ p.2 < n) ∧ R p.1 p.2 = true := by
  unfold lexK
  rw [List.mem_flatMap]
  constructor
  · rintro ⟨i, hi, h⟩
    obtain ⟨b, hb, rfl⟩ := List.mem_map.mp h
    have h1 := List.mem_range.mp hi
    have h2 := nb_mem.mp hb
    exact ⟨⟨by dsimp only; omega, by dsimp only; omega⟩, h2.1, h2.2⟩
  · rintro ⟨h1, h2, h3⟩
    obtain ⟨x, y⟩ := p
    dsimp only at h1 h2 h3
    refine ⟨x.toNat, List.mem_range.mpr (by omega), List.mem_map.mpr ⟨y, nb_mem.mpr ⟨h2, ?_⟩, ?_⟩⟩
    · rw [show ((x.toNat : Nat) : Int) = x by omega]; exact h3
    · rw [show ((x.toNat : Nat) : Int) = x by omega]
theorem lexK_len (n : Nat) (R : Int → Int → Bool) : ∀ k, (lexK n R k).length ≤ k * n
  | 0 => by simp [lexK]
  | k + 1 => by
    rw [lexK_succ, List.length_append, List.length_map]
    have := lexK_len n R k
    have := nb_len n R (k : Int)
    rw [Nat.add_mul]; omega
theorem lexP_len {n : Nat} (R : Int → Int → Bool) (h : n ≤ 60) : (lexP n R).length ≤ 3600 := Nat.le_trans (lexK_len n R n) (Nat.mul_le_mul h h)
abbrev pK (p : Int × Int) : List Int := [p.1, p.2]
theorem pK_lt {p q : Int × Int} : pK p < pK q ↔ p.1 < q.1 ∨ (p.1 = q.1 ∧ p.2 < q.2) := by
  simp only [pK, List.cons_lt_cons_iff, List.lt_irrefl, and_false, or_false, List.not_lt_nil]
theorem lexK_pw (n : Nat) (R : Int → Int → Bool) : ∀ k, (lexK n R k).Pairwise fun p q => pK p < pK q
  | 0 => by simp [lexK]
  | k + 1 => by
    rw [lexK_succ, List.pairwise_append]
    refine ⟨lexK_pw n R k, ?_, fun p hp q hq => ?_⟩
    · rw [List.pairwise_map]
      refine List.Pairwise.imp (R := fun x y : Int => x < y) (fun {x y} h => ?_) (nb_pw n R (k : Int))
      exact pK_lt.mpr (.inr ⟨rfl, by dsimp only; exact h⟩)
    · obtain ⟨b, _, rfl⟩ := List.mem_map.mp hq
      have := (lexK_mem.mp hp).1
      exact pK_lt.mpr (.inl (by dsimp only; omega))
def ltR (T : Int → Int → Bool) : Int → Int → Bool := fun x y => decide (x < y) && T x y
def nzR (F : Int → Int → Int) : Int → Int → Bool := fun x y => decide (F x y ≠ 0)
def wayRow (p : Int × Int) : List D := [.str "way", .int p.1, .int p.2]
def likeRow (F : Int → Int → Int) (p : Int × Int) : List D := [.str "like", .int p.1, .int p.2, .int (F p.1 p.2)]
def shunRow (p : Int × Int) : List D := [.str "shun", .int p.1, .int p.2]
def wishRow (q : List Int × Int) : List D := [.str "wish", .int q.2] ++ q.1.map .int
def headRow (n : Nat) : List D := [.str "houses", .int n]
def rowsT (s : GS) : List (List D) := [headRow s.n] ++ (lexP s.n (ltR s.T)).map wayRow ++ (lexP s.n (nzR s.F)).map (likeRow s.F) ++ (lexP s.n s.H).map shunRow ++ (wishesOf s.L).map wishRow
def textOf (s : GS) : Str := Txt.join "" ((rowsT s).map lineS)
structure TxtOk (s : GS) : Prop where
  f : ∀ x y, s.ok x → s.ok y → (s.F x y).natAbs < 10 ^ 60
  k : ∀ p ∈ s.L, s.rok p.1 ∧ p.2.natAbs < 10 ^ 60
  l : s.L.length ≤ 1000
theorem okW_int {i : Int} (h : i.natAbs < 10 ^ 60) : okW (.int i) := .inl ⟨i, rfl, h⟩
theorem okW_sm {i : Int} (h : 0 ≤ i ∧ i < 100) : okW (.int i) := .inl ⟨i, rfl, by omega⟩
theorem okW_str {z : Str} (h : z.length ≤ 61 := by decide) : okW (.str z) := .inr ⟨z, rfl, h⟩
theorem lineS_len {l : List D} (h : ∀ d ∈ l, okW d) : (lineS l).length ≤ l.length * 62 + 1 := by
  have h1 := words_sum h
  have h2 := join_len (a := " ") (l.map wordS)
  rw [List.length_map] at h2
  have e1 : (" " : Str).length = 1 := by decide
  have e2 : ("\n" : Str).length = 1 := by decide
  unfold lineS
  rw [TL.len_tl, TL.tl_append, List.length_append, ← TL.len_tl, ← TL.len_tl, e2]
  rw [e1] at h2
  omega
theorem wish_at {s : GS} {p : List Int × Int} (h : TxtOk s) (hp : p ∈ wishesOf s.L) : s.rok p.1 ∧ p.2.natAbs < 10 ^ 60 := by
  unfold wishesOf at hp
  obtain ⟨k, hk, rfl⟩ := List.mem_map.mp hp
  have hk2 : k ∈ s.L.map (·.1) := (sortK_perm _).mem_iff.mp hk
  obtain ⟨v, ev⟩ := kget_some hk2
  have hmem : (k, v) ∈ s.L := by
    unfold kget at ev
    cases e : s.L.find? fun p => decide (p.1 = k) with
    | none => rw [e] at ev; cases ev
    | some q =>
      rw [e] at ev
      have h1 := List.mem_of_find?_eq_some e
      have h2 : q.1 = k := by simpa using List.find?_some e
      obtain ⟨q1, q2⟩ := q
      cases ev
      dsimp only at h2
      rw [← h2]; exact h1
  have := h.k _ hmem
  rw [ev]
  exact this
theorem okW_wish {s : GS} {p : List Int × Int} (h : TxtOk s) (n2 : s.n ≤ 60) (hp : p ∈ wishesOf s.L) : (∀ d ∈ wishRow p, okW d) ∧ (wishRow p).length ≤ 62 := by
  obtain ⟨h1, h2⟩ := wish_at h hp
  constructor
  · intro d hd
    unfold wishRow at hd
    simp only [List.cons_append, List.nil_append, List.mem_cons, List.mem_map] at hd
    rcases hd with rfl | rfl | ⟨x, hx, rfl⟩
    · exact okW_str
    · exact okW_int h2
    · have := h1.1 x hx
      exact okW_sm ⟨this.1, by have := this.2; omega⟩
  · have := rok_len h1
    unfold wishRow
    rw [List.length_append, List.length_map]
    show 2 + _ ≤ 62
    omega
theorem rows_ok {s : GS} (h : TxtOk s) (n2 : s.n ≤ 60) : ∀ r ∈ rowsT s, (∀ d ∈ r, okW d) ∧ r.length ≤ 62 := by
  intro r hr
  unfold rowsT at hr
  have sm : ∀ {x : Int}, 0 ≤ x → x < s.n → okW (.int x) := fun h0 h1 => okW_sm ⟨h0, by omega⟩
  simp only [List.mem_append, List.mem_singleton, List.mem_map] at hr
  rcases hr with (((rfl | ⟨p, hp, rfl⟩) | ⟨p, hp, rfl⟩) | ⟨p, hp, rfl⟩) | ⟨p, hp, rfl⟩
  · refine ⟨fun d hd => ?_, by simp [headRow]⟩
    simp only [headRow, List.mem_cons, List.not_mem_nil, or_false] at hd
    rcases hd with rfl | rfl
    · exact okW_str
    · exact okW_sm ⟨by omega, by omega⟩
  · have hm := lexK_mem.mp hp
    refine ⟨fun d hd => ?_, by simp [wayRow]⟩
    simp only [wayRow, List.mem_cons, List.not_mem_nil, or_false] at hd
    rcases hd with rfl | rfl | rfl
    · exact okW_str
    · exact sm hm.1.1 hm.1.2
    · exact sm hm.2.1.1 hm.2.1.2
  · have hm := lexK_mem.mp hp
    refine ⟨fun d hd => ?_, by simp [likeRow]⟩
    simp only [likeRow, List.mem_cons, List.not_mem_nil, or_false] at hd
    rcases hd with rfl | rfl | rfl | rfl
    · exact okW_str
    · exact sm hm.1.1 hm.1.2
    · exact sm hm.2.1.1 hm.2.1.2
    · exact okW_int (h.f _ _ hm.1 hm.2.1)
  · have hm := lexK_mem.mp hp
    refine ⟨fun d hd => ?_, by simp [shunRow]⟩
    simp only [shunRow, List.mem_cons, List.not_mem_nil, or_false] at hd
    rcases hd with rfl | rfl | rfl
    · exact okW_str
    · exact sm hm.1.1 hm.1.2
    · exact sm hm.2.1.1 hm.2.1.2
  · exact okW_wish h n2 hp
theorem rowsT_len {s : GS} (h : TxtOk s) (n2 : s.n ≤ 60) : (rowsT s).length ≤ 12000 := by
  have h1 := lexP_len (ltR s.T) n2
  have h2 := lexP_len (nzR s.F) n2
  have h3 := lexP_len s.H n2
  have h4 := wishes_len s.L
  have h5 := h.l
  unfold rowsT
  simp only [List.length_append, List.length_map, List.length_singleton]
  omega
def rowW (r : List D) : Nat := (lineS r).length
theorem sum_app (l m : List Nat) : (l ++ m).sum = l.sum + m.sum := by rw [List.sum_append]
theorem text_sum {s : GS} (h : TxtOk s) (n2 : s.n ≤ 60) : (((rowsT s).map lineS).map (·.length)).sum ≤ 9000000 := by
  have ok := rows_ok h n2
  have b3 : ∀ (l : List (List D)), (∀ r ∈ l, (∀ d ∈ r, okW d) ∧ r.length ≤ 4) → ((l.map lineS).map (·.length)).sum ≤ l.length * 249 := fun l hl => by
    have := sum_le (l := (l.map lineS).map (·.length)) (b := 249) fun x hx => by
      obtain ⟨y, hy, rfl⟩ := List.mem_map.mp hx
      obtain ⟨r, hr, rfl⟩ := List.mem_map.mp hy
      have h1 := lineS_len (hl r hr).1
      have h2 := (hl r hr).2
      have : r.length * 62 ≤ 4 * 62 := Nat.mul_le_mul_right _ h2
      omega
    rwa [List.length_map, List.length_map] at this
  have h4 : (((wishesOf s.L).map wishRow).map lineS |>.map (·.length)).sum ≤ 1000 * 3845 := by
    have := sum_le (l := (((wishesOf s.L).map wishRow).map lineS).map (·.length)) (b := 3845) fun x hx => by
      obtain ⟨y, hy, rfl⟩ := List.mem_map.mp hx
      obtain ⟨r, hr, rfl⟩ := List.mem_map.mp hy
      obtain ⟨p, hp, rfl⟩ := List.mem_map.mp hr
      have ow := okW_wish h n2 hp
      have h1 := lineS_len ow.1
      have : (wishRow p).length * 62 ≤ 62 * 62 := Nat.mul_le_mul_right _ ow.2
      omega
    rw [List.length_map, List.length_map, List.length_map, wishes_len] at this
    exact Nat.le_trans this (Nat.mul_le_mul_right _ h.l)
  have h1 := lexP_len (ltR s.T) n2
  have h2 := lexP_len (nzR s.F) n2
  have h3 := lexP_len s.H n2
  have m1 := b3 ((lexP s.n (ltR s.T)).map wayRow) fun r hr => ⟨(ok r (by unfold rowsT; simp only [List.mem_append]; exact .inl (.inl (.inl (.inr hr))))).1, by obtain ⟨p, _, rfl⟩ := List.mem_map.mp hr; simp [wayRow]⟩
  have m2 := b3 ((lexP s.n (nzR s.F)).map (likeRow s.F)) fun r hr => ⟨(ok r (by unfold rowsT; simp only [List.mem_append]; exact .inl (.inl (.inr hr)))).1, by obtain ⟨p, _, rfl⟩ := List.mem_map.mp hr; simp [likeRow]⟩
  have m3 := b3 ((lexP s.n s.H).map shunRow) fun r hr => ⟨(ok r (by unfold rowsT; simp only [List.mem_append]; exact .inl (.inr hr))).1, by obtain ⟨p, _, rfl⟩ := List.mem_map.mp hr; simp [shunRow]⟩
  have m0 := b3 [headRow s.n] fun r hr => ⟨(ok r (by unfold rowsT; simp only [List.mem_append]; exact .inl (.inl (.inl (.inl hr))))).1, by rw [List.mem_singleton.mp hr]; simp [headRow]⟩
  simp only [List.length_map, List.length_singleton] at m0 m1 m2 m3
  unfold rowsT
  simp only [List.map_append, List.sum_append] at m0 m1 m2 m3 h4 ⊢
  omega
def sW (p : Int × Int) : D := .str (lineS (wayRow p))
def sL (F : Int → Int → Int) (p : Int × Int) : D := .str (lineS (likeRow F p))
def sH (p : Int × Int) : D := .str (lineS (shunRow p))
def sQ (p : List Int × Int) : D := .str (lineS (wishRow p))

end DL
namespace DL
open PySem L2
theorem ne_i {i j : Int} {S : Sto} {P : D → Sto → Prop} (h : i = j) (q : P (.bl false) S) : eqR true (.int i) (.int j) S P := ⟨rfl, rfl, by simp only [rs, vm, dEq_int, h, decide_true]; exact q⟩
theorem eq_i {i j : Int} {S : Sto} {P : D → Sto → Prop} (h : i = j) (q : P (.bl true) S) : eqR false (.int i) (.int j) S P := ⟨rfl, rfl, by simp only [rs, vm, dEq_int, h, decide_true]; exact q⟩
theorem ne_R {x y : List Int} {S : Sto} {P : D → Sto → Prop} (h : x = y) (q : P (.bl false) S) : eqR true (.lst (x.map .int)) (.lst (y.map .int)) S P := ⟨okD_R x, okD_R y, by simp only [rs, vm, dEq_R, h, decide_true]; exact q⟩
theorem eq_R {x y : List Int} {S : Sto} {P : D → Sto → Prop} (h : x = y) (q : P (.bl true) S) : eqR false (.lst (x.map .int)) (.lst (y.map .int)) S P := ⟨okD_R x, okD_R y, by simp only [rs, vm, dEq_R, h, decide_true]; exact q⟩
theorem ne_s {x : Str} {S : Sto} {P : D → Sto → Prop} (o : PyData.strOk x = true) (q : P (.bl false) S) : eqR true (.str x) (.str x) S P := ⟨okD_str o, okD_str o, by simp only [rs, vm, dEq_str, decide_true]; exact q⟩
theorem eqR_i {neg : Bool} {i j : Int} {S : Sto} {P : D → Sto → Prop} (q : P (.bl (neg ^^ decide (i = j))) S) : eqR neg (.int i) (.int j) S P := ⟨rfl, rfl, by simp only [rs, vm, dEq_int]; exact q⟩
theorem eqR_R {neg : Bool} {x y : List Int} {S : Sto} {P : D → Sto → Prop} (q : P (.bl (neg ^^ decide (x = y))) S) : eqR neg (.lst (x.map .int)) (.lst (y.map .int)) S P := ⟨okD_R x, okD_R y, by simp only [rs, vm, dEq_R]; exact q⟩

end DL
namespace DL
open PySem L2
def t_shown_4 (K : PySem.W.Frag) (a : CA) (W : WD) : TDS :=
  (dSeq (dAsg (dLc false (diL (dMeth a.Guild "wishes" (sp_Guild_wishes a) W (dVar 0) dNil)) (dgN 7) dYes (dCall (sp_line_of a) W0 (dCons (dOp (addD false) (dLst false (dCons (dC (.str "wish")) (dCons (dOp ixD (dVar 7) (dC (.int 1))) dNil))) (dOp ixD (dVar 7) (dC (.int 0)))) dNil)) [7]) (dgN 6))
  (dRet (dJoin (dC (.str "")) (dOp (addD false) (dOp (addD false) (dOp (addD false) (dOp (addD false) (dLst false (dCons (dCall (sp_line_of a) W (dCons (dLst false (dCons (dC (.str "houses")) (dCons (dMeth a.Guild "size" (sp_Guild_size a) W (dVar 0) dNil) dNil))) dNil)) dNil)) (dVar 1)) (dVar 2)) (dVar 3)) (dVar 6)))))
def t_shown (K : PySem.W.Frag) (a : CA) (W : WD) : TDS :=
  (dSeq (dAsg (dLst true dNil) (dgN 1))
  (dSeq (dAsg (dLst true dNil) (dgN 2))
  (dSeq (dAsg (dLst true dNil) (dgN 3))
  (dSeq (dFor1 (dCons (dMeth a.Guild "size" (sp_Guild_size a) W (dVar 0) dNil) dNil) (dgN 4)
    (dSeq (dFor (dMeth a.Guild "neighbours" (sp_Guild_neighbours a) W (dVar 0) (dCons (dVar 4) dNil)) (dgN 5)
      (dIfS (dB (dOp ltI (dVar 4) (dVar 5)))
        (dDrop (dLM appendD (dVar 1) (dCons (dCall (sp_line_of a) W (dCons (dLst false (dCons (dC (.str "way")) (dCons (dVar 4) (dCons (dVar 5) dNil)))) dNil)) dNil)))
        dNext))
    (dSeq (dFor1 (dCons (dMeth a.Guild "size" (sp_Guild_size a) W (dVar 0) dNil) dNil) (dgN 5)
      (dIfS (dB (dOp (eqR true) (dMeth a.Guild "liking" (sp_Guild_liking a) W (dVar 0) (dCons (dVar 4) (dCons (dVar 5) dNil))) (dC (.int 0))))
        (dDrop (dLM appendD (dVar 2) (dCons (dCall (sp_line_of a) W (dCons (dLst false (dCons (dC (.str "like")) (dCons (dVar 4) (dCons (dVar 5) (dCons (dMeth a.Guild "liking" (sp_Guild_liking a) W (dVar 0) (dCons (dVar 4) (dCons (dVar 5) dNil))) dNil))))) dNil)) dNil)))
        dNext))
    (dFor (dMeth a.Guild "shunned" (sp_Guild_shunned a) W (dVar 0) (dCons (dVar 4) dNil)) (dgN 5)
      (dDrop (dLM appendD (dVar 3) (dCons (dCall (sp_line_of a) W (dCons (dLst false (dCons (dC (.str "shun")) (dCons (dVar 4) (dCons (dVar 5) dNil)))) dNil)) dNil)))))))
  (t_shown_4 K a W)))))
abbrev N_shown : List Str := ["guild", "ways", "likes", "shuns", "a", "b", "wishes", "pair"]
structure Pens (S0 S : Sto) (a : CA) (A : GA) (s : GS) (m : Nat) (p1 p2 p3 : Addr) (W L H : WL) : Prop where
  e : S = su (su (su S0 p1 (.ml (W.map sW))) p2 (.ml (L.map (sL s.F)))) p3 (.ml (H.map sH))
  g : GAt a S0 A s m
  f1 : S0 p1 = none
  f2 : S0 p2 = none
  f3 : S0 p3 = none
  n12 : p1 ≠ p2
  n13 : p1 ≠ p3
  n23 : p2 ≠ p3
section
variable {S0 S : Sto} {a : CA} {A : GA} {s : GS} {m : Nat} {p1 p2 p3 : Addr} {W L H : WL}
theorem Pens.gat (x : Pens S0 S a A s m p1 p2 p3 W L H) : GAt a S A s m := by
  rw [x.e]
  refine GAt.su (GAt.su (x.g.su x.f1) ?_) ?_
  · rw [su_ne (Ne.symm x.n12)]; exact x.f2
  · rw [su_ne (Ne.symm x.n23), su_ne (Ne.symm x.n13)]; exact x.f3
theorem Pens.at1 (x : Pens S0 S a A s m p1 p2 p3 W L H) : S p1 = some (.ml (W.map sW)) := by rw [x.e, su_ne x.n13, su_ne x.n12, su_same]
theorem Pens.at2 (x : Pens S0 S a A s m p1 p2 p3 W L H) : S p2 = some (.ml (L.map (sL s.F))) := by rw [x.e, su_ne x.n23, su_same]
theorem Pens.at3 (x : Pens S0 S a A s m p1 p2 p3 W L H) : S p3 = some (.ml (H.map sH)) := by rw [x.e, su_same]
theorem Pens.w1 (x : Pens S0 S a A s m p1 p2 p3 W L H) (p : Int × Int) : Pens S0 (su S p1 (.ml (W.map sW ++ [sW p]))) a A s m p1 p2 p3 (W ++ [p]) L H := by
  refine ⟨?_, x.g, x.f1, x.f2, x.f3, x.n12, x.n13, x.n23⟩
  rw [x.e, su_at2 x.n12 x.n13, List.map_append]; rfl
theorem Pens.w2 (x : Pens S0 S a A s m p1 p2 p3 W L H) (p : Int × Int) : Pens S0 (su S p2 (.ml (L.map (sL s.F) ++ [sL s.F p]))) a A s m p1 p2 p3 W (L ++ [p]) H := by
  refine ⟨?_, x.g, x.f1, x.f2, x.f3, x.n12, x.n13, x.n23⟩
  rw [x.e, su_two x.n23, List.map_append]; rfl
theorem Pens.w3 (x : Pens S0 S a A s m p1 p2 p3 W L H) (p : Int × Int) : Pens S0 (su S p3 (.ml (H.map sH ++ [sH p]))) a A s m p1 p2 p3 W L (H ++ [p]) := by
  refine ⟨?_, x.g, x.f1, x.f2, x.f3, x.n12, x.n13, x.n23⟩
  rw [x.e, su_su, List.map_append]; rfl
theorem Pens.le (x : Pens S0 S a A s m p1 p2 p3 W L H) : SLe S0 S := by
  rw [x.e]
  exact ((SLe.refl S0).put x.f1 |>.put x.f2).put x.f3
end
def sp_shown (a : CA) : DSp := fun ds S P E => ∃ (A : GA) (s : GS) (m : Nat), ds = [.ref A.g] ∧ GAt a S A s m ∧ m < 1000000 ∧ TxtOk s ∧ P (.str (textOf s)) S
theorem len_shown (a : CA) (ds : List D) (S : Sto) (Q : D → Sto → Prop) (E : Addr → Sto → Prop) (h : sp_shown a ds S Q E) : ds.length = ["guild"].length := by
  obtain ⟨_, _, _, rfl, _⟩ := h; rfl
theorem nb_snoc_filter {l : List Int} {p : Int → Bool} {x : Int} : (l ++ [x]).filter p = l.filter p ++ (if p x = true then [x] else []) := by
  rw [List.filter_append]; congr 1
  by_cases c : p x = true
  · rw [if_pos c, List.filter_cons_of_pos c, List.filter_nil]
  · rw [if_neg c, List.filter_cons_of_neg c, List.filter_nil]
theorem lexK_small {n k : Nat} (R : Int → Int → Bool) (hk : k ≤ 60) (hn : n ≤ 60) : (lexK n R k).length ≤ 3600 := Nat.le_trans (lexK_len n R k) (Nat.mul_le_mul hk hn)
theorem shown_end (K : PySem.W.Frag) (a : CA) (S : Sto) (Q : D → Sto → Prop) (E : Addr → Sto → Prop) {A : GA} {s : GS} {m : Nat} (q : Q (.str (textOf s)) S) (n1 : 1 ≤ s.n) (n2 : s.n ≤ 60) (g : GAt a S A s m) (hm : m < 1000000) (ht : TxtOk s) {S' : Sto} {p1 p2 p3 : Addr}
    (P1 : Pens S S' a A s m p1 p2 p3 (lexK s.n (ltR s.T) s.n) (lexK s.n (nzR s.F) s.n) (lexK s.n s.H s.n)) (o4 o5 : Option D) : t_shown_4 K a (wishOf E) (endsOf Q) [some (.ref A.g), some (.ref p1), some (.ref p2), some (.ref p3), o4, o5, none, none] S' := by
  have hs : sizeLine = 2 ^ 24 := rfl
  have hl := ht.l
  simp only [t_shown_4]
  rw [dSeq_ap]
  simp only [dAsg, dLc, diL, dMeth, dVar, dNil, List.getElem?_cons_zero, List.getElem?_cons_succ, P1.gat.g, onIns, gf_houses, gf_ties, gf_shy, gf_fond, gf_longings, gfm_see_house, gfm_see_two, gfm_size, gfm_neighbours, gfm_has_way, gfm_lay_way, gfm_lift_way, gfm_like, gfm_liking, gfm_shun, gfm_shunned, gfm_see_road, gfm_wish, gfm_wishes, gfm_rank_of, gp_houses, gp_ties, gp_shy, gp_fond, gp_longings, true_and]
  refine ⟨A, s, m, rfl, P1.gat, hm, fun p hp => ?_, ?_⟩
  · have := (ht.k p hp).1.2.1
    intro z; rw [z] at this; simp at this
  simp only [vl, vm, diLk]
  refine lc_all (m := false) (P := _) eW sQ (by rw [wishes_len]; omega) (fun _ _ => trivial) (fun p hp S2 Y hS y => ?_) ?_
  · have ow := okW_wish ht n2 hp
    simp only [dgN, eW, wipeD, dCall, dCons, dNil, dOp, dLst, dC, dVar, List.set_cons_zero, List.set_cons_succ, List.getElem?_cons_zero, List.getElem?_cons_succ, newL, ixD, ixL, at_0, at_1, addD, catD, vm]
    refine ⟨by simp [hs], ?_, x_line_of (l := wishRow p) rfl ow.1 (by have := ow.2; omega) y⟩
    have := ow.2
    unfold wishRow at this
    rw [List.length_append] at this
    show [D.str "wish", D.int p.2].length + _ ≤ _
    omega
  simp only [newL, dgN, List.set_cons_zero, List.set_cons_succ]
  have e0 : ("" : Str).length = 0 := by decide
  have tsum := text_sum ht n2
  have hr := rowsT_len ht n2
  have l1 := lexP_len (ltR s.T) n2
  have l2 := lexP_len (nzR s.F) n2
  have l3 := lexP_len s.H n2
  have l4 := wishes_len s.L
  simp only [dRet, dJoin, dC, dOp, dLst, dCons, dNil, dCall, dMeth, dVar, List.getElem?_cons_zero, List.getElem?_cons_succ, P1.gat.g, onIns, gf_houses, gf_ties, gf_shy, gf_fond, gf_longings, gfm_see_house, gfm_see_two, gfm_size, gfm_neighbours, gfm_has_way, gfm_lay_way, gfm_lift_way, gfm_like, gfm_liking, gfm_shun, gfm_shunned, gfm_see_road, gfm_wish, gfm_wishes, gfm_rank_of, gp_houses, gp_ties, gp_shy, gp_fond, gp_longings, true_and]
  refine ⟨⟨_, rfl⟩, A, s, m, rfl, P1.gat, ?_⟩
  refine ⟨by simp [hs], ?_⟩
  simp only [newL]
  refine x_line_of (l := headRow s.n) rfl (fun d hd => ?_) (by simp [headRow]) ?_
  · simp only [headRow, List.mem_cons, List.not_mem_nil, or_false] at hd
    rcases hd with rfl | rfl
    · exact okW_str
    · exact okW_sm ⟨by omega, by omega⟩
  refine ⟨by simp [hs], ?_⟩
  simp only [addD, catD, vm, P1.at1, P1.at2, P1.at3, newL]
  unfold lexP at l1 l2 l3
  refine ⟨by simp only [List.length_map, List.length_singleton]; omega, ?_⟩
  refine ⟨by simp only [List.length_append, List.length_map, List.length_singleton]; omega, ?_⟩
  refine ⟨by simp only [List.length_append, List.length_map, List.length_singleton]; omega, ?_⟩
  refine ⟨by simp only [List.length_append, List.length_map, List.length_singleton]; omega, ?_⟩
  refine ⟨_, _, (rowsT s).map lineS, rfl, rfl, ?_, ?_, rt_le P1.le q⟩
  · rw [← txtsD_map]
    congr 1
    unfold rowsT lexP
    simp only [List.map_append, List.map_map, List.map_cons, List.map_nil]
    rfl
  · rw [e0, Nat.mul_zero]; omega
theorem read_shown (K : PySem.W.Frag) (a : CA) (ds : List D) (S : Sto) (Q : D → Sto → Prop) (E : Addr → Sto → Prop) (h : sp_shown a ds S Q E) : t_shown K a (wishOf E) (endsOf Q) (dstart N_shown ds) S := by
  obtain ⟨A, s, m, rfl, g, hm, ht, q⟩ := h
  have hs : sizeLine = 2 ^ 24 := rfl
  have n2 := g.n2
  have n1 := g.n1
  have sm : ∀ {x : Int}, s.ok x → okW (.int x) := fun h => okW_sm ⟨h.1, by have := h.2; omega⟩
  simp only [t_shown, N_shown, dstart, List.map_cons, List.map_nil, List.length_cons, List.length_nil, List.cons_append, List.nil_append, List.replicate, Nat.add_one_sub_one, Nat.reduceAdd, Nat.reduceSub, Nat.sub_self, Nat.sub_zero]
  (try dsimp only); rw [dSeq_ap]; simp only [dIfS, dB, dOp, dVar, dCB, dCons, dNil, dRet, dRetN, dNext, dC, dAsg, dgN, dgT, dgSeq, dDrop, dCont, dAndT, dOrT, dNotT, dAndV, dOrV, dNotV, dIf, dIsN, dNotN, dNeg, dLst, dTup, dNewI, dCall, dMeth, dMake, dRaise, dFrz, dIsi, isiK, tyS, inst_NoneType_bool, inst_NoneType_int, inst_NoneType_str, inst_NoneType_list, inst_NoneType_tuple, inst_bool_bool, inst_bool_int, inst_bool_str, inst_bool_list, inst_bool_tuple, inst_int_bool, inst_int_int, inst_int_str, inst_int_list, inst_int_tuple, inst_str_bool, inst_str_int, inst_str_str, inst_str_list, inst_str_tuple, inst_list_bool, inst_list_int, inst_list_str, inst_list_list, inst_list_tuple, inst_tuple_bool, inst_tuple_int, inst_tuple_str, inst_tuple_list, inst_tuple_tuple, iiD, iiD0, subD, mulD, fdivD, modD, shrD, pow_10_6, pow_10_60, ltI, leI, gtI, geI, addI, addD, catD, scatD, lenD, lenS, ixD, ixL, ixLK, ixK, vl, vm, newL, i2D, absD, tupleD, dLM, dLM0, dFld, getF, dGet1, dGet2, getK, dSetIx, rng1, rng2, dFor1, dFor2, dFor, dForK, eqR, rs, dstart, List.map_cons, List.map_nil, List.length_cons, List.length_nil, List.cons_append, List.nil_append, List.replicate, List.getElem?_cons_zero, List.getElem?_cons_succ, List.set_cons_zero, List.set_cons_succ, Option.isSome_some, Option.isNone_some, Option.isNone_none, Nat.add_one_sub_one, Nat.reduceAdd, Nat.reduceSub, Nat.sub_self, Nat.sub_zero, Bool.not_true, Bool.not_false, ↓reduceIte, Bool.false_eq_true, Bool.true_eq_false, okD_int, okD_bl, okD_non, dEq_int, dEq_bl, Bool.true_xor, Bool.false_xor, Bool.not_eq_true', decide_eq_true_eq, decide_eq_false_iff_not, true_and, Bool.and_true, Bool.and_false, Bool.true_and, Bool.false_and, at_0, at_1, at_2, cast0, cast1, cast2, cast3, not_true_eq_false, not_false_eq_true, eL, Option.map_some, Option.map_none, dSlL, slk, doNone, doSome, sortedTD, dLenSet, lsk]
  refine ⟨by decide, fun p1 h1 => ?_⟩
  (try dsimp only); rw [dSeq_ap]; simp only [dIfS, dB, dOp, dVar, dCB, dCons, dNil, dRet, dRetN, dNext, dC, dAsg, dgN, dgT, dgSeq, dDrop, dCont, dAndT, dOrT, dNotT, dAndV, dOrV, dNotV, dIf, dIsN, dNotN, dNeg, dLst, dTup, dNewI, dCall, dMeth, dMake, dRaise, dFrz, dIsi, isiK, tyS, inst_NoneType_bool, inst_NoneType_int, inst_NoneType_str, inst_NoneType_list, inst_NoneType_tuple, inst_bool_bool, inst_bool_int, inst_bool_str, inst_bool_list, inst_bool_tuple, inst_int_bool, inst_int_int, inst_int_str, inst_int_list, inst_int_tuple, inst_str_bool, inst_str_int, inst_str_str, inst_str_list, inst_str_tuple, inst_list_bool, inst_list_int, inst_list_str, inst_list_list, inst_list_tuple, inst_tuple_bool, inst_tuple_int, inst_tuple_str, inst_tuple_list, inst_tuple_tuple, iiD, iiD0, subD, mulD, fdivD, modD, shrD, pow_10_6, pow_10_60, ltI, leI, gtI, geI, addI, addD, catD, scatD, lenD, lenS, ixD, ixL, ixLK, ixK, vl, vm, newL, i2D, absD, tupleD, dLM, dLM0, dFld, getF, dGet1, dGet2, getK, dSetIx, rng1, rng2, dFor1, dFor2, dFor, dForK, eqR, rs, dstart, List.map_cons, List.map_nil, List.length_cons, List.length_nil, List.cons_append, List.nil_append, List.replicate, List.getElem?_cons_zero, List.getElem?_cons_succ, List.set_cons_zero, List.set_cons_succ, Option.isSome_some, Option.isNone_some, Option.isNone_none, Nat.add_one_sub_one, Nat.reduceAdd, Nat.reduceSub, Nat.sub_self, Nat.sub_zero, Bool.not_true, Bool.not_false, ↓reduceIte, Bool.false_eq_true, Bool.true_eq_false, okD_int, okD_bl, okD_non, dEq_int, dEq_bl, Bool.true_xor, Bool.false_xor, Bool.not_eq_true', decide_eq_true_eq, decide_eq_false_iff_not, true_and, Bool.and_true, Bool.and_false, Bool.true_and, Bool.false_and, at_0, at_1, at_2, cast0, cast1, cast2, cast3, not_true_eq_false, not_false_eq_true, eL, Option.map_some, Option.map_none, dSlL, slk, doNone, doSome, sortedTD, dLenSet, lsk]
  refine ⟨by decide, fun p2 h2 => ?_⟩
  (try dsimp only); rw [dSeq_ap]; simp only [dIfS, dB, dOp, dVar, dCB, dCons, dNil, dRet, dRetN, dNext, dC, dAsg, dgN, dgT, dgSeq, dDrop, dCont, dAndT, dOrT, dNotT, dAndV, dOrV, dNotV, dIf, dIsN, dNotN, dNeg, dLst, dTup, dNewI, dCall, dMeth, dMake, dRaise, dFrz, dIsi, isiK, tyS, inst_NoneType_bool, inst_NoneType_int, inst_NoneType_str, inst_NoneType_list, inst_NoneType_tuple, inst_bool_bool, inst_bool_int, inst_bool_str, inst_bool_list, inst_bool_tuple, inst_int_bool, inst_int_int, inst_int_str, inst_int_list, inst_int_tuple, inst_str_bool, inst_str_int, inst_str_str, inst_str_list, inst_str_tuple, inst_list_bool, inst_list_int, inst_list_str, inst_list_list, inst_list_tuple, inst_tuple_bool, inst_tuple_int, inst_tuple_str, inst_tuple_list, inst_tuple_tuple, iiD, iiD0, subD, mulD, fdivD, modD, shrD, pow_10_6, pow_10_60, ltI, leI, gtI, geI, addI, addD, catD, scatD, lenD, lenS, ixD, ixL, ixLK, ixK, vl, vm, newL, i2D, absD, tupleD, dLM, dLM0, dFld, getF, dGet1, dGet2, getK, dSetIx, rng1, rng2, dFor1, dFor2, dFor, dForK, eqR, rs, dstart, List.map_cons, List.map_nil, List.length_cons, List.length_nil, List.cons_append, List.nil_append, List.replicate, List.getElem?_cons_zero, List.getElem?_cons_succ, List.set_cons_zero, List.set_cons_succ, Option.isSome_some, Option.isNone_some, Option.isNone_none, Nat.add_one_sub_one, Nat.reduceAdd, Nat.reduceSub, Nat.sub_self, Nat.sub_zero, Bool.not_true, Bool.not_false, ↓reduceIte, Bool.false_eq_true, Bool.true_eq_false, okD_int, okD_bl, okD_non, dEq_int, dEq_bl, Bool.true_xor, Bool.false_xor, Bool.not_eq_true', decide_eq_true_eq, decide_eq_false_iff_not, true_and, Bool.and_true, Bool.and_false, Bool.true_and, Bool.false_and, at_0, at_1, at_2, cast0, cast1, cast2, cast3, not_true_eq_false, not_false_eq_true, eL, Option.map_some, Option.map_none, dSlL, slk, doNone, doSome, sortedTD, dLenSet, lsk]
  refine ⟨by decide, fun p3 h3 => ?_⟩
  obtain ⟨n21, h2'⟩ := free_of h2
  obtain ⟨n32, h3'⟩ := free_of h3
  obtain ⟨n31, h3''⟩ := free_of h3'
  have P0 : Pens S (su (su (su S p1 (.ml [])) p2 (.ml [])) p3 (.ml [])) a A s m p1 p2 p3 [] [] [] := ⟨rfl, g, h1, h2', h3'', Ne.symm n21, Ne.symm n31, Ne.symm n32⟩
  generalize su (su (su S p1 (.ml [])) p2 (.ml [])) p3 (.ml []) = S1 at P0 ⊢
  (try dsimp only)
  rw [dSeq_ap]
  simp only [dFor1, dMeth, dCons, dNil, dVar, List.getElem?_cons_zero, List.getElem?_cons_succ, P0.gat.g, onIns, gf_houses, gf_ties, gf_shy, gf_fond, gf_longings, gfm_see_house, gfm_see_two, gfm_size, gfm_neighbours, gfm_has_way, gfm_lay_way, gfm_lift_way, gfm_like, gfm_liking, gfm_shun, gfm_shunned, gfm_see_road, gfm_wish, gfm_wishes, gfm_rank_of, gp_houses, gp_ties, gp_shy, gp_fond, gp_longings, true_and]
  refine ⟨A, s, m, rfl, P0.gat, ?_⟩
  simp only [rng1]
  refine ⟨by omega, ?_⟩
  rw [show ((s.n : Nat) : Int).toNat = s.n by omega]
  refine dGo_rng (fun k ρ S' => (∃ o4 o5, ρ = [some (.ref A.g), some (.ref p1), some (.ref p2), some (.ref p3), o4, o5, none, none]) ∧ Pens S S' a A s m p1 p2 p3 (lexK s.n (ltR s.T) k) (lexK s.n (nzR s.F) k) (lexK s.n s.H k)) ?_ ?_ _ _ ⟨⟨_, _, rfl⟩, P0⟩
  · rintro ρ S' ⟨⟨o4, o5, rfl⟩, P1⟩
    exact shown_end K a S Q E q n1 n2 g hm ht P1 o4 o5
  · rintro k ρ S' N hk ⟨⟨o4, o5, rfl⟩, P1⟩ hN
    have hk1 : s.ok ((0 : Int) + (k : Nat)) := ⟨by omega, by omega⟩
    have ek : (0 : Int) + (k : Nat) = (k : Nat) := by omega
    rw [ek] at hk1 ⊢
    have m1 := lexK_small (k := k) (ltR s.T) (by omega) n2
    have m2 := lexK_small (k := k) (nzR s.F) (by omega) n2
    have m3 := lexK_small (k := k) s.H (by omega) n2
    simp only [dgN, List.set_cons_zero, List.set_cons_succ]
    rw [dSeq_ap]
    simp only [dFor, dMeth, dCons, dNil, dVar, List.getElem?_cons_zero, List.getElem?_cons_succ, P1.gat.g, onIns, gf_houses, gf_ties, gf_shy, gf_fond, gf_longings, gfm_see_house, gfm_see_two, gfm_size, gfm_neighbours, gfm_has_way, gfm_lay_way, gfm_lift_way, gfm_like, gfm_liking, gfm_shun, gfm_shunned, gfm_see_road, gfm_wish, gfm_wishes, gfm_rank_of, gp_houses, gp_ties, gp_shy, gp_fond, gp_longings, true_and]
    refine x_Guild_neighbours P1.gat hk1 ?_
    simp only [vl, vm, dForK]
    refine dGo_map (f := D.int) (fun rest ρ S2 => (∃ o5, ρ = [some (.ref A.g), some (.ref p1), some (.ref p2), some (.ref p3), some (.int (k : Nat)), o5, none, none]) ∧ ∃ pre, nb s.n s.T (k : Nat) = pre ++ rest ∧ Pens S S2 a A s m p1 p2 p3 (lexK s.n (ltR s.T) k ++ (pre.filter fun b => decide ((k : Int) < b)).map fun b => ((k : Int), b)) (lexK s.n (nzR s.F) k) (lexK s.n s.H k)) ?_ ?_ _ _ _ ⟨⟨_, rfl⟩, [], rfl, by simpa using P1⟩
    · rintro ρ S2 ⟨⟨o5, rfl⟩, pre, epre, P2⟩
      rw [List.append_nil] at epre
      have e1 : lexK s.n (ltR s.T) k ++ (pre.filter fun b => decide ((k : Int) < b)).map (fun b => ((k : Int), b)) = lexK s.n (ltR s.T) (k + 1) := by
        rw [lexK_succ, ← epre]
        unfold nb
        rw [List.filter_filter]; rfl
      rw [e1] at P2
      refine ⟨trivial, ?_⟩
      (try dsimp only)
      rw [dSeq_ap]
      simp only [dFor1, dMeth, dCons, dNil, dVar, List.getElem?_cons_zero, List.getElem?_cons_succ, P2.gat.g, onIns, gf_houses, gf_ties, gf_shy, gf_fond, gf_longings, gfm_see_house, gfm_see_two, gfm_size, gfm_neighbours, gfm_has_way, gfm_lay_way, gfm_lift_way, gfm_like, gfm_liking, gfm_shun, gfm_shunned, gfm_see_road, gfm_wish, gfm_wishes, gfm_rank_of, gp_houses, gp_ties, gp_shy, gp_fond, gp_longings, true_and]
      refine ⟨A, s, m, rfl, P2.gat, ?_⟩
      simp only [rng1]
      refine ⟨by omega, ?_⟩
      rw [show ((s.n : Nat) : Int).toNat = s.n by omega]
      refine dGo_rng (fun j ρ S3 => (∃ o5, ρ = [some (.ref A.g), some (.ref p1), some (.ref p2), some (.ref p3), some (.int (k : Nat)), o5, none, none]) ∧ Pens S S3 a A s m p1 p2 p3 (lexK s.n (ltR s.T) (k + 1)) (lexK s.n (nzR s.F) k ++ ((intsN j).filter fun b => nzR s.F (k : Int) b).map fun b => ((k : Int), b)) (lexK s.n s.H k)) ?_ ?_ _ _ ⟨⟨_, rfl⟩, by simpa [intsN] using P2⟩
      · rintro ρ S3 ⟨⟨o5, rfl⟩, P3⟩
        have e2 : lexK s.n (nzR s.F) k ++ ((intsN s.n).filter fun b => nzR s.F (k : Int) b).map (fun b => ((k : Int), b)) = lexK s.n (nzR s.F) (k + 1) := by
          rw [lexK_succ]; rfl
        rw [e2] at P3
        (try dsimp only)
        simp only [dFor, dMeth, dCons, dNil, dVar, List.getElem?_cons_zero, List.getElem?_cons_succ, P3.gat.g, onIns, gf_houses, gf_ties, gf_shy, gf_fond, gf_longings, gfm_see_house, gfm_see_two, gfm_size, gfm_neighbours, gfm_has_way, gfm_lay_way, gfm_lift_way, gfm_like, gfm_liking, gfm_shun, gfm_shunned, gfm_see_road, gfm_wish, gfm_wishes, gfm_rank_of, gp_houses, gp_ties, gp_shy, gp_fond, gp_longings, true_and]
        refine x_Guild_shunned P3.gat hk1 ?_
        simp only [vl, vm, dForK]
        refine dGo_map (f := D.int) (fun rest ρ S4 => (∃ o5, ρ = [some (.ref A.g), some (.ref p1), some (.ref p2), some (.ref p3), some (.int (k : Nat)), o5, none, none]) ∧ ∃ pre, nb s.n s.H (k : Nat) = pre ++ rest ∧ Pens S S4 a A s m p1 p2 p3 (lexK s.n (ltR s.T) (k + 1)) (lexK s.n (nzR s.F) (k + 1)) (lexK s.n s.H k ++ pre.map fun b => ((k : Int), b))) ?_ ?_ _ _ _ ⟨⟨_, rfl⟩, [], rfl, by simpa using P3⟩
        · rintro ρ S4 ⟨⟨o5, rfl⟩, pre, epre, P4⟩
          rw [List.append_nil] at epre
          rw [← epre, ← lexK_succ] at P4
          exact ⟨trivial, hN _ _ ⟨⟨_, _, rfl⟩, P4⟩⟩
        · rintro b rest ρ S4 N2 ⟨⟨o5, rfl⟩, pre, epre, P4⟩ hN2
          have hb : s.ok b := (nb_mem.mp (show b ∈ nb s.n s.H (k : Nat) by rw [epre]; simp)).1
          have hp : pre.length ≤ 60 := by
            have := nb_len s.n s.H (k : Nat)
            rw [epre, List.length_append] at this; omega
          refine ⟨trivial, ?_⟩
          simp only [dgN, List.set_cons_zero, List.set_cons_succ, dDrop, dLM, dCons, dNil, dCall, dLst, dC, dVar, newL, List.getElem?_cons_zero, List.getElem?_cons_succ, vm, P4.at3, Option.isSome_some, true_and]
          refine ⟨by simp [hs], x_line_of (l := shunRow ((k : Int), b)) rfl (fun d hd => ?_) (by simp [shunRow]) ?_⟩
          · simp only [shunRow, List.mem_cons, List.not_mem_nil, or_false] at hd
            rcases hd with rfl | rfl | rfl
            · exact okW_str
            · exact sm hk1
            · exact sm hb
          · refine append_at P4.at3 (by simp only [List.length_map, List.length_append]; omega) ?_
            have P5 := P4.w3 ((k : Int), b)
            refine hN2 _ _ ⟨⟨_, rfl⟩, pre ++ [b], by rw [epre]; simp, ?_⟩
            rw [List.map_append (l₁ := pre), ← List.append_assoc]
            exact P5
      · rintro j ρ S3 N2 hj ⟨⟨o5, rfl⟩, P3⟩ hN2
        have hj1 : s.ok ((j : Nat) : Int) := ⟨by omega, by omega⟩
        have ej : (0 : Int) + (j : Nat) = (j : Nat) := by omega
        rw [ej]
        have e3 : intsN (j + 1) = intsN j ++ [(j : Int)] := by unfold intsN; rw [List.range_succ, List.map_append]; rfl
        have hl3 : ((intsN j).filter fun b => nzR s.F (k : Int) b).length ≤ 60 := Nat.le_trans (List.length_filter_le _ _) (by rw [intsN_len]; omega)
        simp only [dgN, List.set_cons_zero, List.set_cons_succ, dIfS, dB, dOp, dMeth, dC, dCons, dNil, dVar, List.getElem?_cons_zero, List.getElem?_cons_succ, P3.gat.g, onIns, gf_houses, gf_ties, gf_shy, gf_fond, gf_longings, gfm_see_house, gfm_see_two, gfm_size, gfm_neighbours, gfm_has_way, gfm_lay_way, gfm_lift_way, gfm_like, gfm_liking, gfm_shun, gfm_shunned, gfm_see_road, gfm_wish, gfm_wishes, gfm_rank_of, gp_houses, gp_ties, gp_shy, gp_fond, gp_longings, true_and]
        refine x_Guild_liking P3.gat hk1 hj1 (eqR_i ?_)
        by_cases c : s.F (k : Int) (j : Int) = 0
        · rw [decide_eq_true c]
          simp only [Bool.true_xor, Bool.not_true, Bool.false_eq_true, ↓reduceIte, dNext]
          refine hN2 _ _ ⟨⟨_, rfl⟩, ?_⟩
          rw [e3, nb_snoc_filter, if_neg (by simpa [nzR] using c), List.append_nil]
          exact P3
        · rw [decide_eq_false c]
          simp only [Bool.true_xor, Bool.not_false, ↓reduceIte, dDrop, dLM, dCons, dNil, dCall, dLst, dC, dVar, dMeth, List.getElem?_cons_zero, List.getElem?_cons_succ, vm, P3.at2, Option.isSome_some, true_and, P3.gat.g, onIns, gf_houses, gf_ties, gf_shy, gf_fond, gf_longings, gfm_see_house, gfm_see_two, gfm_size, gfm_neighbours, gfm_has_way, gfm_lay_way, gfm_lift_way, gfm_like, gfm_liking, gfm_shun, gfm_shunned, gfm_see_road, gfm_wish, gfm_wishes, gfm_rank_of, gp_houses, gp_ties, gp_shy, gp_fond, gp_longings]
          refine x_Guild_liking P3.gat hk1 hj1 ⟨by simp [hs], ?_⟩
          simp only [newL]
          refine x_line_of (l := likeRow s.F ((k : Int), (j : Int))) rfl (fun d hd => ?_) (by simp [likeRow]) ?_
          · simp only [likeRow, List.mem_cons, List.not_mem_nil, or_false] at hd
            rcases hd with rfl | rfl | rfl | rfl
            · exact okW_str
            · exact sm hk1
            · exact sm hj1
            · exact okW_int (ht.f _ _ hk1 hj1)
          · refine append_at P3.at2 (by simp only [List.length_map, List.length_append]; omega) ?_
            have P5 := P3.w2 ((k : Int), (j : Int))
            refine hN2 _ _ ⟨⟨_, rfl⟩, ?_⟩
            rw [e3, nb_snoc_filter, if_pos (by simpa [nzR] using c), List.map_append (l₁ := List.filter _ _), ← List.append_assoc]
            exact P5
    · rintro b rest ρ S2 N2 ⟨⟨o5, rfl⟩, pre, epre, P2⟩ hN2
      have hb : s.ok b := (nb_mem.mp (show b ∈ nb s.n s.T (k : Nat) by rw [epre]; simp)).1
      have hp : (pre.filter fun b => decide ((k : Int) < b)).length ≤ 60 := by
        have := nb_len s.n s.T (k : Nat)
        rw [epre, List.length_append] at this
        exact Nat.le_trans (List.length_filter_le _ _) (by omega)
      refine ⟨trivial, ?_⟩
      simp only [dgN, List.set_cons_zero, List.set_cons_succ, dIfS, dB, dOp, dVar, ltI, iiD0, List.getElem?_cons_zero, List.getElem?_cons_succ]
      by_cases c : (k : Int) < b
      · rw [decide_eq_true c]
        simp only [↓reduceIte, dDrop, dLM, dCons, dNil, dCall, dLst, dC, dVar, newL, List.getElem?_cons_zero, List.getElem?_cons_succ, vm, P2.at1, Option.isSome_some, true_and]
        refine ⟨by simp [hs], x_line_of (l := wayRow ((k : Int), b)) rfl (fun d hd => ?_) (by simp [wayRow]) ?_⟩
        · simp only [wayRow, List.mem_cons, List.not_mem_nil, or_false] at hd
          rcases hd with rfl | rfl | rfl
          · exact okW_str
          · exact sm hk1
          · exact sm hb
        · refine append_at P2.at1 (by simp only [List.length_map, List.length_append]; omega) ?_
          have P3 := P2.w1 ((k : Int), b)
          refine hN2 _ _ ⟨⟨_, rfl⟩, pre ++ [b], by rw [epre]; simp, ?_⟩
          rw [nb_snoc_filter, if_pos (decide_eq_true c), List.map_append (l₁ := List.filter _ _), ← List.append_assoc]
          exact P3
      · rw [decide_eq_false c]
        simp only [Bool.false_eq_true, ↓reduceIte, dNext]
        refine hN2 _ _ ⟨⟨_, rfl⟩, pre ++ [b], by rw [epre]; simp, ?_⟩
        rw [nb_snoc_filter, if_neg (by simpa using c), List.append_nil]
        exact P2

end DL
namespace DL
open PySem L2
def t_number_4 (K : PySem.W.Frag) (a : CA) (W : WD) : TDS :=
  (dSeq (dIfS (dAndT (dB (dOp (eqR false) (dOp ixD (dVar 1) (dC (.int 0))) (dC (.str "0")))) (dB (dOp (eqR true) (dVar 0) (dC (.str "0")))))
    (dRaise a.BadNote W)
    dNext)
  (dRet (dCB intD (dCons (dVar 0) dNil))))
def t_number_3 (K : PySem.W.Frag) (a : CA) (W : WD) : TDS :=
  (dSeq (dForS (dVar 1) (dgN 2)
    (dIfS (dB (dOp (inR true) (dVar 2) (dC (.str "0123456789"))))
      (dRaise a.BadNote W)
      dNext))
  (t_number_4 K a W))
def t_number_2 (K : PySem.W.Frag) (a : CA) (W : WD) : TDS :=
  (dSeq (dIfS (dOrT (dB (dOp (eqR false) (dVar 1) (dC (.str "")))) (dB (dOp gtI (dCB lenD (dCons (dVar 1) dNil)) (dC (.int 60)))))
    (dRaise a.BadNote W)
    dNext)
  (t_number_3 K a W))
def t_number (K : PySem.W.Frag) (a : CA) (W : WD) : TDS :=
  (dSeq (dAsg (dVar 0) (dgN 1))
  (dSeq (dIfS (dB (dOp (eqR false) (dSlS (dVar 0) doNone (doSome (dC (.int 1)))) (dC (.str "-"))))
    (dAsg (dSlS (dVar 0) (doSome (dC (.int 1))) doNone) (dgN 1))
    dNext)
  (t_number_2 K a W)))
abbrev N_number : List Str := ["word", "figures", "sign"]
open TL PySem.NumText
abbrev isFig (c : Nat) : Prop := 48 ≤ c ∧ c ≤ 57
def figsOf (l : List Nat) : List Nat := if l.take 1 = [45] then l.drop 1 else l
def numOf (z : Str) : Option Int :=
  if figsOf (tl z) = [] ∨ 60 < (figsOf (tl z)).length ∨ ¬ (∀ c ∈ figsOf (tl z), isFig c) ∨ ((figsOf (tl z)).head? = some 48 ∧ tl z ≠ [48]) then none
  else some (if (tl z).take 1 = [45] then -((digitsVal (figsOf (tl z)) : Nat) : Int) else ((digitsVal (figsOf (tl z)) : Nat) : Int))
theorem numL_head : ∀ (n : Nat), 1 ≤ n → (numL n).head? ≠ some 48 := fun n => by
  induction n using Nat.strongRecOn with
  | ind n ih =>
    intro h
    by_cases c : n < 10
    · rw [numL_lt c]
      simp only [List.head?_cons, ne_eq, Option.some.injEq]
      omega
    · rw [numL_step (by omega)]
      have := ih (n / 10) (by omega) (by omega)
      have ne := numL_ne (n / 10)
      cases e : numL (n / 10) with
      | nil => exact absurd e ne
      | cons x l =>
        rw [e] at this
        exact this
theorem numOf_numS {i : Int} (h : i.natAbs < 10 ^ 60) : numOf (numS i) = some i := by
  have hz := numL_len (n := i.natAbs) (k := 60) (by decide) h
  have e := tl_numS i
  have ne := numL_ne i.natAbs
  have dg := numL_digits i.natAbs
  unfold numOf
  rw [e]
  by_cases c : i < 0
  · rw [if_pos c]
    have f : figsOf (45 :: numL i.natAbs) = numL i.natAbs := rfl
    have hh := numL_head i.natAbs (by omega)
    rw [f, if_neg (by
      rintro (h | h | h | h)
      · exact ne h
      · omega
      · exact h fun c hc => dg c hc
      · exact hh h.1), if_pos (show List.take 1 (45 :: numL i.natAbs) = [45] from rfl), numL_val]
    congr 1; omega
  · rw [if_neg c]
    have t1 : (numL i.natAbs).take 1 ≠ [45] := fun z => by
      cases e2 : numL i.natAbs with
      | nil => exact ne e2
      | cons x l =>
        rw [e2] at z
        have := dg x (by rw [e2]; exact List.mem_cons_self)
        simp only [List.take_succ_cons, List.take_zero, List.cons.injEq, and_true] at z
        omega
    have f : figsOf (numL i.natAbs) = numL i.natAbs := if_neg t1
    rw [f, if_neg (by
      rintro (h | h | h | h)
      · exact ne h
      · omega
      · exact h fun c hc => dg c hc
      · by_cases z : i.natAbs = 0
        · rw [z] at h; exact h.2 (numL_lt (by decide))
        · exact numL_head i.natAbs (by omega) h.1), if_neg t1, numL_val]
    congr 1; omega
theorem eqS {neg : Bool} {x y : Str} {S : Sto} {P : D → Sto → Prop} (hx : PyData.strOk x = true) (hy : PyData.strOk y = true) (q : P (.bl (neg ^^ decide (x = y))) S) : eqR neg (.str x) (.str y) S P := ⟨okD_str hx, okD_str hy, by simp only [rs, vm, dEq_str]; exact q⟩
theorem strOk_iff {x : Str} : PyData.strOk x = true ↔ ∀ c ∈ tl x, c < 0x110000 := by
  unfold PyData.strOk
  rw [← Array.all_toList, List.all_eq_true]
  constructor
  · intro h c hc; exact of_decide_eq_true (h c hc)
  · intro h c hc; exact decide_eq_true (h c hc)
theorem strOk_cut {z : Str} (h : PyData.strOk z = true) (lo hi : Option Int) : PyData.strOk (cutS z lo hi) = true := by
  rw [strOk_iff] at h ⊢
  intro c hc
  exact h c (List.mem_of_mem_drop (List.mem_of_mem_take hc))
theorem tl_figs : tl ("0123456789" : Str) = [48, 49, 50, 51, 52, 53, 54, 55, 56, 57] := by decide
theorem in_figs {c : Nat} : c ∈ tl ("0123456789" : Str) ↔ isFig c := by
  rw [tl_figs]
  simp only [List.mem_cons, List.not_mem_nil, or_false]
  constructor
  · rintro (h | h | h | h | h | h | h | h | h | h) <;> (subst h; decide)
  · rintro ⟨h1, h2⟩; omega
theorem figs_tl {z f : Str} (ef : tl f = figsOf (tl z)) : (if (tl z).take 1 = [45] then tl z = 45 :: tl f else tl z = tl f) := by
  unfold figsOf at ef
  by_cases m : (tl z).take 1 = [45]
  · rw [if_pos m] at ef ⊢
    cases e : tl z with
    | nil => rw [e] at m; cases m
    | cons x l =>
      rw [e] at m ef
      simp only [List.take_succ_cons, List.take_zero, List.cons.injEq, and_true] at m
      rw [ef, m]; rfl
  · rw [if_neg m] at ef ⊢
    exact ef.symm
theorem one_str {c : Nat} {x : Str} {k : Nat} (hx : tl x = [k]) : ((⟨#[c]⟩ : Str) = x) ↔ c = k := by
  constructor
  · intro h
    have := congrArg tl h
    rw [hx] at this
    have e : tl (⟨#[c]⟩ : Str) = [c] := rfl
    rw [e] at this
    simpa using this
  · intro h; rw [h]; exact ext_tl hx.symm
theorem tl_zero : tl ("0" : Str) = [48] := by decide
theorem tl_none : tl ("" : Str) = [] := by decide
def sp_number (a : CA) : DSp := fun ds S P E => ∃ z : Str, ds = [.str z] ∧ PyData.strOk z = true ∧ z.length ≤ sizeLine ∧ (∀ i, numOf z = some i → P (.int i) S) ∧ (numOf z = none → E a.BadNote S)
theorem len_number (a : CA) (ds : List D) (S : Sto) (Q : D → Sto → Prop) (E : Addr → Sto → Prop) (h : sp_number a ds S Q E) : ds.length = ["word"].length := by
  obtain ⟨_, rfl, _⟩ := h; rfl
theorem number_4 (K : PySem.W.Frag) (a : CA) (S : Sto) (Q : D → Sto → Prop) (E : Addr → Sto → Prop) (z f : Str) (hok : PyData.strOk z = true) (hf : PyData.strOk f = true) (ef : tl f = figsOf (tl z)) (ne : tl f ≠ []) (hlen : (tl f).length ≤ 60) (hd : ∀ c ∈ tl f, isFig c) (q1 : ∀ i, numOf z = some i → Q (.int i) S) (q2 : numOf z = none → E a.BadNote S) (o : Option D) :
    t_number_4 K a (wishOf E) (endsOf Q) [some (.str z), some (.str f), o] S := by
  have lf := len_tl f
  have lz := len_tl z
  have hs : sizeLine = 2 ^ 24 := rfl
  obtain ⟨c, r, er⟩ : ∃ c r, tl f = c :: r := by
    cases e : tl f with
    | nil => exact absurd e ne
    | cons c r => exact ⟨c, r, rfl⟩
  have a0 : atI f.cps.toList 0 = some c := by
    show atI (tl f) 0 = some c
    rw [er, atI_pos (by decide) (by simp)]; rfl
  have hz : (z = ("0" : Str)) ↔ tl z = [48] := ⟨fun h => by rw [h]; exact tl_zero, fun h => ext_tl (h.trans tl_zero.symm)⟩
  have h0 : ((⟨#[c]⟩ : Str) = ("0" : Str)) ↔ c = 48 := one_str tl_zero
  have hc : isFig c := hd c (by rw [er]; exact List.mem_cons_self)
  have hn : numOf z = if c = 48 ∧ tl z ≠ [48] then none else some (if (tl z).take 1 = [45] then -((digitsVal (tl f) : Nat) : Int) else ((digitsVal (tl f) : Nat) : Int)) := by
    unfold numOf
    rw [← ef]
    by_cases k : c = 48 ∧ tl z ≠ [48]
    · rw [if_pos k, if_pos (.inr (.inr (.inr ⟨by rw [er, k.1]; rfl, k.2⟩)))]
    · rw [if_neg k, if_neg]
      rintro (h | h | h | h)
      · exact ne h
      · omega
      · exact h hd
      · refine k ⟨?_, h.2⟩
        have := h.1
        rw [er] at this
        simpa using this
  have fin : ¬ (c = 48 ∧ tl z ≠ [48]) → intD [.str z] S (endsOf Q).rt := fun k => by
    rw [if_neg k] at hn
    have ft := figs_tl ef
    by_cases m : (tl z).take 1 = [45]
    · rw [if_pos m] at ft hn
      have l2 : (tl z).length = (tl f).length + 1 := by rw [ft]; rfl
      exact ⟨_, intText_neg ft hd ne (by omega), by omega, rt_of (q1 _ hn)⟩
    · rw [if_neg m] at ft hn
      have l2 : (tl z).length = (tl f).length := by rw [ft]
      have i1 := intText_digits (x := z) (show AllDigits (tl z) by rw [ft]; exact hd) (show tl z ≠ [] by rw [ft]; exact ne) (by omega)
      refine ⟨_, i1, by omega, rt_of (q1 _ ?_)⟩
      rw [hn]
      show some ((digitsVal (tl f) : Nat) : Int) = some ((digitsVal (tl z) : Nat) : Int)
      rw [ft]
  have fin2 : ¬ (c = 48 ∧ tl z ≠ [48]) → dRet (dCB intD (dCons (dVar 0) dNil)) (endsOf Q) [some (.str z), some (.str f), o] S := fun k => by
    simp only [dRet, dCB, dCons, dNil, dVar, List.getElem?_cons_zero]
    exact fin k
  have okc : PyData.strOk ⟨#[c]⟩ = true := strOk_iff.mpr fun x hx => by
    have : x = c := by simpa using (show x ∈ [c] from hx)
    rw [this]; have := hc.2; omega
  simp only [t_number_4]
  rw [dSeq_ap]
  simp only [dIfS, dAndT, dB, dOp, dVar, dC, dRaise, List.getElem?_cons_zero, List.getElem?_cons_succ, ixD, ixT, a0]
  refine ⟨by omega, eqS okc (by decide +kernel) ?_⟩
  by_cases k1 : c = 48
  · rw [decide_eq_true (h0.mpr k1)]
    simp only [Bool.false_xor, ↓reduceIte]
    refine eqS hok (by decide +kernel) ?_
    by_cases k2 : tl z = [48]
    · rw [decide_eq_true (hz.mpr k2)]
      simp only [Bool.true_xor, Bool.not_true, Bool.false_eq_true, ↓reduceIte, dNext]
      exact fin2 fun h => h.2 k2
    · rw [decide_eq_false fun h => k2 (hz.mp h)]
      simp only [Bool.true_xor, Bool.not_false, ↓reduceIte]
      exact wish_of (q2 (by rw [hn, if_pos ⟨k1, k2⟩]))
  · rw [decide_eq_false fun h => k1 (h0.mp h)]
    simp only [Bool.false_xor, Bool.false_eq_true, ↓reduceIte, dNext]
    exact fin2 fun h => k1 h.1
theorem number_3 (K : PySem.W.Frag) (a : CA) (S : Sto) (Q : D → Sto → Prop) (E : Addr → Sto → Prop) (z f : Str) (hok : PyData.strOk z = true) (hf : PyData.strOk f = true) (ef : tl f = figsOf (tl z)) (ne : tl f ≠ []) (hlen : (tl f).length ≤ 60) (q1 : ∀ i, numOf z = some i → Q (.int i) S) (q2 : numOf z = none → E a.BadNote S) :
    t_number_3 K a (wishOf E) (endsOf Q) [some (.str z), some (.str f), none] S := by
  simp only [t_number_3]
  rw [dSeq_ap]
  simp only [dForS, dVar, List.getElem?_cons_zero, List.getElem?_cons_succ]
  show dGo _ _ _ _ ((tl f).map fun c => D.str ⟨#[c]⟩) _ _
  refine dGo_map (f := fun c => D.str ⟨#[c]⟩) (fun rest ρ S' => S' = S ∧ (∃ o, ρ = [some (.str z), some (.str f), o]) ∧ ∃ pre, tl f = pre ++ rest ∧ ∀ c ∈ pre, isFig c) ?_ ?_ _ _ _ ⟨rfl, ⟨_, rfl⟩, [], rfl, fun x hx => by cases hx⟩
  · rintro ρ S' ⟨rfl, ⟨o, rfl⟩, pre, e, hp⟩
    rw [List.append_nil] at e
    exact ⟨trivial, number_4 K a S' Q E z f hok hf ef ne hlen (by rw [e]; exact hp) q1 q2 o⟩
  · rintro c rest ρ S' N ⟨rfl, ⟨o, rfl⟩, pre, e, hp⟩ hN
    refine ⟨trivial, ?_⟩
    simp only [dgN, List.set_cons_zero, List.set_cons_succ, dIfS, dB, dOp, dVar, dC, dRaise, dNext, List.getElem?_cons_zero, List.getElem?_cons_succ, inR, inS, PySem.StrLaws.found_one, Bool.true_xor]
    by_cases k : c ∈ tl ("0123456789" : Str)
    · rw [decide_eq_true (show c ∈ (("0123456789" : Str)).cps.toList from k)]
      simp only [Bool.not_true, Bool.false_eq_true, ↓reduceIte]
      exact hN _ _ ⟨rfl, ⟨_, rfl⟩, pre ++ [c], by rw [e]; simp, fun y hy => by
        rcases List.mem_append.mp hy with hy | hy
        · exact hp y hy
        · rw [List.mem_singleton.mp hy]; exact in_figs.mp k⟩
    · rw [decide_eq_false (show ¬ c ∈ (("0123456789" : Str)).cps.toList from k)]
      simp only [Bool.not_false, ↓reduceIte]
      refine wish_of (q2 ?_)
      unfold numOf
      rw [← ef, if_pos (.inr (.inr (.inl fun h => k (in_figs.mpr (h c (by rw [e]; simp))))))]
theorem number_2 (K : PySem.W.Frag) (a : CA) (S : Sto) (Q : D → Sto → Prop) (E : Addr → Sto → Prop) (z f : Str) (hok : PyData.strOk z = true) (hf : PyData.strOk f = true) (hfl : f.length ≤ sizeLine) (ef : tl f = figsOf (tl z)) (q1 : ∀ i, numOf z = some i → Q (.int i) S) (q2 : numOf z = none → E a.BadNote S) :
    t_number_2 K a (wishOf E) (endsOf Q) [some (.str z), some (.str f), none] S := by
  have lf := len_tl f
  have he : (f = ("" : Str)) ↔ tl f = [] := ⟨fun h => by rw [h]; exact tl_none, fun h => ext_tl (h.trans tl_none.symm)⟩
  simp only [t_number_2]
  rw [dSeq_ap]
  simp only [dIfS, dOrT, dB, dOp, dVar, dC, dRaise, List.getElem?_cons_zero, List.getElem?_cons_succ]
  refine eqS hf (by decide +kernel) ?_
  by_cases k : tl f = []
  · rw [decide_eq_true (he.mpr k)]
    simp only [Bool.false_xor, ↓reduceIte]
    refine wish_of (q2 ?_)
    unfold numOf
    rw [← ef, if_pos (.inl k)]
  · rw [decide_eq_false fun h => k (he.mp h)]
    simp only [Bool.false_xor, Bool.false_eq_true, ↓reduceIte, dCB, dCons, dNil, dVar, List.getElem?_cons_zero, List.getElem?_cons_succ, lenD, gtI, iiD0]
    refine ⟨hfl, ?_⟩
    by_cases k2 : (60 : Int) < f.length
    · rw [decide_eq_true k2]
      simp only [↓reduceIte]
      refine wish_of (q2 ?_)
      unfold numOf
      rw [← ef, if_pos (.inr (.inl (by omega)))]
    · rw [decide_eq_false k2]
      simp only [Bool.false_eq_true, ↓reduceIte, dNext]
      exact number_3 K a S Q E z f hok hf ef k (by omega) q1 q2
theorem read_number (K : PySem.W.Frag) (a : CA) (ds : List D) (S : Sto) (Q : D → Sto → Prop) (E : Addr → Sto → Prop) (h : sp_number a ds S Q E) : t_number K a (wishOf E) (endsOf Q) (dstart N_number ds) S := by
  obtain ⟨z, rfl, hok, hl, q1, q2⟩ := h
  have hs : sizeLine = 2 ^ 24 := rfl
  have lt := len_tl z
  have c1 : tl (cutS z none (some 1)) = (tl z).take 1 := by
    show (((tl z).drop (HT.sIx z.length 0 none)).take (HT.sIx z.length z.length (some 1) - HT.sIx z.length 0 none)).toArray.toList = _
    rw [HT.sIx_none, show HT.sIx z.length z.length (some 1) = min 1 z.length from HT.sIx_nat _ _ 1]
    simp only [List.drop_zero, Nat.sub_zero]
    by_cases c : 1 ≤ z.length
    · rw [Nat.min_eq_left c]
    · rw [Nat.min_eq_right (by omega)]
      have : tl z = [] := List.length_eq_zero_iff.mp (by omega)
      rw [this]; simp
  have c2 : tl (cutS z (some 1) none) = (tl z).drop 1 := by
    show (((tl z).drop (HT.sIx z.length 0 (some 1))).take (HT.sIx z.length z.length none - HT.sIx z.length 0 (some 1))).toArray.toList = _
    rw [HT.sIx_none, show HT.sIx z.length 0 (some 1) = min 1 z.length from HT.sIx_nat _ _ 1]
    by_cases c : 1 ≤ z.length
    · rw [Nat.min_eq_left c]
      exact List.take_of_length_le (by rw [List.length_drop]; omega)
    · rw [Nat.min_eq_right (by omega)]
      have : tl z = [] := List.length_eq_zero_iff.mp (by omega)
      rw [this]; simp
  simp only [t_number, N_number, dstart, List.map_cons, List.map_nil, List.length_cons, List.length_nil, List.cons_append, List.nil_append, List.replicate, Nat.add_one_sub_one, Nat.reduceAdd, Nat.reduceSub, Nat.sub_self, Nat.sub_zero]
  rw [dSeq_ap]
  simp only [dIfS, dB, dOp, dVar, dCB, dCons, dNil, dRet, dRetN, dNext, dC, dAsg, dgN, dgT, dgSeq, dDrop, dCont, dAndT, dOrT, dNotT, dAndV, dOrV, dNotV, dIf, dIsN, dNotN, dNeg, dLst, dTup, dNewI, dCall, dMeth, dMake, dRaise, dFrz, dIsi, isiK, tyS, inst_NoneType_bool, inst_NoneType_int, inst_NoneType_str, inst_NoneType_list, inst_NoneType_tuple, inst_bool_bool, inst_bool_int, inst_bool_str, inst_bool_list, inst_bool_tuple, inst_int_bool, inst_int_int, inst_int_str, inst_int_list, inst_int_tuple, inst_str_bool, inst_str_int, inst_str_str, inst_str_list, inst_str_tuple, inst_list_bool, inst_list_int, inst_list_str, inst_list_list, inst_list_tuple, inst_tuple_bool, inst_tuple_int, inst_tuple_str, inst_tuple_list, inst_tuple_tuple, iiD, iiD0, subD, mulD, fdivD, modD, shrD, pow_10_6, pow_10_60, ltI, leI, gtI, geI, addI, addD, catD, scatD, lenD, lenS, ixD, ixL, ixLK, ixK, vl, vm, newL, i2D, absD, tupleD, dLM, dLM0, dFld, getF, dGet1, dGet2, getK, dSetIx, rng1, rng2, dFor1, dFor2, dFor, dForK, dstart, List.map_cons, List.map_nil, List.length_cons, List.length_nil, List.cons_append, List.nil_append, List.replicate, List.getElem?_cons_zero, List.getElem?_cons_succ, List.set_cons_zero, List.set_cons_succ, Option.isSome_some, Option.isNone_some, Option.isNone_none, Nat.add_one_sub_one, Nat.reduceAdd, Nat.reduceSub, Nat.sub_self, Nat.sub_zero, Bool.not_true, Bool.not_false, ↓reduceIte, Bool.false_eq_true, Bool.true_eq_false, okD_int, okD_bl, okD_non, dEq_int, dEq_bl, Bool.true_xor, Bool.false_xor, Bool.not_eq_true', decide_eq_true_eq, decide_eq_false_iff_not, true_and, Bool.and_true, Bool.and_false, Bool.true_and, Bool.false_and, at_0, at_1, at_2, cast0, cast1, cast2, cast3, not_true_eq_false, not_false_eq_true, eL, Option.map_some, Option.map_none, dSlL, slk, doNone, doSome, sortedTD, dLenSet, lsk]
  rw [dSeq_ap]
  simp only [dIfS, dB, dOp, dSlS, doNone, doSome, slsk, dVar, dC, List.getElem?_cons_zero, List.getElem?_cons_succ]
  refine ⟨by omega, eqS (strOk_cut hok _ _) (by decide +kernel) ?_⟩
  have e1 : (cutS z none (some 1) = ("-" : Str)) ↔ (tl z).take 1 = [45] := by
    rw [← c1]
    constructor
    · intro h; rw [h]; decide
    · intro h; exact ext_tl (h.trans (by decide))
  by_cases c : (tl z).take 1 = [45]
  · rw [decide_eq_true (e1.mpr c)]
    simp only [Bool.false_xor, ↓reduceIte, dAsg, dSlS, doNone, doSome, slsk, dVar, dC, dgN, List.getElem?_cons_zero, List.getElem?_cons_succ, List.set_cons_zero, List.set_cons_succ]
    refine ⟨by omega, ?_⟩
    exact number_2 K a S Q E z _ hok (strOk_cut hok _ _) (Nat.le_trans (cutS_length z _ _) hl) (by rw [c2]; unfold figsOf; rw [if_pos c]) q1 q2
  · rw [decide_eq_false fun h => c (e1.mp h)]
    simp only [Bool.false_xor, Bool.false_eq_true, ↓reduceIte, dNext]
    exact number_2 K a S Q E z _ hok hok hl (by unfold figsOf; rw [if_neg c]) q1 q2

end DL
namespace DL
open PySem L2
open TL PySem.NumText
def numsOf : List Str → Option (List Int)
  | [] => some []
  | w :: r => match numOf w with
    | none => none
    | some i => (numsOf r).map (i :: ·)
instance (s : GS) (l : List Int) : Decidable (s.rd l) := inferInstanceAs (Decidable (_ ∧ _ ∧ _))
instance (s : GS) (l : List Int) : Decidable (s.rok l) := inferInstanceAs (Decidable (_ ∧ _))
def tellW (s : GS) (w : Str) (ns : List Int) : Option GS :=
  if w = "way" ∧ ns.length = 2 then (if s.ok2 (ns.getD 0 0) (ns.getD 1 0) ∧ s.T (ns.getD 0 0) (ns.getD 1 0) = false then some (s.lay (ns.getD 0 0) (ns.getD 1 0)) else none)
  else if w = "like" ∧ ns.length = 3 then (if s.ok (ns.getD 0 0) ∧ s.ok (ns.getD 1 0) then some (s.like (ns.getD 0 0) (ns.getD 1 0) (ns.getD 2 0)) else none)
  else if w = "shun" ∧ ns.length = 2 then (if s.ok2 (ns.getD 0 0) (ns.getD 1 0) then some (s.shun (ns.getD 0 0) (ns.getD 1 0)) else none)
  else if w = "wish" ∧ 0 < ns.length then (if s.rok (ns.drop 1) then some (s.wish (ns.drop 1) (ns.getD 0 0)) else none)
  else none
def tellS (s : GS) (z : Str) : Option GS := match Txt.split z " " with
  | [] => none
  | w :: ws => (numsOf ws).bind (tellW s w)
def tellAll (s : GS) : List Str → Option GS
  | [] => some s
  | z :: r => match tellS s z with
    | none => none
    | some s' => tellAll s' r
def readS (z : Str) : Option GS :=
  let ls := Txt.split z "\n"
  if ls.length < 2 ∨ ls.getLast? ≠ some ("" : Str) then none else
  let ws := Txt.split (ls.getD 0 "") " "
  if ws.length ≠ 2 ∨ ws.getD 0 "" ≠ "houses" then none else
  match numOf (ws.getD 1 "") with
  | none => none
  | some n => if 1 ≤ n ∧ n ≤ 60 then tellAll (GS.new n.toNat) ((ls.drop 1).dropLast) else none
def symT (s : GS) : Prop := ∀ x y, s.T x y = s.T y x
theorem tellW_sym {s s' : GS} {w : Str} {ns : List Int} (h : symT s) (e : tellW s w ns = some s') : symT s' ∧ s'.n = s.n := by
  unfold tellW at e
  split at e
  · split at e
    · cases e
      refine ⟨fun x y => ?_, rfl⟩
      show (s.T x y || _ || _) = (s.T y x || _ || _)
      rw [h x y, Bool.or_assoc, Bool.or_assoc]
      congr 1
      rw [Bool.or_comm]
      congr 1 <;> rw [Bool.and_comm]
    · cases e
  · split at e
    · split at e
      · cases e; exact ⟨h, rfl⟩
      · cases e
    · split at e
      · split at e
        · cases e; exact ⟨h, rfl⟩
        · cases e
      · split at e
        · split at e
          · cases e; exact ⟨h, rfl⟩
          · cases e
        · cases e
theorem tellS_sym {s s' : GS} {z : Str} (h : symT s) (e : tellS s z = some s') : symT s' ∧ s'.n = s.n := by
  unfold tellS at e
  split at e
  · cases e
  · cases c : numsOf _ with
    | none => rw [c] at e; cases e
    | some ns => rw [c] at e; exact tellW_sym h e
theorem spl_parts (S : List Nat) : ∀ (l : List Nat) (k : Nat) (acc : List Nat), ∀ p ∈ spl S k acc l, (∀ c ∈ p, c ∈ acc ∨ c ∈ l) ∧ p.length ≤ acc.length + l.length
  | [], k, acc, p, h => by
    rw [spl_nil] at h
    rw [List.mem_singleton.mp h]
    exact ⟨fun c hc => .inl hc, by simp⟩
  | c :: r, 0, acc, p, h => by
    by_cases hp : pre S (c :: r) = true
    · rw [spl_hit hp] at h
      rcases List.mem_cons.mp h with rfl | h
      · exact ⟨fun c hc => .inl hc, by omega⟩
      · obtain ⟨h1, h2⟩ := spl_parts S r _ [] p h
        exact ⟨fun x hx => .inr (by rcases h1 x hx with h | h; cases h; exact List.mem_cons_of_mem _ h), by simp only [List.length_nil, List.length_cons] at h2 ⊢; omega⟩
    · rw [spl_miss (by simpa using hp)] at h
      obtain ⟨h1, h2⟩ := spl_parts S r _ _ p h
      refine ⟨fun x hx => ?_, by simp only [List.length_append, List.length_cons, List.length_nil] at h2 ⊢; omega⟩
      rcases h1 x hx with h | h
      · rcases List.mem_append.mp h with h | h
        · exact .inl h
        · rw [List.mem_singleton.mp h]; exact .inr List.mem_cons_self
      · exact .inr (List.mem_cons_of_mem _ h)
  | c :: r, k + 1, acc, p, h => by
    obtain ⟨h1, h2⟩ := spl_parts S r k acc p h
    exact ⟨fun x hx => (h1 x hx).imp id (List.mem_cons_of_mem _), by simp only [List.length_cons]; omega⟩
theorem spl_ne (S : List Nat) : ∀ (l : List Nat) (k : Nat) (acc : List Nat), spl S k acc l ≠ [] ∧ (spl S k acc l).length ≤ l.length + 1
  | [], k, acc => by rw [spl_nil]; simp
  | c :: r, 0, acc => by
    by_cases hp : pre S (c :: r) = true
    · rw [spl_hit hp]
      have := (spl_ne S r (S.length - 1) []).2
      simp only [ne_eq, List.cons_ne_nil, not_false_eq_true, List.length_cons, true_and]; omega
    · rw [spl_miss (by simpa using hp)]
      have := spl_ne S r 0 (acc ++ [c])
      exact ⟨this.1, by simp only [List.length_cons]; omega⟩
  | c :: r, k + 1, acc => by
    have := spl_ne S r k acc
    exact ⟨this.1, by simp only [List.length_cons]; exact Nat.le_succ_of_le this.2⟩
theorem split_tl (z : Str) {y : Str} {s : Nat} (ey : tl y = [s]) (hs : s < 256) : (Txt.split z y).map tl = spl [s] 0 [] (tl z) := by
  have := split_spl z y (by rw [ey]; simp) (kind_ok (by
    rw [← Array.all_toList]
    show (tl y).all _ = true
    rw [ey]; simp [hs]))
  rw [ey] at this; exact this
theorem tl_blank : tl (" " : Str) = [32] := by decide
theorem tl_feed : tl ("\n" : Str) = [10] := by decide
theorem split_ok {z y : Str} {s : Nat} (ey : tl y = [s]) (hs : s < 256) (hz : PyData.strOk z = true) : ∀ w ∈ Txt.split z y, PyData.strOk w = true ∧ w.length ≤ z.length := fun w hw => by
  have hm : tl w ∈ spl [s] 0 [] (tl z) := by rw [← split_tl z ey hs]; exact List.mem_map.mpr ⟨w, hw, rfl⟩
  obtain ⟨h1, h2⟩ := spl_parts _ _ _ _ _ hm
  refine ⟨strOk_iff.mpr fun c hc => ?_, by rw [len_tl, len_tl]; simpa using h2⟩
  rcases h1 c hc with h | h
  · cases h
  · exact strOk_iff.mp hz c h
theorem split_ne {z y : Str} {s : Nat} (ey : tl y = [s]) (hs : s < 256) : Txt.split z y ≠ [] ∧ (Txt.split z y).length ≤ z.length + 1 := by
  have h := spl_ne [s] (tl z) 0 []
  rw [← split_tl z ey hs] at h
  refine ⟨fun e => h.1 (by rw [e]; rfl), ?_⟩
  have := h.2
  rw [List.length_map, ← len_tl] at this
  exact this

end DL
namespace DL
open PySem L2
def t_told_line (K : PySem.W.Frag) (a : CA) (W : WD) : TDS :=
  (dSeq (dAsg (dSplit (dVar 1) (dC (.str " "))) (dgN 2))
  (dSeq (dAsg (dLcR false (diL (dSlL false (dVar 2) (doSome (dC (.int 1))) doNone)) (dgN 4) (fun W => (dCall (sp_number a) W (dCons (dVar 4) dNil))) [4] W) (dgN 3))
  (dIfS (dAndT (dB (dOp (eqR false) (dOp ixD (dVar 2) (dC (.int 0))) (dC (.str "way")))) (dB (dOp (eqR false) (dCB lenD (dCons (dVar 3) dNil)) (dC (.int 2)))))
    (dDrop (dMeth a.Guild "lay_way" (sp_Guild_lay_way a) W (dVar 0) (dCons (dOp ixD (dVar 3) (dC (.int 0))) (dCons (dOp ixD (dVar 3) (dC (.int 1))) dNil))))
    (dIfS (dAndT (dB (dOp (eqR false) (dOp ixD (dVar 2) (dC (.int 0))) (dC (.str "like")))) (dB (dOp (eqR false) (dCB lenD (dCons (dVar 3) dNil)) (dC (.int 3)))))
      (dDrop (dMeth a.Guild "like" (sp_Guild_like a) W (dVar 0) (dCons (dOp ixD (dVar 3) (dC (.int 0))) (dCons (dOp ixD (dVar 3) (dC (.int 1))) (dCons (dOp ixD (dVar 3) (dC (.int 2))) dNil)))))
      (dIfS (dAndT (dB (dOp (eqR false) (dOp ixD (dVar 2) (dC (.int 0))) (dC (.str "shun")))) (dB (dOp (eqR false) (dCB lenD (dCons (dVar 3) dNil)) (dC (.int 2)))))
        (dDrop (dMeth a.Guild "shun" (sp_Guild_shun a) W (dVar 0) (dCons (dOp ixD (dVar 3) (dC (.int 0))) (dCons (dOp ixD (dVar 3) (dC (.int 1))) dNil))))
        (dIfS (dAndT (dB (dOp (eqR false) (dOp ixD (dVar 2) (dC (.int 0))) (dC (.str "wish")))) (dB (dOp gtI (dCB lenD (dCons (dVar 3) dNil)) (dC (.int 0)))))
          (dDrop (dMeth a.Guild "wish" (sp_Guild_wish a) W (dVar 0) (dCons (dSlL false (dVar 3) (doSome (dC (.int 1))) doNone) (dCons (dOp ixD (dVar 3) (dC (.int 0))) dNil))))
          (dRaise a.BadNote W)))))))
abbrev N_told_line : List Str := ["guild", "line", "words", "numbers", "word"]
open TL PySem.NumText
def refs (a : CA) : List Addr := [a.NoHouse, a.WayThere, a.NoRoad, a.BadNote]
def sp_told_line (a : CA) : DSp := fun ds S P E => ∃ (A : GA) (s : GS) (m : Nat) (z : Str), ds = [.ref A.g, .str z] ∧ GAt a S A s m ∧ m < 900000 ∧ PyData.strOk z = true ∧ z.length ≤ 4000 ∧ symT s ∧
  (∀ s', tellS s z = some s' → ∀ S', GAt a S' A s' (m + 1) → (∀ b, b ∉ A.all → S' b = S b) → P .non S') ∧ (tellS s z = none → ∀ C ∈ refs a, E C S)
theorem len_told_line (a : CA) (ds : List D) (S : Sto) (Q : D → Sto → Prop) (E : Addr → Sto → Prop) (h : sp_told_line a ds S Q E) : ds.length = ["guild", "line"].length := by
  obtain ⟨_, _, _, _, rfl, _⟩ := h; rfl
theorem numsOf_len : ∀ {ws : List Str} {ns : List Int}, numsOf ws = some ns → ns.length = ws.length
  | [], ns, h => by cases h; rfl
  | w :: r, ns, h => by
    unfold numsOf at h
    cases e : numOf w with
    | none => rw [e] at h; cases h
    | some i =>
      rw [e] at h
      cases e2 : numsOf r with
      | none => rw [e2] at h; cases h
      | some l =>
        rw [e2] at h
        cases h
        rw [List.length_cons, List.length_cons, numsOf_len e2]
theorem num_go (a : CA) {S : Sto} {P : D → Sto → Prop} {E : Addr → Sto → Prop} {W : WD} {ρ : Env'} {still : Sto → Prop} {p : Addr} (hp : S p = none) (hst : ∀ c, still (su S p c)) (hW : E a.BadNote S → ∀ c, W a.BadNote ρ (su S p c)) {o0 o1 o2 : Option D} :
    ∀ (ws : List Str) (acc : List Int), (∀ w ∈ ws, PyData.strOk w = true ∧ w.length ≤ sizeLine) → acc.length + ws.length ≤ sizeLine → (∀ ns, numsOf ws = some ns → P (.lst ((acc ++ ns).map .int)) S) → (numsOf ws = none → E a.BadNote S) →
      lcGo still (dgN 4) dYes (dCall (sp_number a) (fun C _ S' => W C ρ S') (dCons (dVar 4) dNil)) [o0, o1, o2, none, none] p (lcFin false p P) (ws.map .str) (su S p (.ml (acc.map .int)))
  | [], acc, _, _, q, _ => by
    refine ⟨hst _, ?_⟩
    unfold lcFin
    rw [su_same]
    show P _ (sd (su S p _) p)
    rw [sd_su hp]
    have := q [] rfl
    rw [List.append_nil] at this
    exact this
  | w :: r, acc, hw, hl, q, qn => by
    refine ⟨hst _, ?_⟩
    simp only [dgN, dYes, ↓reduceIte, dCall, dCons, dNil, dVar, List.set_cons_zero, List.set_cons_succ, List.getElem?_cons_zero, List.getElem?_cons_succ]
    have h1 := hw w List.mem_cons_self
    refine ⟨w, rfl, h1.1, h1.2, fun i e => ?_, fun e => hW (qn (by unfold numsOf; rw [e])) _⟩
    unfold lcAdd
    dsimp only
    rw [su_same]
    dsimp only
    simp only [List.length_cons] at hl
    refine ⟨by rw [List.length_map]; omega, ?_⟩
    show lcGo _ _ _ _ _ p _ _ (su (su S p _) p _)
    rw [su_su, show acc.map D.int ++ [D.int i] = (acc ++ [i]).map D.int by rw [List.map_append]; rfl]
    refine num_go a hp hst hW r (acc ++ [i]) (fun x hx => hw x (List.mem_cons_of_mem _ hx)) (by rw [List.length_append, List.length_singleton]; omega) (fun ns e2 => ?_) fun e2 => qn (by unfold numsOf; rw [e, e2]; rfl)
    rw [List.append_assoc]
    exact q (i :: ns) (by unfold numsOf; rw [e, e2]; rfl)
theorem bool_if {b : Bool} {p : Prop} [Decidable p] (h : b = decide p) {α : Sort _} {x y : α} : (if b = true then x else y) = if p then x else y := by
  rw [h]; by_cases c : p <;> simp [c]
theorem ix_ns {ns : List Int} {k : Nat} (h : k < ns.length) {S : Sto} {P : D → Sto → Prop} (q : P (.int (ns.getD k 0)) S) : ixD (.lst (ns.map .int)) (.int (k : Nat)) S P := by
  simp only [ixD, ixLK, vl, vm, ixL]
  rw [atI_tab D.int ns (by omega) (by omega)]
  simp only [Int.toNat_natCast]
  rw [List.getD_eq_getElem?_getD, List.getElem?_eq_getElem h] at q
  exact q
theorem lenT_eq (n : Nat) (k : Nat) {S : Sto} {P : D → Sto → Prop} (q : P (.bl (decide (n = k))) S) : eqR false (.int n) (.int (k : Nat)) S P := eqR_i (by
  rw [Bool.false_xor]
  have : decide ((n : Int) = (k : Nat)) = decide (n = k) := by rw [decide_eq_decide]; omega
  rw [this]; exact q)
theorem lenT_gt (n : Nat) {S : Sto} {P : D → Sto → Prop} (q : P (.bl (decide (0 < n))) S) : gtI (.int n) (.int (0 : Nat)) S P := by
  simp only [gtI, iiD0]
  have : decide (((0 : Nat) : Int) < (n : Int)) = decide (0 < n) := by rw [decide_eq_decide]; omega
  rw [this]; exact q
theorem test2 {w c : Str} {ws : List D} {ns : List Int} {k : Nat} {rr : R2D} {r : Nat → Bool} {o0 o1 o4 : Option D} {S : Sto} {P : Bool → Sto → Prop} (hw : PyData.strOk w = true) (hc : PyData.strOk c = true) (hr : ∀ {S : Sto} {P : D → Sto → Prop}, P (.bl (r ns.length)) S → rr (.int ns.length) (.int (k : Nat)) S P)
    (q : P (decide (w = c ∧ r ns.length = true)) S) : dAndT (dB (dOp (eqR false) (dOp ixD (dVar 2) (dC (.int 0))) (dC (.str c)))) (dB (dOp rr (dCB lenD (dCons (dVar 3) dNil)) (dC (.int (k : Nat))))) [o0, o1, some (.lst (.str w :: ws)), some (.lst (ns.map .int)), o4] S P := by
  simp only [dAndT, dB, dOp, dCB, dCons, dNil, dC, dVar, List.getElem?_cons_zero, List.getElem?_cons_succ, ixD, ixLK, vl, vm, ixL, at_0]
  refine eqS hw hc ?_
  by_cases h : w = c
  · rw [decide_eq_true h]
    simp only [Bool.false_xor, ↓reduceIte, lenD, lenS, List.length_map]
    refine hr ?_
    simp only [h, true_and, Bool.decide_eq_true] at q
    exact q
  · rw [decide_eq_false h]
    simp only [Bool.false_xor, Bool.false_eq_true, ↓reduceIte]
    rw [decide_eq_false fun z => h z.1] at q
    exact q
theorem read_told_line (K : PySem.W.Frag) (a : CA) (ds : List D) (S : Sto) (Q : D → Sto → Prop) (E : Addr → Sto → Prop) (h : sp_told_line a ds S Q E) : t_told_line K a (wishOf E) (endsOf Q) (dstart N_told_line ds) S := by
  obtain ⟨A, s, m, z, rfl, g, hm, hok, hzl, hsy, q, qn⟩ := h
  have hs : sizeLine = 2 ^ 24 := rfl
  simp only [t_told_line, N_told_line, dstart, List.map_cons, List.map_nil, List.length_cons, List.length_nil, List.cons_append, List.nil_append, List.replicate, Nat.add_one_sub_one, Nat.reduceAdd, Nat.reduceSub, Nat.sub_self, Nat.sub_zero]
  rw [dSeq_ap]
  simp only [dAsg, dSplit, dC, dVar, dgN, List.getElem?_cons_zero, List.getElem?_cons_succ, List.set_cons_zero, List.set_cons_succ]
  refine ⟨⟨_, rfl⟩, z, " ", rfl, rfl, by decide, by omega, ?_⟩
  have hw := split_ok (z := z) tl_blank (by decide) hok
  have hne := split_ne (z := z) tl_blank (by decide)
  have htell : tellS s z = match Txt.split z " " with
    | [] => none
    | w :: ws => (numsOf ws).bind (tellW s w) := rfl
  generalize Txt.split z " " = parts at hw hne htell
  cases parts with
  | nil => exact absurd rfl hne.1
  | cons w ws =>
  simp only at htell
  have hwl := hne.2
  simp only [List.length_cons] at hwl
  have hw0 := hw w List.mem_cons_self
  rw [dSeq_ap]
  simp only [dAsg, dLcR, diL, dSlL, dVar, doSome, doNone, dC, slk, vl, vm, newL, List.getElem?_cons_zero, List.getElem?_cons_succ, diLk, wipeD, List.set_cons_zero, List.set_cons_succ, cut1, List.map_cons, List.drop_succ_cons, List.drop_zero]
  intro p hp
  refine num_go a (P := fun d S' => _) (E := E) hp (fun c => ?_) (fun h c => wish_le (SLe.su hp) h) ws [] (fun x hx => ?_) (by simp only [List.length_nil]; omega) (fun ns en => ?_) fun en => qn (by rw [htell, en]; rfl) _ (by simp [refs])
  · simp only [vl, vm]
  · have := hw x (List.mem_cons_of_mem _ hx)
    exact ⟨this.1, by omega⟩
  rw [en] at htell
  simp only [Option.bind_some] at htell
  have hnl := numsOf_len en
  rw [htell] at q qn
  clear htell en
  simp only [List.nil_append, dgN, List.set_cons_zero, List.set_cons_succ]
  have bad : tellW s w ns = none → wishOf E a.BadNote [some (.ref A.g), some (.str z), some (.lst (.str w :: ws.map .str)), some (.lst (ns.map .int)), none] S := fun h => wish_of (qn h _ (by simp [refs]))
  refine test2 (w := w) (ws := ws.map .str) (ns := ns) (c := "way") (k := 2) (r := fun n => decide (n = 2)) hw0.1 (by decide +kernel) (lenT_eq _ _) ?_
  by_cases c1 : w = "way" ∧ ns.length = 2
  · rw [show decide (w = "way" ∧ decide (ns.length = 2) = true) = true from decide_eq_true ⟨c1.1, decide_eq_true c1.2⟩]
    simp only [↓reduceIte]
    have e : tellW s w ns = if s.ok2 (ns.getD 0 0) (ns.getD 1 0) ∧ s.T (ns.getD 0 0) (ns.getD 1 0) = false then some (s.lay (ns.getD 0 0) (ns.getD 1 0)) else none := by unfold tellW; rw [if_pos c1]
    rw [e] at q qn
    simp only [dDrop, dMeth, dCons, dNil, dOp, dVar, dC, List.getElem?_cons_zero, List.getElem?_cons_succ, g.g, onIns, gf_houses, gf_ties, gf_shy, gf_fond, gf_longings, gfm_see_house, gfm_see_two, gfm_size, gfm_neighbours, gfm_has_way, gfm_lay_way, gfm_lift_way, gfm_like, gfm_liking, gfm_shun, gfm_shunned, gfm_see_road, gfm_wish, gfm_wishes, gfm_rank_of, gp_houses, gp_ties, gp_shy, gp_fond, gp_longings, true_and]
    refine ix_ns (k := 0) (by omega) (ix_ns (k := 1) (by omega) ?_)
    refine ⟨A, s, m, _, _, rfl, g, fun h => ?_, fun h h2 => ?_, fun h h2 => ⟨by rw [hsy]; exact h2, fun S' g' f' => ?_⟩⟩
    · rw [if_neg fun h2 => h h2.1] at qn
      exact wish_of (qn rfl _ (by simp [refs]))
    · rw [if_neg fun h3 => by rw [h2] at h3; cases h3.2] at qn
      exact wish_of (qn rfl _ (by simp [refs]))
    · rw [if_pos ⟨h, h2⟩] at q
      exact nx_of (q _ rfl S' (g'.more (by omega)) f')
  rw [show decide (w = "way" ∧ decide (ns.length = 2) = true) = false from decide_eq_false fun h => c1 ⟨h.1, of_decide_eq_true h.2⟩]
  simp only [Bool.false_eq_true, ↓reduceIte]
  refine test2 (w := w) (ws := ws.map .str) (ns := ns) (c := "like") (k := 3) (r := fun n => decide (n = 3)) hw0.1 (by decide +kernel) (lenT_eq _ _) ?_
  by_cases c2 : w = "like" ∧ ns.length = 3
  · rw [show decide (w = "like" ∧ decide (ns.length = 3) = true) = true from decide_eq_true ⟨c2.1, decide_eq_true c2.2⟩]
    simp only [↓reduceIte]
    have e : tellW s w ns = if s.ok (ns.getD 0 0) ∧ s.ok (ns.getD 1 0) then some (s.like (ns.getD 0 0) (ns.getD 1 0) (ns.getD 2 0)) else none := by unfold tellW; rw [if_neg c1, if_pos c2]
    rw [e] at q qn
    simp only [dDrop, dMeth, dCons, dNil, dOp, dVar, dC, List.getElem?_cons_zero, List.getElem?_cons_succ, g.g, onIns, gf_houses, gf_ties, gf_shy, gf_fond, gf_longings, gfm_see_house, gfm_see_two, gfm_size, gfm_neighbours, gfm_has_way, gfm_lay_way, gfm_lift_way, gfm_like, gfm_liking, gfm_shun, gfm_shunned, gfm_see_road, gfm_wish, gfm_wishes, gfm_rank_of, gp_houses, gp_ties, gp_shy, gp_fond, gp_longings, true_and]
    refine ix_ns (k := 0) (by omega) (ix_ns (k := 1) (by omega) (ix_ns (k := 2) (by omega) ?_))
    refine ⟨A, s, m, _, _, _, rfl, g, by omega, fun h => ?_, fun h h2 S' g' f' => ?_⟩
    · rw [if_neg h] at qn
      exact wish_of (qn rfl _ (by simp [refs]))
    · rw [if_pos ⟨h, h2⟩] at q
      exact nx_of (q _ rfl S' g' f')
  rw [show decide (w = "like" ∧ decide (ns.length = 3) = true) = false from decide_eq_false fun h => c2 ⟨h.1, of_decide_eq_true h.2⟩]
  simp only [Bool.false_eq_true, ↓reduceIte]
  refine test2 (w := w) (ws := ws.map .str) (ns := ns) (c := "shun") (k := 2) (r := fun n => decide (n = 2)) hw0.1 (by decide +kernel) (lenT_eq _ _) ?_
  by_cases c3 : w = "shun" ∧ ns.length = 2
  · rw [show decide (w = "shun" ∧ decide (ns.length = 2) = true) = true from decide_eq_true ⟨c3.1, decide_eq_true c3.2⟩]
    simp only [↓reduceIte]
    have e : tellW s w ns = if s.ok2 (ns.getD 0 0) (ns.getD 1 0) then some (s.shun (ns.getD 0 0) (ns.getD 1 0)) else none := by unfold tellW; rw [if_neg c1, if_neg c2, if_pos c3]
    rw [e] at q qn
    simp only [dDrop, dMeth, dCons, dNil, dOp, dVar, dC, List.getElem?_cons_zero, List.getElem?_cons_succ, g.g, onIns, gf_houses, gf_ties, gf_shy, gf_fond, gf_longings, gfm_see_house, gfm_see_two, gfm_size, gfm_neighbours, gfm_has_way, gfm_lay_way, gfm_lift_way, gfm_like, gfm_liking, gfm_shun, gfm_shunned, gfm_see_road, gfm_wish, gfm_wishes, gfm_rank_of, gp_houses, gp_ties, gp_shy, gp_fond, gp_longings, true_and]
    refine ix_ns (k := 0) (by omega) (ix_ns (k := 1) (by omega) ?_)
    refine ⟨A, s, m, _, _, rfl, g, fun h => ?_, fun h S' g' f' => ?_⟩
    · rw [if_neg h] at qn
      exact wish_of (qn rfl _ (by simp [refs]))
    · rw [if_pos h] at q
      exact nx_of (q _ rfl S' (g'.more (by omega)) f')
  rw [show decide (w = "shun" ∧ decide (ns.length = 2) = true) = false from decide_eq_false fun h => c3 ⟨h.1, of_decide_eq_true h.2⟩]
  simp only [Bool.false_eq_true, ↓reduceIte]
  refine test2 (w := w) (ws := ws.map .str) (ns := ns) (c := "wish") (k := 0) (r := fun n => decide (0 < n)) hw0.1 (by decide +kernel) (lenT_gt _) ?_
  by_cases c4 : w = "wish" ∧ 0 < ns.length
  · rw [show decide (w = "wish" ∧ decide (0 < ns.length) = true) = true from decide_eq_true ⟨c4.1, decide_eq_true c4.2⟩]
    simp only [↓reduceIte]
    have e : tellW s w ns = if s.rok (ns.drop 1) then some (s.wish (ns.drop 1) (ns.getD 0 0)) else none := by unfold tellW; rw [if_neg c1, if_neg c2, if_neg c3, if_pos c4]
    rw [e] at q qn
    simp only [dDrop, dMeth, dCons, dNil, dOp, dVar, dC, dSlL, doSome, doNone, slk, vl, vm, newL, cut1, List.getElem?_cons_zero, List.getElem?_cons_succ, g.g, onIns, gf_houses, gf_ties, gf_shy, gf_fond, gf_longings, gfm_see_house, gfm_see_two, gfm_size, gfm_neighbours, gfm_has_way, gfm_lay_way, gfm_lift_way, gfm_like, gfm_liking, gfm_shun, gfm_shunned, gfm_see_road, gfm_wish, gfm_wishes, gfm_rank_of, gp_houses, gp_ties, gp_shy, gp_fond, gp_longings, true_and]
    refine ix_ns (k := 0) (by omega) ?_
    refine ⟨A, s, m, _, ns.drop 1, _, rfl, g, by simp only [vm, List.map_drop], by rw [List.length_drop]; omega, by omega, fun h => ?_, fun h h2 => ?_, fun h S' g' f' => ?_⟩
    · rw [if_neg fun h2 => h h2.1] at qn
      exact wish_of (qn rfl _ (by simp [refs]))
    · rw [if_neg fun h3 => h2 h3.2] at qn
      exact wish_of (qn rfl _ (by simp [refs]))
    · rw [if_pos h] at q
      exact nx_of (q _ rfl S' g' f')
  rw [show decide (w = "wish" ∧ decide (0 < ns.length) = true) = false from decide_eq_false fun h => c4 ⟨h.1, of_decide_eq_true h.2⟩]
  simp only [Bool.false_eq_true, ↓reduceIte, dRaise]
  exact bad (by unfold tellW; rw [if_neg c1, if_neg c2, if_neg c3, if_neg c4])

end DL
namespace DL
open PySem L2
def t_read (K : PySem.W.Frag) (a : CA) (W : WD) : TDS :=
  (dSeq (dAsg (dSplit (dVar 0) (dC (.str "\n"))) (dgN 1))
  (dSeq (dIfS (dOrT (dB (dOp ltI (dCB lenD (dCons (dVar 1) dNil)) (dC (.int 2)))) (dB (dOp (eqR true) (dOp ixD (dVar 1) (dNeg (dC (.int 1)))) (dC (.str "")))))
    (dRaise a.BadNote W)
    dNext)
  (dSeq (dAsg (dSplit (dOp ixD (dVar 1) (dC (.int 0))) (dC (.str " "))) (dgN 2))
  (dSeq (dIfS (dOrT (dB (dOp (eqR true) (dCB lenD (dCons (dVar 2) dNil)) (dC (.int 2)))) (dB (dOp (eqR true) (dOp ixD (dVar 2) (dC (.int 0))) (dC (.str "houses")))))
    (dRaise a.BadNote W)
    dNext)
  (dSeq (dTryR K (.ref a.GuildError) a.BadNote
    (fun W => (dSeq (dAsg (dMake a.Guild (sp_Guild_init a) W (dCons (dCall (sp_number a) W (dCons (dOp ixD (dVar 2) (dC (.int 1))) dNil)) dNil)) (dgN 3))
    (dFor (dSlL false (dVar 1) (doSome (dC (.int 1))) (doSome (dNeg (dC (.int 1))))) (dgN 4)
      (dDrop (dCall (sp_told_line a) W (dCons (dVar 3) (dCons (dVar 4) dNil))))))) W)
  (dRet (dVar 3)))))))
abbrev N_read : List Str := ["text", "lines", "words", "guild", "line"]
open TL PySem.NumText
def linesIn (z : Str) : List Str := Txt.split z "\n"
def sp_read (a : CA) : DSp := fun ds S P E => ∃ (z : Str), ds = [.str z] ∧ PyData.strOk z = true ∧ z.length + 2 ≤ sizeLine ∧ (∀ l ∈ linesIn z, l.length ≤ 4000) ∧ (linesIn z).length ≤ 800000 ∧
  (∀ s, readS z = some s → ∀ (A : GA) (S' : Sto), GAt a S' A s (linesIn z).length → FreshG S S' A → P (.ref A.g) S') ∧ (readS z = none → E a.BadNote S)
theorem len_read (a : CA) (ds : List D) (S : Sto) (Q : D → Sto → Prop) (E : Addr → Sto → Prop) (h : sp_read a ds S Q E) : ds.length = ["text"].length := by
  obtain ⟨_, rfl, _⟩ := h; rfl
theorem cut_mid {α : Type} (f : α → D) (x y : α) (l : List α) : cutD ((x :: y :: l).map f) (some 1) (some (-1)) = ((y :: l).dropLast).map f := by
  unfold cutD
  have e1 : HT.sIx ((x :: y :: l).map f).length 0 (some 1) = min 1 ((x :: y :: l).map f).length := HT.sIx_nat _ _ 1
  have e2 : HT.sIx ((x :: y :: l).map f).length ((x :: y :: l).map f).length (some (-1)) = ((x :: y :: l).map f).length - 1 := by
    show (if (-1 : Int) < 0 then ((-1 : Int) + (((x :: y :: l).map f).length : Nat)).toNat else min (-1 : Int).toNat ((x :: y :: l).map f).length) = _
    rw [if_pos (by decide)]; omega
  rw [e1, e2, List.length_map]
  simp only [List.length_cons, List.map_cons]
  rw [show min 1 (l.length + 1 + 1) = 1 by omega]
  simp only [List.drop_succ_cons, List.drop_zero]
  rw [List.dropLast_eq_take, List.map_take]
  simp only [List.length_cons, List.map_cons, Nat.add_sub_cancel]
theorem ref_guild {K : PySem.W.Frag} {a : CA} (X : ExK K a) : ∀ C ∈ refs a, PySem.W.exmOne K (.ref C) (.ref a.GuildError) = some true := fun C hC => by
  simp only [refs, List.mem_cons, List.not_mem_nil, or_false] at hC
  rcases hC with rfl | rfl | rfl | rfl
  · exact X.m_NoHouse_GuildError
  · exact X.m_WayThere_GuildError
  · exact X.m_NoRoad_GuildError
  · exact X.m_BadNote_GuildError
theorem read_read (K : PySem.W.Frag) (a : CA) (X : ExK K a) (ds : List D) (S : Sto) (Q : D → Sto → Prop) (E : Addr → Sto → Prop) (h : sp_read a ds S Q E) : t_read K a (wishOf E) (endsOf Q) (dstart N_read ds) S := by
  obtain ⟨z, rfl, hok, hzl, hll, hln, q, qn⟩ := h
  have hs : sizeLine = 2 ^ 24 := rfl
  simp only [t_read, N_read, dstart, List.map_cons, List.map_nil, List.length_cons, List.length_nil, List.cons_append, List.nil_append, List.replicate, Nat.add_one_sub_one, Nat.reduceAdd, Nat.reduceSub, Nat.sub_self, Nat.sub_zero]
  rw [dSeq_ap]
  simp only [dAsg, dSplit, dC, dVar, dgN, List.getElem?_cons_zero, List.getElem?_cons_succ, List.set_cons_zero, List.set_cons_succ]
  refine ⟨⟨_, rfl⟩, z, "\n", rfl, rfl, by decide, by omega, ?_⟩
  have hw := split_ok (z := z) tl_feed (by decide) hok
  have hread : readS z = (if (linesIn z).length < 2 ∨ (linesIn z).getLast? ≠ some ("" : Str) then none else if (Txt.split ((linesIn z).getD 0 "") " ").length ≠ 2 ∨ (Txt.split ((linesIn z).getD 0 "") " ").getD 0 "" ≠ "houses" then none else
    match numOf ((Txt.split ((linesIn z).getD 0 "") " ").getD 1 "") with
    | none => none
    | some n => if 1 ≤ n ∧ n ≤ 60 then tellAll (GS.new n.toNat) (((linesIn z).drop 1).dropLast) else none) := rfl
  change ∀ w ∈ linesIn z, _ at hw
  change dSeq _ _ _ [_, some (.lst ((linesIn z).map D.str)), _, _, _] _
  generalize linesIn z = ls at hw hll hln hread q
  rw [dSeq_ap]
  simp only [dIfS, dOrT, dB, dOp, dCB, dCons, dNil, dNeg, dC, dVar, List.getElem?_cons_zero, List.getElem?_cons_succ, lenD, lenS, List.length_map, ltI, iiD0]
  by_cases c1 : ls.length < 2
  · rw [decide_eq_true (show (ls.length : Int) < 2 by omega)]
    simp only [↓reduceIte, dRaise]
    rw [if_pos (.inl c1)] at hread
    exact wish_of (qn hread)
  rw [decide_eq_false (show ¬ (ls.length : Int) < 2 by omega)]
  simp only [Bool.false_eq_true, ↓reduceIte]
  obtain ⟨x, y, l, els⟩ : ∃ x y l, ls = x :: y :: l := by
    match ls, c1 with
    | x :: y :: l, _ => exact ⟨x, y, l, rfl⟩
    | [], c => exact absurd (by decide) c
    | [x], c => exact absurd (by simp) c
  have hne : ls ≠ [] := by rw [els]; simp
  have hlast : atI (ls.map D.str) (-1) = some (.str (ls.getLast hne)) := by rw [atI_map, atI_last hne]; rfl
  simp only [ixD, ixLK, vl, vm, ixL, hlast]
  refine eqS (hw _ (List.getLast_mem hne)).1 (by decide +kernel) ?_
  by_cases c2 : ls.getLast hne = ""
  · rw [decide_eq_true c2]
    simp only [Bool.true_xor, Bool.not_true, Bool.false_eq_true, ↓reduceIte, dNext]
    rw [if_neg (by rintro (h | h); exact c1 h; exact h (by rw [List.getLast?_eq_some_getLast hne, c2]))] at hread
    clear hlast c1 hne c2
    subst els
    have hx := hw x List.mem_cons_self
    have hxl := hll x List.mem_cons_self
    have e0 : (x :: y :: l).getD 0 ("" : Str) = x := rfl
    have e1 : ((x :: y :: l).drop 1).dropLast = (y :: l).dropLast := rfl
    rw [e0, e1] at hread
    (try dsimp only)
    rw [dSeq_ap]
    simp only [dAsg, dSplit, dOp, dC, dVar, dgN, List.getElem?_cons_zero, List.getElem?_cons_succ, List.set_cons_zero, List.set_cons_succ, ixD, ixLK, vl, vm, ixL, List.map_cons, at_0]
    refine ⟨⟨_, rfl⟩, x, " ", rfl, rfl, by decide, by omega, ?_⟩
    have hw2 := split_ok (z := x) tl_blank (by decide) hx.1
    generalize Txt.split x " " = ws at hread hw2 ⊢
    (try dsimp only)
    rw [dSeq_ap]
    simp only [dIfS, dOrT, dB, dOp, dCB, dCons, dNil, dC, dVar, List.getElem?_cons_zero, List.getElem?_cons_succ, lenD, lenS, List.length_map]
    refine eqR_i ?_
    by_cases c3 : ws.length = 2
    · rw [decide_eq_true (show (ws.length : Int) = 2 by omega)]
      simp only [Bool.true_xor, Bool.not_true, Bool.false_eq_true, ↓reduceIte]
      obtain ⟨u, v, euv⟩ : ∃ u v, ws = [u, v] := by
        match ws, c3 with
        | [u, v], _ => exact ⟨u, v, rfl⟩
      subst euv
      have hu := hw2 u List.mem_cons_self
      have hv := hw2 v (by simp)
      have e2 : [u, v].getD 0 ("" : Str) = u := rfl
      have e3 : [u, v].getD 1 ("" : Str) = v := rfl
      rw [e2, e3] at hread
      simp only [ixD, ixLK, vl, vm, ixL, List.map_cons, List.map_nil, at_0]
      refine eqS hu.1 (by decide +kernel) ?_
      by_cases c4 : u = "houses"
      · rw [decide_eq_true c4]
        simp only [Bool.true_xor, Bool.not_true, Bool.false_eq_true, ↓reduceIte, dNext]
        rw [if_neg (by rintro (h | h); exact h rfl; exact h c4)] at hread
        (try dsimp only)
        rw [dSeq_ap]
        simp only [dTryR]
        rw [dSeq_ap]
        have bad : readS z = none → ∀ (C : Addr) (S' : Sto) (ρ : Env'), C ∈ refs a → SLe S S' → ∃ b, PySem.W.exmOne K (.ref C) (.ref a.GuildError) = some b ∧ (b = true → wishOf E a.BadNote ρ S') ∧ (b = false → wishOf E C ρ S') := fun h C S' ρ hC le => ⟨true, ref_guild X C hC, fun _ => wish_le le (qn h), fun z => by cases z⟩
        simp only [dAsg, dMake, dCons, dNil, dCall, dOp, dC, dVar, dgN, List.getElem?_cons_zero, List.getElem?_cons_succ, List.set_cons_zero, List.set_cons_succ, ixD, ixLK, vl, vm, ixL, at_1]
        refine ⟨v, rfl, hv.1, by have := hv.2; omega, fun n en => ?_, fun en => ?_⟩
        · intro g hg
          rw [en] at hread
          simp only at hread
          refine ⟨g, n, rfl, su_same, fun hn A S1 eg gat f1 f2 => ⟨rfl, ?_⟩, fun hn => ?_⟩
          · subst eg
            rw [if_pos hn] at hread
            have fr : FreshG S S1 A := ⟨fun b hb => by rw [f1 b hb, su_ne fun e => hb (by rw [e]; exact mem_all_g)], fun b hb => by
              by_cases c : b = A.g
              · rw [c]; exact hg
              · have := f2 b hb c; rw [su_ne c] at this; exact this⟩
            simp only [dFor, dSlL, doSome, dNeg, dC, dVar, List.getElem?_cons_zero, List.getElem?_cons_succ, slk, vl, vm]
            rw [show D.str x :: D.str y :: l.map D.str = (x :: y :: l).map D.str from rfl, cut_mid]
            simp only [newL, vl, vm, dForK]
            refine dGo_map (f := D.str) (fun rest ρ S' => (∃ o4, ρ = [some (.str z), some (.lst ((x :: y :: l).map .str)), some (.lst [.str u, .str v]), some (.ref A.g), o4]) ∧ ∃ s' m', GAt a S' A s' m' ∧ m' + rest.length ≤ (y :: l).length ∧ FreshG S S' A ∧ symT s' ∧ tellAll s' rest = tellAll (GS.new n.toNat) ((y :: l).dropLast) ∧ ∀ w ∈ rest, w ∈ x :: y :: l) ?_ ?_ _ _ _
              ⟨⟨_, rfl⟩, _, 0, gat, by rw [List.length_dropLast]; omega, fr, fun _ _ => rfl, rfl, fun w hw9 => List.mem_cons_of_mem _ (List.dropLast_subset _ hw9)⟩
            · rintro ρ S2 ⟨⟨o4, rfl⟩, s', m', g2, hm2, fr2, sy2, ta, _⟩
              refine ⟨trivial, ?_⟩
              rw [← ta] at hread
              simp only [dRet, dVar, List.getElem?_cons_zero, List.getElem?_cons_succ]
              exact rt_of (q s' hread A S2 (g2.more (by simp only [List.length_cons, List.length_nil] at hm2 ⊢; omega)) fr2)
            · rintro w rest ρ S2 N ⟨⟨o4, rfl⟩, s', m', g2, hm2, fr2, sy2, ta, hin⟩ hN
              refine ⟨trivial, ?_⟩
              have hwm := hin w List.mem_cons_self
              simp only [List.length_cons] at hm2 hln
              simp only [dgN, List.set_cons_zero, List.set_cons_succ, dDrop, dCall, dCons, dNil, dVar, List.getElem?_cons_zero, List.getElem?_cons_succ]
              refine ⟨A, s', m', w, rfl, g2, by omega, (hw w hwm).1, hll w hwm, sy2, fun s2 e2 S3 g3 f3 => ?_, fun e2 C hC => ?_⟩
              · refine hN _ _ ⟨⟨_, rfl⟩, s2, m' + 1, g3, by simp only [List.length_cons]; omega, fr2.step f3, (tellS_sym sy2 e2).1, ?_, fun b hb => hin b (List.mem_cons_of_mem _ hb)⟩
                rw [← ta]
                show _ = match tellS s' w with | none => none | some s' => tellAll s' rest
                rw [e2]
              · refine bad ?_ C _ _ hC fr2.le
                rw [hread, ← ta]
                show (match tellS s' w with | none => none | some s' => tellAll s' rest) = none
                rw [e2]
          · rw [if_neg hn] at hread
            exact bad hread _ _ _ (by simp [refs]) (SLe.su hg)
        · rw [en] at hread
          exact bad hread _ _ _ (by simp [refs]) (SLe.refl S)
      · rw [decide_eq_false c4]
        simp only [Bool.true_xor, Bool.not_false, ↓reduceIte, dRaise]
        rw [if_pos (.inr c4)] at hread
        exact wish_of (qn hread)
    · rw [decide_eq_false (show ¬ (ws.length : Int) = 2 by omega)]
      simp only [Bool.true_xor, Bool.not_false, ↓reduceIte, dRaise]
      rw [if_pos (.inl c3)] at hread
      exact wish_of (qn hread)
  · rw [decide_eq_false c2]
    simp only [Bool.true_xor, Bool.not_false, ↓reduceIte, dRaise]
    rw [if_pos (.inr (by rw [List.getLast?_eq_some_getLast hne]; simpa using c2))] at hread
    exact wish_of (qn hread)

end DL
namespace DL
open PySem L2
def t_law_cell_at (K : PySem.W.Frag) (a : CA) (W : WD) : TDS :=
  (dSeq (dIfS (dB (dOp ltI (dVar 1) (dCB lenD (dCons (dVar 0) dNil))))
    (dRet (dOp ixD (dVar 0) (dVar 1)))
    dNext)
  (dRet (dC (.int 0))))
abbrev N_law_cell_at : List Str := ["script", "k"]
def cellAt (ns : List Int) (k : Int) : Int := ns.getD k.toNat 0
def sp_law_cell_at (a : CA) : DSp := fun ds S P E => ∃ ns k, ds = [.scr ns, .int k] ∧ 0 ≤ k ∧ P (.int (cellAt ns k)) S
theorem len_law_cell_at (a : CA) (ds : List D) (S : Sto) (Q : D → Sto → Prop) (E : Addr → Sto → Prop) (h : sp_law_cell_at a ds S Q E) : ds.length = ["script", "k"].length := by
  obtain ⟨ns, k, rfl, _⟩ := h; rfl
theorem read_law_cell_at (K : PySem.W.Frag) (a : CA) (ds : List D) (S : Sto) (Q : D → Sto → Prop) (E : Addr → Sto → Prop) (h : sp_law_cell_at a ds S Q E) : t_law_cell_at K a (wishOf E) (endsOf Q) (dstart N_law_cell_at ds) S := by
  obtain ⟨ns, k, rfl, hk, q⟩ := h
  simp only [t_law_cell_at, N_law_cell_at, dSeq, dIfS, dB, dOp, dVar, dCB, dCons, dNil, dRet, dRetN, dNext, dC, dAsg, dgN, dgT, dgSeq, dDrop, dCont, dAndT, dOrT, dNotT, dAndV, dOrV, dNotV, dIf, dIsN, dNotN, dNeg, dLst, dTup, dNewI, dCall, dMeth, dMake, dRaise, dFrz, dIsi, isiK, tyS, inst_NoneType_bool, inst_NoneType_int, inst_NoneType_str, inst_NoneType_list, inst_NoneType_tuple, inst_bool_bool, inst_bool_int, inst_bool_str, inst_bool_list, inst_bool_tuple, inst_int_bool, inst_int_int, inst_int_str, inst_int_list, inst_int_tuple, inst_str_bool, inst_str_int, inst_str_str, inst_str_list, inst_str_tuple, inst_list_bool, inst_list_int, inst_list_str, inst_list_list, inst_list_tuple, inst_tuple_bool, inst_tuple_int, inst_tuple_str, inst_tuple_list, inst_tuple_tuple, iiD, iiD0, subD, mulD, fdivD, modD, shrD, pow_10_6, pow_10_60, ltI, leI, gtI, geI, addI, addD, catD, scatD, lenD, lenS, ixD, ixL, ixLK, ixK, vl, vm, newL, i2D, absD, tupleD, dLM, dLM0, dFld, getF, dGet1, dGet2, getK, dSetIx, rng1, rng2, dFor1, dFor2, dFor, dForK, eqR, rs, dstart, List.map_cons, List.map_nil, List.length_cons, List.length_nil, List.cons_append, List.nil_append, List.replicate, List.getElem?_cons_zero, List.getElem?_cons_succ, List.set_cons_zero, List.set_cons_succ, Option.isSome_some, Option.isNone_some, Option.isNone_none, Nat.add_one_sub_one, Nat.reduceAdd, Nat.reduceSub, Nat.sub_self, Nat.sub_zero, Bool.not_true, Bool.not_false, ↓reduceIte, Bool.false_eq_true, Bool.true_eq_false, okD_int, okD_bl, okD_non, dEq_int, dEq_bl, Bool.true_xor, Bool.false_xor, Bool.not_eq_true', decide_eq_true_eq, decide_eq_false_iff_not, true_and, Bool.and_true, Bool.and_false, Bool.true_and, Bool.false_and, at_0, at_1, at_2, cast0, cast1, cast2, cast3, not_true_eq_false, not_false_eq_true, eL, Option.map_some, Option.map_none, dSlL, slk, doNone, doSome, sortedTD, dLenSet, lsk, endsOf]
  by_cases c : k < ns.length
  · rw [if_pos (by simpa using c), atI_map, atI_pos hk c]
    refine ⟨S, SLe.refl S, ?_⟩
    unfold cellAt at q
    rw [List.getD_eq_getElem?_getD, List.getElem?_eq_getElem (by omega)] at q
    exact q
  · rw [if_neg (by simpa using c)]
    refine ⟨S, SLe.refl S, ?_⟩
    unfold cellAt at q
    rw [List.getD_eq_getElem?_getD, List.getElem?_eq_none (by omega)] at q
    exact q
theorem x_law_cell_at {a : CA} {ns : List Int} {k : Int} {S : Sto} {P : D → Sto → Prop} {E : Addr → Sto → Prop} (h : 0 ≤ k) : sp_law_cell_at a [.scr ns, .int k] S P E = P (.int (cellAt ns k)) S := by
  refine propext ⟨fun ⟨ns', k', e, _, q⟩ => ?_, fun q => ⟨ns, k, rfl, h, q⟩⟩
  injection e with e1 e2; injection e1 with e1; injection e2 with e2 e3; injection e2 with e2
  rw [e1, e2]; exact q

end DL
namespace DL
open PySem L2
def t_law_road_by (K : PySem.W.Frag) (a : CA) (W : WD) : TDS :=
  (dSeq (dAsg (dLc true (diR2 (dCons (dC (.int 1)) (dCons (dVar 2) dNil))) (dgN 4) (dB (dOp (eqR true) (dVar 4) (dVar 1))) (dVar 4) [4]) (dgN 3))
  (dSeq (dAsg (dLst true (dCons (dVar 1) dNil)) (dgN 5))
  (dSeq (dAsg (dOp modD (dVar 0) (dC (.int 4))) (dgN 6))
  (dSeq (dIfS (dB (dOp (eqR false) (dOp modD (dOp fdivD (dVar 0) (dC (.int 4))) (dC (.int 8))) (dC (.int 3))))
    (dAsg (dVar 2) (dgN 6))
    dNext)
  (dSeq (dAsg (dOp fdivD (dVar 0) (dC (.int 4))) (dgN 0))
  (dSeq (dWhile (dAndT (dB (dOp gtI (dVar 6) (dC (.int 0)))) (dB (dOp gtI (dCB lenD (dCons (dVar 3) dNil)) (dC (.int 0)))))
    (dSeq (dDrop (dLM appendD (dVar 5) (dCons (dLM popAtD (dVar 3) (dCons (dOp modD (dVar 0) (dCB lenD (dCons (dVar 3) dNil))) dNil)) dNil)))
    (dSeq (dAsg (dOp fdivD (dVar 0) (dC (.int 5))) (dgN 0))
    (dAsg (dOp subD (dVar 6) (dC (.int 1))) (dgN 6)))))
  (dRet (dOp (addD false) (dVar 5) (dLst false (dCons (dC (.int 0)) dNil))))))))))
abbrev N_law_road_by : List Str := ["cell", "house", "size", "rest", "far", "road", "many"]
def sp_law_road_by (a : CA) : DSp := fun ds S P E => ∃ cell house, ∃ size : Nat, ds = [.int cell, .int house, .int size] ∧ 1 ≤ size ∧ size ≤ 1000 ∧ P (eR (roadBy cell house size)) S
theorem len_law_road_by (a : CA) (ds : List D) (S : Sto) (Q : D → Sto → Prop) (E : Addr → Sto → Prop) (h : sp_law_road_by a ds S Q E) : ds.length = ["cell", "house", "size"].length := by
  obtain ⟨_, _, _, rfl, _⟩ := h; rfl
theorem read_law_road_by (K : PySem.W.Frag) (a : CA) (ds : List D) (S : Sto) (Q : D → Sto → Prop) (E : Addr → Sto → Prop) (h : sp_law_road_by a ds S Q E) : t_law_road_by K a (wishOf E) (endsOf Q) (dstart N_law_road_by ds) S := by
  obtain ⟨cell, house, size, rfl, hs1, hs2, q⟩ := h
  simp only [t_law_road_by, N_law_road_by, dSeq, dIfS, dB, dOp, dVar, dCB, dCons, dNil, dRet, dRetN, dNext, dC, dAsg, dgN, dgT, dgSeq, dDrop, dCont, dAndT, dOrT, dNotT, dAndV, dOrV, dNotV, dIf, dIsN, dNotN, dNeg, dLst, dTup, dNewI, dCall, dMeth, dMake, dRaise, dFrz, dIsi, isiK, tyS, inst_NoneType_bool, inst_NoneType_int, inst_NoneType_str, inst_NoneType_list, inst_NoneType_tuple, inst_bool_bool, inst_bool_int, inst_bool_str, inst_bool_list, inst_bool_tuple, inst_int_bool, inst_int_int, inst_int_str, inst_int_list, inst_int_tuple, inst_str_bool, inst_str_int, inst_str_str, inst_str_list, inst_str_tuple, inst_list_bool, inst_list_int, inst_list_str, inst_list_list, inst_list_tuple, inst_tuple_bool, inst_tuple_int, inst_tuple_str, inst_tuple_list, inst_tuple_tuple, iiD, iiD0, subD, mulD, fdivD, modD, shrD, pow_10_6, pow_10_60, ltI, leI, gtI, geI, addI, addD, catD, scatD, lenD, lenS, ixD, ixL, ixLK, ixK, vl, vm, newL, i2D, absD, tupleD, dLM, dLM0, dFld, getF, dGet1, dGet2, getK, dSetIx, rng1, rng2, dFor1, dFor2, dFor, dForK, eqR, rs, dstart, List.map_cons, List.map_nil, List.length_cons, List.length_nil, List.cons_append, List.nil_append, List.replicate, List.getElem?_cons_zero, List.getElem?_cons_succ, List.set_cons_zero, List.set_cons_succ, Option.isSome_some, Option.isNone_some, Option.isNone_none, Nat.add_one_sub_one, Nat.reduceAdd, Nat.reduceSub, Nat.sub_self, Nat.sub_zero, Bool.not_true, Bool.not_false, ↓reduceIte, Bool.false_eq_true, Bool.true_eq_false, okD_int, okD_bl, okD_non, dEq_int, dEq_bl, Bool.true_xor, Bool.false_xor, Bool.not_eq_true', decide_eq_true_eq, decide_eq_false_iff_not, true_and, Bool.and_true, Bool.and_false, Bool.true_and, Bool.false_and, at_0, at_1, at_2, cast0, cast1, cast2, cast3, not_true_eq_false, not_false_eq_true, eL, Option.map_some, Option.map_none, dSlL, slk, doNone, doSome, sortedTD, dLenSet, lsk, dLc, diR2]
  refine ⟨by omega, fun p1 h1 => ?_⟩
  unfold intsD
  refine lc_map (P := _) (fun i : Nat => D.int (1 + (i : Nat))) (fun i => decide (¬ (1 + (i : Nat) : Int) = house)) (fun i => D.int (1 + (i : Nat))) (by simp [sizeLine]; omega) (fun _ _ => trivial) ?_ ?_ p1 h1
  · intro i _ S' N Y _ hn hy
    simp only [dSeq, dIfS, dB, dOp, dVar, dCB, dCons, dNil, dRet, dRetN, dNext, dC, dAsg, dgN, dgT, dgSeq, dDrop, dCont, dAndT, dOrT, dNotT, dAndV, dOrV, dNotV, dIf, dIsN, dNotN, dNeg, dLst, dTup, dNewI, dCall, dMeth, dMake, dRaise, dFrz, dIsi, isiK, tyS, inst_NoneType_bool, inst_NoneType_int, inst_NoneType_str, inst_NoneType_list, inst_NoneType_tuple, inst_bool_bool, inst_bool_int, inst_bool_str, inst_bool_list, inst_bool_tuple, inst_int_bool, inst_int_int, inst_int_str, inst_int_list, inst_int_tuple, inst_str_bool, inst_str_int, inst_str_str, inst_str_list, inst_str_tuple, inst_list_bool, inst_list_int, inst_list_str, inst_list_list, inst_list_tuple, inst_tuple_bool, inst_tuple_int, inst_tuple_str, inst_tuple_list, inst_tuple_tuple, iiD, iiD0, subD, mulD, fdivD, modD, shrD, pow_10_6, pow_10_60, ltI, leI, gtI, geI, addI, addD, catD, scatD, lenD, lenS, ixD, ixL, ixLK, ixK, vl, vm, newL, i2D, absD, tupleD, dLM, dLM0, dFld, getF, dGet1, dGet2, getK, dSetIx, rng1, rng2, dFor1, dFor2, dFor, dForK, eqR, rs, dstart, List.map_cons, List.map_nil, List.length_cons, List.length_nil, List.cons_append, List.nil_append, List.replicate, List.getElem?_cons_zero, List.getElem?_cons_succ, List.set_cons_zero, List.set_cons_succ, Option.isSome_some, Option.isNone_some, Option.isNone_none, Nat.add_one_sub_one, Nat.reduceAdd, Nat.reduceSub, Nat.sub_self, Nat.sub_zero, Bool.not_true, Bool.not_false, ↓reduceIte, Bool.false_eq_true, Bool.true_eq_false, okD_int, okD_bl, okD_non, dEq_int, dEq_bl, Bool.true_xor, Bool.false_xor, Bool.not_eq_true', decide_eq_true_eq, decide_eq_false_iff_not, true_and, Bool.and_true, Bool.and_false, Bool.true_and, Bool.false_and, at_0, at_1, at_2, cast0, cast1, cast2, cast3, not_true_eq_false, not_false_eq_true, eL, Option.map_some, Option.map_none, dSlL, slk, doNone, doSome, sortedTD, dLenSet, lsk, wipeD]
    by_cases c : (1 + (i : Nat) : Int) = house
    · rw [if_neg (not_not_intro c)]; exact hn (by simp [c])
    · rw [if_pos c]; exact hy (by simp [c])
  · have e1 : ((size : Int) - 1).toNat = size - 1 := by omega
    have e2 : (List.filter (fun i : Nat => decide (¬ (1 + (i : Nat) : Int) = house)) (List.range ((size : Int) - 1).toNat)).map (fun i : Nat => D.int (1 + (i : Nat))) = (restOf house size).map .int := by
      rw [e1]; unfold restOf; rw [List.map_map]; rfl
    rw [e2]
    intro p1 h1
    refine ⟨by decide, fun p2 h2 => ⟨by decide, ⟨by decide, by decide⟩, by decide, ?_⟩⟩
    have hn : p2 ≠ p1 := fun z => by rw [z, su_same] at h2; cases h2
    rw [su_ne hn] at h2
    have hlen : (restOf house size).length ≤ size := by
      unfold restOf
      rw [List.length_map]
      exact Nat.le_trans (List.length_filter_le _ _) (by rw [List.length_range]; omega)
    have hd : roadBy cell house size = house :: roadGo (restOf house size).length (cell / 4) (roadMany cell size) (restOf house size) ++ [0] := rfl
    unfold roadMany at hd
    split
    all_goals
      rename_i hc
      refine ⟨⟨by decide, by decide⟩, ?_⟩
      first | rw [if_pos hc] at hd | rw [if_neg hc] at hd
      refine dWh_ind (fun ρ S' => ∃ (c many : Int) (rest acc : List Int) (o : Option D), ρ = [some (.int c), some (.int house), some (.int size), some (.ref p1), o, some (.ref p2), some (.int many)] ∧ S' = su (su S p1 (.ml (rest.map .int))) p2 (.ml (acc.map .int)) ∧
        roadBy cell house size = acc ++ roadGo rest.length c many rest ++ [0] ∧ acc.length + rest.length ≤ size + 1) (fun _ S' => ((cellL S' (.ref p1)).map (·.2.length)).getD 0) ?_ _ _ ⟨_, _, _, [house], _, rfl, rfl, hd, by simp; omega⟩
      rintro ρ S' N ⟨c, many, rest, acc, o, rfl, rfl, hr, hl⟩ hN
      have g1 : su (su S p1 (.ml (rest.map .int))) p2 (.ml (acc.map .int)) p1 = some (.ml (rest.map .int)) := by rw [su_ne (Ne.symm hn), su_same]
      have g2 : su (su S p1 (.ml (rest.map .int))) p2 (.ml (acc.map .int)) p2 = some (.ml (acc.map .int)) := su_same
      simp only [dSeq, dIfS, dB, dOp, dVar, dCB, dCons, dNil, dRet, dRetN, dNext, dC, dAsg, dgN, dgT, dgSeq, dDrop, dCont, dAndT, dOrT, dNotT, dAndV, dOrV, dNotV, dIf, dIsN, dNotN, dNeg, dLst, dTup, dNewI, dCall, dMeth, dMake, dRaise, dFrz, dIsi, isiK, tyS, inst_NoneType_bool, inst_NoneType_int, inst_NoneType_str, inst_NoneType_list, inst_NoneType_tuple, inst_bool_bool, inst_bool_int, inst_bool_str, inst_bool_list, inst_bool_tuple, inst_int_bool, inst_int_int, inst_int_str, inst_int_list, inst_int_tuple, inst_str_bool, inst_str_int, inst_str_str, inst_str_list, inst_str_tuple, inst_list_bool, inst_list_int, inst_list_str, inst_list_list, inst_list_tuple, inst_tuple_bool, inst_tuple_int, inst_tuple_str, inst_tuple_list, inst_tuple_tuple, iiD, iiD0, subD, mulD, fdivD, modD, shrD, pow_10_6, pow_10_60, ltI, leI, gtI, geI, addI, addD, catD, scatD, lenD, lenS, ixD, ixL, ixLK, ixK, vl, vm, newL, i2D, absD, tupleD, dLM, dLM0, dFld, getF, dGet1, dGet2, getK, dSetIx, rng1, rng2, dFor1, dFor2, dFor, dForK, eqR, rs, dstart, List.map_cons, List.map_nil, List.length_cons, List.length_nil, List.cons_append, List.nil_append, List.replicate, List.getElem?_cons_zero, List.getElem?_cons_succ, List.set_cons_zero, List.set_cons_succ, Option.isSome_some, Option.isNone_some, Option.isNone_none, Nat.add_one_sub_one, Nat.reduceAdd, Nat.reduceSub, Nat.sub_self, Nat.sub_zero, Bool.not_true, Bool.not_false, ↓reduceIte, Bool.false_eq_true, Bool.true_eq_false, okD_int, okD_bl, okD_non, dEq_int, dEq_bl, Bool.true_xor, Bool.false_xor, Bool.not_eq_true', decide_eq_true_eq, decide_eq_false_iff_not, true_and, Bool.and_true, Bool.and_false, Bool.true_and, Bool.false_and, at_0, at_1, at_2, cast0, cast1, cast2, cast3, not_true_eq_false, not_false_eq_true, eL, Option.map_some, Option.map_none, dSlL, slk, doNone, doSome, sortedTD, dLenSet, lsk, g1, g2]
      have fin : roadGo rest.length c many rest = [] → (endsOf Q).rt (D.lst (acc.map .int ++ [.int 0])) (su (su S p1 (.ml (rest.map .int))) p2 (.ml (acc.map .int))) := fun z => by
        rw [z, List.append_nil] at hr
        refine rt_le ((SLe.su h1).trans (SLe.su (by rw [su_ne hn]; exact h2))) ?_
        rw [hr] at q
        simpa [eL] using q
      have hs : sizeLine = 2 ^ 24 := rfl
      by_cases c1 : 0 < many
      · rw [if_pos c1]
        by_cases c2 : 0 < rest.length
        · rw [if_pos (by rw [List.length_map]; omega)]
          refine ⟨by rw [List.length_map]; omega, ?_⟩
          rw [List.length_map]
          have b0 : 0 ≤ c % (rest.length : Int) := Int.emod_nonneg _ (by omega)
          have b1 : c % (rest.length : Int) < rest.length := Int.emod_lt_of_pos _ (by omega)
          refine popAt_at g1 b0 b1 (by omega) ?_
          refine append_at (xs := acc.map .int) (by rw [su_ne hn]; exact g2) (by rw [List.length_map]; omega) ⟨⟨by decide, by decide⟩, hN _ _ ⟨c / 5, many - 1, rest.eraseIdx (c % (rest.length : Int)).toNat, acc ++ [rest[(c % (rest.length : Int)).toNat]'(by omega)], o, rfl, ?_, ?_, ?_⟩ ?_⟩
          · rw [su_two (Ne.symm hn), su_su, List.map_append]; rfl
          · rw [hr]
            rw [roadGo_step c1 c2 (by omega)]
            simp
          · rw [List.length_append, List.length_eraseIdx_of_lt (by omega)]; simp; omega
          · simp only [cellL]
            rw [su_ne (Ne.symm hn), su_two (Ne.symm hn), su_ne (Ne.symm hn), su_same, su_ne (Ne.symm hn), su_same]
            simp only [Option.map_some, Option.getD_some, List.length_map]
            rw [List.length_eraseIdx_of_lt (by omega)]; omega
        · rw [if_neg (by rw [List.length_map]; omega)]
          refine ⟨by omega, by simp; omega, fin ?_⟩
          have : rest = [] := List.length_eq_zero_iff.mp (by omega)
          rw [this]; rfl
      · rw [if_neg c1]
        refine ⟨by omega, by simp; omega, fin ?_⟩
        cases rest with
        | nil => rfl
        | cons x xs => show roadGo (xs.length + 1) c many (x :: xs) = []; unfold roadGo; rw [if_neg fun z => c1 z.1]
theorem x_law_road_by {a : CA} {cell house : Int} {size : Nat} {S : Sto} {P : D → Sto → Prop} {E : Addr → Sto → Prop} (h1 : 1 ≤ size) (h2 : size ≤ 1000) (q : P (eR (roadBy cell house size)) S) : sp_law_road_by a [.int cell, .int house, .int size] S P E := ⟨cell, house, size, rfl, h1, h2, q⟩

end DL
namespace DL
open PySem L2
def t_law_ways_by (K : PySem.W.Frag) (a : CA) (W : WD) : TDS :=
  (dSeq (dAsg (dOp modD (dOp mulD (dOp modD (dOp mulD (dOp (addD false) (dVar 0) (dC (.int 1))) (dC (.int 48271))) (dC (.int 2147483647))) (dC (.int 16807))) (dC (.int 2147483647))) (dgN 2))
  (dSeq (dAsg (dLst true dNil) (dgN 3))
  (dSeq (dAsg (dC (.int 0)) (dgN 4))
  (dSeq (dFor1 (dCons (dVar 1) dNil) (dgN 5)
    (dFor2 (dCons (dOp (addD false) (dVar 5) (dC (.int 1))) (dCons (dVar 1) dNil)) (dgN 6)
      (dSeq (dIfS (dB (dOp (eqR false) (dOp modD (dOp shrD (dVar 2) (dOp modD (dVar 4) (dC (.int 29)))) (dC (.int 2))) (dC (.int 1))))
        (dDrop (dLM appendD (dVar 3) (dCons (dTup (dCons (dVar 5) (dCons (dVar 6) dNil))) dNil)))
        dNext)
      (dAsg (dOp (addD false) (dVar 4) (dC (.int 1))) (dgN 4)))))
  (dRet (dFrz (dVar 3)))))))
abbrev N_law_ways_by : List Str := ["cell", "size", "seed", "ways", "k", "a", "b"]
def sp_law_ways_by (a : CA) : DSp := fun ds S P E => ∃ (cell : Int) (n : Nat), ds = [.int cell, .int n] ∧ n ≤ 60 ∧ ∀ (w : WL), WayOk n w → w.length ≤ 3600 → P (.lst (w.map eII)) S
theorem len_law_ways_by (a : CA) (ds : List D) (S : Sto) (Q : D → Sto → Prop) (E : Addr → Sto → Prop) (h : sp_law_ways_by a ds S Q E) : ds.length = ["cell", "size"].length := by
  obtain ⟨_, _, rfl, _⟩ := h; rfl
theorem read_law_ways_by (K : PySem.W.Frag) (a : CA) (ds : List D) (S : Sto) (Q : D → Sto → Prop) (E : Addr → Sto → Prop) (h : sp_law_ways_by a ds S Q E) : t_law_ways_by K a (wishOf E) (endsOf Q) (dstart N_law_ways_by ds) S := by
  obtain ⟨cell, n, rfl, hn2, q⟩ := h
  simp only [t_law_ways_by, N_law_ways_by, dSeq, dIfS, dB, dOp, dVar, dCB, dCons, dNil, dRet, dRetN, dNext, dC, dAsg, dgN, dgT, dgSeq, dDrop, dCont, dAndT, dOrT, dNotT, dAndV, dOrV, dNotV, dIf, dIsN, dNotN, dNeg, dLst, dTup, dNewI, dCall, dMeth, dMake, dRaise, dFrz, dIsi, isiK, tyS, inst_NoneType_bool, inst_NoneType_int, inst_NoneType_str, inst_NoneType_list, inst_NoneType_tuple, inst_bool_bool, inst_bool_int, inst_bool_str, inst_bool_list, inst_bool_tuple, inst_int_bool, inst_int_int, inst_int_str, inst_int_list, inst_int_tuple, inst_str_bool, inst_str_int, inst_str_str, inst_str_list, inst_str_tuple, inst_list_bool, inst_list_int, inst_list_str, inst_list_list, inst_list_tuple, inst_tuple_bool, inst_tuple_int, inst_tuple_str, inst_tuple_list, inst_tuple_tuple, iiD, iiD0, subD, mulD, fdivD, modD, shrD, pow_10_6, pow_10_60, ltI, leI, gtI, geI, addI, addD, catD, scatD, lenD, lenS, ixD, ixL, ixLK, ixK, vl, vm, newL, i2D, absD, tupleD, dLM, dLM0, dFld, getF, dGet1, dGet2, getK, dSetIx, rng1, rng2, dFor1, dFor2, dFor, dForK, eqR, rs, dstart, List.map_cons, List.map_nil, List.length_cons, List.length_nil, List.cons_append, List.nil_append, List.replicate, List.getElem?_cons_zero, List.getElem?_cons_succ, List.set_cons_zero, List.set_cons_succ, Option.isSome_some, Option.isNone_some, Option.isNone_none, Nat.add_one_sub_one, Nat.reduceAdd, Nat.reduceSub, Nat.sub_self, Nat.sub_zero, Bool.not_true, Bool.not_false, ↓reduceIte, Bool.false_eq_true, Bool.true_eq_false, okD_int, okD_bl, okD_non, dEq_int, dEq_bl, Bool.true_xor, Bool.false_xor, Bool.not_eq_true', decide_eq_true_eq, decide_eq_false_iff_not, true_and, Bool.and_true, Bool.and_false, Bool.true_and, Bool.false_and, at_0, at_1, at_2, cast0, cast1, cast2, cast3, not_true_eq_false, not_false_eq_true, eL, Option.map_some, Option.map_none, dSlL, slk, doNone, doSome, sortedTD, dLenSet, lsk]
  refine ⟨.inr ⟨by decide, by decide⟩, by decide, .inr ⟨by decide, by decide⟩, by decide, by decide, fun p hp => ⟨by omega, ?_⟩⟩
  generalize (cell + 1) * 48271 % 2147483647 * 16807 % 2147483647 = seed
  have hnn : ((n : Nat) : Int).toNat = n := by omega
  rw [hnn]
  refine dGo_rng (fun k ρ S' => ∃ (w : WL) (c : Int) (o5 o6 : Option D), 0 ≤ c ∧ ρ = [some (.int cell), some (.int n), some (.int seed), some (.ref p), some (.int c), o5, o6] ∧ S' = su S p (.ml (w.map eII)) ∧ WayOk n w ∧ (∀ q ∈ w, q.1 < (k : Nat)) ∧ w.length ≤ k * 60) ?_ ?_ _ _ ⟨[], 0, _, _, by omega, rfl, rfl, ⟨fun q h => (by cases h), List.nodup_nil, Nat.zero_le _⟩, fun q h => (by cases h), Nat.zero_le _⟩
  · rintro ρ S' ⟨w, c, o5, o6, hc, rfl, rfl, hw, _, hl⟩
    simp only [dSeq, dIfS, dB, dOp, dVar, dCB, dCons, dNil, dRet, dRetN, dNext, dC, dAsg, dgN, dgT, dgSeq, dDrop, dCont, dAndT, dOrT, dNotT, dAndV, dOrV, dNotV, dIf, dIsN, dNotN, dNeg, dLst, dTup, dNewI, dCall, dMeth, dMake, dRaise, dFrz, dIsi, isiK, tyS, inst_NoneType_bool, inst_NoneType_int, inst_NoneType_str, inst_NoneType_list, inst_NoneType_tuple, inst_bool_bool, inst_bool_int, inst_bool_str, inst_bool_list, inst_bool_tuple, inst_int_bool, inst_int_int, inst_int_str, inst_int_list, inst_int_tuple, inst_str_bool, inst_str_int, inst_str_str, inst_str_list, inst_str_tuple, inst_list_bool, inst_list_int, inst_list_str, inst_list_list, inst_list_tuple, inst_tuple_bool, inst_tuple_int, inst_tuple_str, inst_tuple_list, inst_tuple_tuple, iiD, iiD0, subD, mulD, fdivD, modD, shrD, pow_10_6, pow_10_60, ltI, leI, gtI, geI, addI, addD, catD, scatD, lenD, lenS, ixD, ixL, ixLK, ixK, vl, vm, newL, i2D, absD, tupleD, dLM, dLM0, dFld, getF, dGet1, dGet2, getK, dSetIx, rng1, rng2, dFor1, dFor2, dFor, dForK, eqR, rs, dstart, List.map_cons, List.map_nil, List.length_cons, List.length_nil, List.cons_append, List.nil_append, List.replicate, List.getElem?_cons_zero, List.getElem?_cons_succ, List.set_cons_zero, List.set_cons_succ, Option.isSome_some, Option.isNone_some, Option.isNone_none, Nat.add_one_sub_one, Nat.reduceAdd, Nat.reduceSub, Nat.sub_self, Nat.sub_zero, Bool.not_true, Bool.not_false, ↓reduceIte, Bool.false_eq_true, Bool.true_eq_false, okD_int, okD_bl, okD_non, dEq_int, dEq_bl, Bool.true_xor, Bool.false_xor, Bool.not_eq_true', decide_eq_true_eq, decide_eq_false_iff_not, true_and, Bool.and_true, Bool.and_false, Bool.true_and, Bool.false_and, at_0, at_1, at_2, cast0, cast1, cast2, cast3, not_true_eq_false, not_false_eq_true, eL, Option.map_some, Option.map_none, dSlL, slk, doNone, doSome, sortedTD, dLenSet, lsk, su_same]
    rw [sd_su hp]; exact rt_of (q w hw (by omega))
  · rintro k ρ S' N hk ⟨w, c, o5, o6, hc, rfl, rfl, hw, hlt, hl⟩ hN
    simp only [dSeq, dIfS, dB, dOp, dVar, dCB, dCons, dNil, dRet, dRetN, dNext, dC, dAsg, dgN, dgT, dgSeq, dDrop, dCont, dAndT, dOrT, dNotT, dAndV, dOrV, dNotV, dIf, dIsN, dNotN, dNeg, dLst, dTup, dNewI, dCall, dMeth, dMake, dRaise, dFrz, dIsi, isiK, tyS, inst_NoneType_bool, inst_NoneType_int, inst_NoneType_str, inst_NoneType_list, inst_NoneType_tuple, inst_bool_bool, inst_bool_int, inst_bool_str, inst_bool_list, inst_bool_tuple, inst_int_bool, inst_int_int, inst_int_str, inst_int_list, inst_int_tuple, inst_str_bool, inst_str_int, inst_str_str, inst_str_list, inst_str_tuple, inst_list_bool, inst_list_int, inst_list_str, inst_list_list, inst_list_tuple, inst_tuple_bool, inst_tuple_int, inst_tuple_str, inst_tuple_list, inst_tuple_tuple, iiD, iiD0, subD, mulD, fdivD, modD, shrD, pow_10_6, pow_10_60, ltI, leI, gtI, geI, addI, addD, catD, scatD, lenD, lenS, ixD, ixL, ixLK, ixK, vl, vm, newL, i2D, absD, tupleD, dLM, dLM0, dFld, getF, dGet1, dGet2, getK, dSetIx, rng1, rng2, dFor1, dFor2, dFor, dForK, eqR, rs, dstart, List.map_cons, List.map_nil, List.length_cons, List.length_nil, List.cons_append, List.nil_append, List.replicate, List.getElem?_cons_zero, List.getElem?_cons_succ, List.set_cons_zero, List.set_cons_succ, Option.isSome_some, Option.isNone_some, Option.isNone_none, Nat.add_one_sub_one, Nat.reduceAdd, Nat.reduceSub, Nat.sub_self, Nat.sub_zero, Bool.not_true, Bool.not_false, ↓reduceIte, Bool.false_eq_true, Bool.true_eq_false, okD_int, okD_bl, okD_non, dEq_int, dEq_bl, Bool.true_xor, Bool.false_xor, Bool.not_eq_true', decide_eq_true_eq, decide_eq_false_iff_not, true_and, Bool.and_true, Bool.and_false, Bool.true_and, Bool.false_and, at_0, at_1, at_2, cast0, cast1, cast2, cast3, not_true_eq_false, not_false_eq_true, eL, Option.map_some, Option.map_none, dSlL, slk, doNone, doSome, sortedTD, dLenSet, lsk]
    refine ⟨by omega, ?_⟩
    refine dGo_rng (fun j ρ S' => ∃ (w : WL) (c : Int) (o6 : Option D), 0 ≤ c ∧ ρ = [some (.int cell), some (.int n), some (.int seed), some (.ref p), some (.int c), some (.int (0 + (k : Nat))), o6] ∧ S' = su S p (.ml (w.map eII)) ∧ WayOk n w ∧ (∀ q ∈ w, q.1 < (k : Nat) ∨ (q.1 = (k : Nat) ∧ q.2 < 0 + (k : Nat) + 1 + (j : Nat))) ∧ w.length ≤ k * 60 + j) ?_ ?_ _ _ ⟨w, c, _, hc, rfl, rfl, hw, fun q h => .inl (hlt q h), by omega⟩
    · rintro ρ S' ⟨w, c, o6, hc, rfl, rfl, hw, hlt, hl⟩
      exact hN _ _ ⟨w, c, _, _, hc, rfl, rfl, hw, fun q h => by have := hlt q h; omega, by omega⟩
    · rintro j ρ S' N2 hj ⟨w, c, o6, hc, rfl, rfl, hw, hlt, hl⟩ hN2
      simp only [dSeq, dIfS, dB, dOp, dVar, dCB, dCons, dNil, dRet, dRetN, dNext, dC, dAsg, dgN, dgT, dgSeq, dDrop, dCont, dAndT, dOrT, dNotT, dAndV, dOrV, dNotV, dIf, dIsN, dNotN, dNeg, dLst, dTup, dNewI, dCall, dMeth, dMake, dRaise, dFrz, dIsi, isiK, tyS, inst_NoneType_bool, inst_NoneType_int, inst_NoneType_str, inst_NoneType_list, inst_NoneType_tuple, inst_bool_bool, inst_bool_int, inst_bool_str, inst_bool_list, inst_bool_tuple, inst_int_bool, inst_int_int, inst_int_str, inst_int_list, inst_int_tuple, inst_str_bool, inst_str_int, inst_str_str, inst_str_list, inst_str_tuple, inst_list_bool, inst_list_int, inst_list_str, inst_list_list, inst_list_tuple, inst_tuple_bool, inst_tuple_int, inst_tuple_str, inst_tuple_list, inst_tuple_tuple, iiD, iiD0, subD, mulD, fdivD, modD, shrD, pow_10_6, pow_10_60, ltI, leI, gtI, geI, addI, addD, catD, scatD, lenD, lenS, ixD, ixL, ixLK, ixK, vl, vm, newL, i2D, absD, tupleD, dLM, dLM0, dFld, getF, dGet1, dGet2, getK, dSetIx, rng1, rng2, dFor1, dFor2, dFor, dForK, eqR, rs, dstart, List.map_cons, List.map_nil, List.length_cons, List.length_nil, List.cons_append, List.nil_append, List.replicate, List.getElem?_cons_zero, List.getElem?_cons_succ, List.set_cons_zero, List.set_cons_succ, Option.isSome_some, Option.isNone_some, Option.isNone_none, Nat.add_one_sub_one, Nat.reduceAdd, Nat.reduceSub, Nat.sub_self, Nat.sub_zero, Bool.not_true, Bool.not_false, ↓reduceIte, Bool.false_eq_true, Bool.true_eq_false, okD_int, okD_bl, okD_non, dEq_int, dEq_bl, Bool.true_xor, Bool.false_xor, Bool.not_eq_true', decide_eq_true_eq, decide_eq_false_iff_not, true_and, Bool.and_true, Bool.and_false, Bool.true_and, Bool.false_and, at_0, at_1, at_2, cast0, cast1, cast2, cast3, not_true_eq_false, not_false_eq_true, eL, Option.map_some, Option.map_none, dSlL, slk, doNone, doSome, sortedTD, dLenSet, lsk]
      refine ⟨by decide, Int.emod_nonneg _ (by decide), by decide, ?_⟩
      by_cases c1 : seed / 2 ^ (c % 29).toNat % 2 = 1
      · rw [if_pos c1]
        simp only [dSeq, dIfS, dB, dOp, dVar, dCB, dCons, dNil, dRet, dRetN, dNext, dC, dAsg, dgN, dgT, dgSeq, dDrop, dCont, dAndT, dOrT, dNotT, dAndV, dOrV, dNotV, dIf, dIsN, dNotN, dNeg, dLst, dTup, dNewI, dCall, dMeth, dMake, dRaise, dFrz, dIsi, isiK, tyS, inst_NoneType_bool, inst_NoneType_int, inst_NoneType_str, inst_NoneType_list, inst_NoneType_tuple, inst_bool_bool, inst_bool_int, inst_bool_str, inst_bool_list, inst_bool_tuple, inst_int_bool, inst_int_int, inst_int_str, inst_int_list, inst_int_tuple, inst_str_bool, inst_str_int, inst_str_str, inst_str_list, inst_str_tuple, inst_list_bool, inst_list_int, inst_list_str, inst_list_list, inst_list_tuple, inst_tuple_bool, inst_tuple_int, inst_tuple_str, inst_tuple_list, inst_tuple_tuple, iiD, iiD0, subD, mulD, fdivD, modD, shrD, pow_10_6, pow_10_60, ltI, leI, gtI, geI, addI, addD, catD, scatD, lenD, lenS, ixD, ixL, ixLK, ixK, vl, vm, newL, i2D, absD, tupleD, dLM, dLM0, dFld, getF, dGet1, dGet2, getK, dSetIx, rng1, rng2, dFor1, dFor2, dFor, dForK, eqR, rs, dstart, List.map_cons, List.map_nil, List.length_cons, List.length_nil, List.cons_append, List.nil_append, List.replicate, List.getElem?_cons_zero, List.getElem?_cons_succ, List.set_cons_zero, List.set_cons_succ, Option.isSome_some, Option.isNone_some, Option.isNone_none, Nat.add_one_sub_one, Nat.reduceAdd, Nat.reduceSub, Nat.sub_self, Nat.sub_zero, Bool.not_true, Bool.not_false, ↓reduceIte, Bool.false_eq_true, Bool.true_eq_false, okD_int, okD_bl, okD_non, dEq_int, dEq_bl, Bool.true_xor, Bool.false_xor, Bool.not_eq_true', decide_eq_true_eq, decide_eq_false_iff_not, true_and, Bool.and_true, Bool.and_false, Bool.true_and, Bool.false_and, at_0, at_1, at_2, cast0, cast1, cast2, cast3, not_true_eq_false, not_false_eq_true, eL, Option.map_some, Option.map_none, dSlL, slk, doNone, doSome, sortedTD, dLenSet, lsk, su_same]
        refine ⟨by simp [sizeLine], append_at su_same (by rw [List.length_map]; simp [sizeLine]; omega) ?_⟩
        rw [su_su, show w.map eII ++ [D.tup [D.int (0 + (k : Nat)), D.int (0 + (k : Nat) + 1 + (j : Nat))]] = (w ++ [((0 + (k : Nat) : Int), (0 + (k : Nat) + 1 + (j : Nat) : Int))]).map eII by rw [List.map_append]; rfl]
        refine hN2 _ _ ⟨_, c + 1, _, by omega, rfl, rfl, ⟨fun q hq => ?_, ?_, ?_⟩, fun q hq => ?_, by rw [List.length_append, List.length_singleton]; omega⟩
        · rcases List.mem_append.mp hq with hq | hq
          · exact hw.k q hq
          · rw [List.mem_singleton.mp hq]; dsimp only; omega
        · rw [List.nodup_append]
          refine ⟨hw.d, nodup_one _, fun x hx y hy z => ?_⟩
          rw [List.mem_singleton.mp hy] at z
          have := hlt x hx
          rw [z] at this
          dsimp only at this
          omega
        · rw [List.length_append, List.length_singleton]; omega
        · rcases List.mem_append.mp hq with hq | hq
          · have := hlt q hq; omega
          · rw [List.mem_singleton.mp hq]; dsimp only; omega
      · rw [if_neg c1]
        exact hN2 _ _ ⟨w, c + 1, _, by omega, rfl, rfl, hw, fun q h => by have := hlt q h; omega, by omega⟩

end DL
namespace DL
open PySem L2
theorem kput_in {κ β : Type} [DecidableEq κ] {l : List (κ × β)} {k : κ} {v : β} {q : κ × β} (h : q ∈ kput l k v) : q = (k, v) ∨ q ∈ l := by
  unfold kput at h
  split at h
  · obtain ⟨p, hp, e⟩ := List.mem_map.mp h
    by_cases c : p.1 = k
    · rw [if_pos c, c] at e; exact .inl e.symm
    · rw [if_neg c] at e; exact .inr (e ▸ hp)
  · rcases List.mem_append.mp h with h | h
    · exact .inr h
    · exact .inl (List.mem_singleton.mp h)
abbrev small (k : Int) : Prop := k.natAbs < 10 ^ 60
structure FondN (n : Nat) (L : KL) : Prop where
  o : FondOk n L
  d : (L.map (·.1)).Nodup
  v : ∀ q ∈ L, small q.2
structure DearN (n : Nat) (L : KL) : Prop where
  o : DearOk n L
  v : ∀ q ∈ L, small q.2
structure ShyN (n : Nat) (w : WL) : Prop where
  o : ShyOk n w
  d : w.Nodup
theorem FondN.nil (n : Nat) : FondN n [] := ⟨FondOk.nil n, List.nodup_nil, fun q h => by cases h⟩
theorem DearN.nil (n : Nat) : DearN n [] := ⟨DearOk.nil n, fun q h => by cases h⟩
theorem ShyN.nil (n : Nat) : ShyN n [] := ⟨⟨fun q h => (by cases h), Nat.zero_le _⟩, List.nodup_nil⟩
theorem FondN.put {n : Nat} {L : KL} {x y k : Int} (h : FondN n L) (hx : 0 ≤ x ∧ x < n) (hy : 0 ≤ y ∧ y < n) (hk : small k) (hl : L.length < 100) : FondN n (kput L [x, y] k) :=
  ⟨h.o.put hx hy hl, kput_nodup _ _ h.d, fun q hq => by
    rcases kput_in hq with rfl | hq
    · exact hk
    · exact h.v q hq⟩
theorem DearN.put {n : Nat} {L : KL} {r : List Int} {k : Int} (h : DearN n L) (hr : (GS.new n).rok r) (hk : small k) (hl : L.length < 100) : DearN n (kput L r k) :=
  ⟨h.o.put hr hl, fun q hq => by
    rcases kput_in hq with rfl | hq
    · exact hk
    · exact h.v q hq⟩
theorem ShyN.put {n : Nat} {w : WL} {x y : Int} (h : ShyN n w) (hx : 0 ≤ x ∧ x < n) (hy : 0 ≤ y ∧ y < n) (hxy : x ≠ y) (hm : (x, y) ∉ w) (hl : w.length < 1000) : ShyN n (w ++ [(x, y)]) :=
  ⟨⟨fun q hq => by
    rcases List.mem_append.mp hq with hq | hq
    · exact h.o.k q hq
    · rw [List.mem_singleton.mp hq]; exact ⟨hx, hy, hxy⟩, by rw [List.length_append, List.length_singleton]; omega⟩, app_nodup h.d hm⟩
structure BookOk (n : Nat) (wl : WL) (fl dl : KL) (sl : WL) : Prop where
  n1 : 1 ≤ n
  n2 : n ≤ 60
  w : WayOk n wl
  f : FondN n fl
  d : DearN n dl
  s : ShyN n sl

end DL
namespace DL
open PySem L2
def t_law_fond_by (K : PySem.W.Frag) (a : CA) (W : WD) : TDS :=
  (dSeq (dAsg dNewI (dgN 2))
  (dSeq (dFor1 (dCons (dOp modD (dVar 0) (dC (.int 5))) dNil) (dgN 3)
    (dSeq (dAsg (dOp modD (dOp (addD false) (dOp mulD (dVar 0) (dC (.int 48271))) (dC (.int 11))) (dC (.int 2147483647))) (dgN 0))
    (dSetIx (dVar 2) (dTup (dCons (dOp modD (dVar 0) (dVar 1)) (dCons (dOp modD (dOp fdivD (dVar 0) (dC (.int 7))) (dVar 1)) dNil))) (dOp subD (dOp modD (dOp fdivD (dVar 0) (dC (.int 49))) (dC (.int 7))) (dC (.int 3))))))
  (dRet (dFrz (dVar 2)))))
abbrev N_law_fond_by : List Str := ["cell", "size", "fond", "k"]
def sp_law_fond_by (a : CA) : DSp := fun ds S P E => ∃ (cell : Int) (n : Nat), ds = [.int cell, .int n] ∧ 1 ≤ n ∧ ∀ (L : KL) (p : Addr), FondN n L → L.length ≤ 5 → S p = none → P (.ref p) (su S p (.dI (L.map eKV)))
theorem len_law_fond_by (a : CA) (ds : List D) (S : Sto) (Q : D → Sto → Prop) (E : Addr → Sto → Prop) (h : sp_law_fond_by a ds S Q E) : ds.length = ["cell", "size"].length := by
  obtain ⟨_, _, rfl, _⟩ := h; rfl
theorem read_law_fond_by (K : PySem.W.Frag) (a : CA) (ds : List D) (S : Sto) (Q : D → Sto → Prop) (E : Addr → Sto → Prop) (h : sp_law_fond_by a ds S Q E) : t_law_fond_by K a (wishOf E) (endsOf Q) (dstart N_law_fond_by ds) S := by
  obtain ⟨cell, n, rfl, hn, q⟩ := h
  simp only [t_law_fond_by, N_law_fond_by, dSeq, dIfS, dB, dOp, dVar, dCB, dCons, dNil, dRet, dRetN, dNext, dC, dAsg, dgN, dgT, dgSeq, dDrop, dCont, dAndT, dOrT, dNotT, dAndV, dOrV, dNotV, dIf, dIsN, dNotN, dNeg, dLst, dTup, dNewI, dCall, dMeth, dMake, dRaise, dFrz, dIsi, isiK, tyS, inst_NoneType_bool, inst_NoneType_int, inst_NoneType_str, inst_NoneType_list, inst_NoneType_tuple, inst_bool_bool, inst_bool_int, inst_bool_str, inst_bool_list, inst_bool_tuple, inst_int_bool, inst_int_int, inst_int_str, inst_int_list, inst_int_tuple, inst_str_bool, inst_str_int, inst_str_str, inst_str_list, inst_str_tuple, inst_list_bool, inst_list_int, inst_list_str, inst_list_list, inst_list_tuple, inst_tuple_bool, inst_tuple_int, inst_tuple_str, inst_tuple_list, inst_tuple_tuple, iiD, iiD0, subD, mulD, fdivD, modD, shrD, pow_10_6, pow_10_60, ltI, leI, gtI, geI, addI, addD, catD, scatD, lenD, lenS, ixD, ixL, ixLK, ixK, vl, vm, newL, i2D, absD, tupleD, dLM, dLM0, dFld, getF, dGet1, dGet2, getK, dSetIx, rng1, rng2, dFor1, dFor2, dFor, dForK, eqR, rs, dstart, List.map_cons, List.map_nil, List.length_cons, List.length_nil, List.cons_append, List.nil_append, List.replicate, List.getElem?_cons_zero, List.getElem?_cons_succ, List.set_cons_zero, List.set_cons_succ, Option.isSome_some, Option.isNone_some, Option.isNone_none, Nat.add_one_sub_one, Nat.reduceAdd, Nat.reduceSub, Nat.sub_self, Nat.sub_zero, Bool.not_true, Bool.not_false, ↓reduceIte, Bool.false_eq_true, Bool.true_eq_false, okD_int, okD_bl, okD_non, dEq_int, dEq_bl, Bool.true_xor, Bool.false_xor, Bool.not_eq_true', decide_eq_true_eq, decide_eq_false_iff_not, true_and, Bool.and_true, Bool.and_false, Bool.true_and, Bool.false_and, at_0, at_1, at_2, cast0, cast1, cast2, cast3, not_true_eq_false, not_false_eq_true, eL, Option.map_some, Option.map_none, dSlL, slk, doNone, doSome, sortedTD, dLenSet, lsk]
  intro p hp
  refine ⟨by decide, by omega, ?_⟩
  have h5 : (cell % 5).toNat ≤ 5 := by omega
  refine dGo_rng (fun k ρ S' => ∃ c L o, ρ = [some (.int c), some (.int n), some (.ref p), o] ∧ S' = su S p (.dI (L.map eKV)) ∧ FondN n L ∧ L.length ≤ k) ?_ ?_ _ _ ⟨cell, [], _, rfl, rfl, FondN.nil n, Nat.le_refl _⟩
  · rintro ρ S' ⟨c, L, o, rfl, rfl, hL, hl⟩
    simp only [dSeq, dIfS, dB, dOp, dVar, dCB, dCons, dNil, dRet, dRetN, dNext, dC, dAsg, dgN, dgT, dgSeq, dDrop, dCont, dAndT, dOrT, dNotT, dAndV, dOrV, dNotV, dIf, dIsN, dNotN, dNeg, dLst, dTup, dNewI, dCall, dMeth, dMake, dRaise, dFrz, dIsi, isiK, tyS, inst_NoneType_bool, inst_NoneType_int, inst_NoneType_str, inst_NoneType_list, inst_NoneType_tuple, inst_bool_bool, inst_bool_int, inst_bool_str, inst_bool_list, inst_bool_tuple, inst_int_bool, inst_int_int, inst_int_str, inst_int_list, inst_int_tuple, inst_str_bool, inst_str_int, inst_str_str, inst_str_list, inst_str_tuple, inst_list_bool, inst_list_int, inst_list_str, inst_list_list, inst_list_tuple, inst_tuple_bool, inst_tuple_int, inst_tuple_str, inst_tuple_list, inst_tuple_tuple, iiD, iiD0, subD, mulD, fdivD, modD, shrD, pow_10_6, pow_10_60, ltI, leI, gtI, geI, addI, addD, catD, scatD, lenD, lenS, ixD, ixL, ixLK, ixK, vl, vm, newL, i2D, absD, tupleD, dLM, dLM0, dFld, getF, dGet1, dGet2, getK, dSetIx, rng1, rng2, dFor1, dFor2, dFor, dForK, eqR, rs, dstart, List.map_cons, List.map_nil, List.length_cons, List.length_nil, List.cons_append, List.nil_append, List.replicate, List.getElem?_cons_zero, List.getElem?_cons_succ, List.set_cons_zero, List.set_cons_succ, Option.isSome_some, Option.isNone_some, Option.isNone_none, Nat.add_one_sub_one, Nat.reduceAdd, Nat.reduceSub, Nat.sub_self, Nat.sub_zero, Bool.not_true, Bool.not_false, ↓reduceIte, Bool.false_eq_true, Bool.true_eq_false, okD_int, okD_bl, okD_non, dEq_int, dEq_bl, Bool.true_xor, Bool.false_xor, Bool.not_eq_true', decide_eq_true_eq, decide_eq_false_iff_not, true_and, Bool.and_true, Bool.and_false, Bool.true_and, Bool.false_and, at_0, at_1, at_2, cast0, cast1, cast2, cast3, not_true_eq_false, not_false_eq_true, eL, Option.map_some, Option.map_none, dSlL, slk, doNone, doSome, sortedTD, dLenSet, lsk, su_same]
    exact rt_of (q L p hL (by omega) hp)
  · rintro k ρ S' N hk ⟨c, L, o, rfl, rfl, hL, hl⟩ hN
    simp only [dSeq, dIfS, dB, dOp, dVar, dCB, dCons, dNil, dRet, dRetN, dNext, dC, dAsg, dgN, dgT, dgSeq, dDrop, dCont, dAndT, dOrT, dNotT, dAndV, dOrV, dNotV, dIf, dIsN, dNotN, dNeg, dLst, dTup, dNewI, dCall, dMeth, dMake, dRaise, dFrz, dIsi, isiK, tyS, inst_NoneType_bool, inst_NoneType_int, inst_NoneType_str, inst_NoneType_list, inst_NoneType_tuple, inst_bool_bool, inst_bool_int, inst_bool_str, inst_bool_list, inst_bool_tuple, inst_int_bool, inst_int_int, inst_int_str, inst_int_list, inst_int_tuple, inst_str_bool, inst_str_int, inst_str_str, inst_str_list, inst_str_tuple, inst_list_bool, inst_list_int, inst_list_str, inst_list_list, inst_list_tuple, inst_tuple_bool, inst_tuple_int, inst_tuple_str, inst_tuple_list, inst_tuple_tuple, iiD, iiD0, subD, mulD, fdivD, modD, shrD, pow_10_6, pow_10_60, ltI, leI, gtI, geI, addI, addD, catD, scatD, lenD, lenS, ixD, ixL, ixLK, ixK, vl, vm, newL, i2D, absD, tupleD, dLM, dLM0, dFld, getF, dGet1, dGet2, getK, dSetIx, rng1, rng2, dFor1, dFor2, dFor, dForK, eqR, rs, dstart, List.map_cons, List.map_nil, List.length_cons, List.length_nil, List.cons_append, List.nil_append, List.replicate, List.getElem?_cons_zero, List.getElem?_cons_succ, List.set_cons_zero, List.set_cons_succ, Option.isSome_some, Option.isNone_some, Option.isNone_none, Nat.add_one_sub_one, Nat.reduceAdd, Nat.reduceSub, Nat.sub_self, Nat.sub_zero, Bool.not_true, Bool.not_false, ↓reduceIte, Bool.false_eq_true, Bool.true_eq_false, okD_int, okD_bl, okD_non, dEq_int, dEq_bl, Bool.true_xor, Bool.false_xor, Bool.not_eq_true', decide_eq_true_eq, decide_eq_false_iff_not, true_and, Bool.and_true, Bool.and_false, Bool.true_and, Bool.false_and, at_0, at_1, at_2, cast0, cast1, cast2, cast3, not_true_eq_false, not_false_eq_true, eL, Option.map_some, Option.map_none, dSlL, slk, doNone, doSome, sortedTD, dLenSet, lsk]
    refine ⟨.inr ⟨by decide, by decide⟩, by decide, ⟨by decide, by decide⟩, by decide, by omega, ⟨by decide, by decide⟩, by omega, by decide, ?_⟩
    generalize (c * 48271 + 11) % 2147483647 = c'
    have x0 : 0 ≤ c' % (n : Int) ∧ c' % (n : Int) < n := ⟨Int.emod_nonneg _ (by omega), Int.emod_lt_of_pos _ (by omega)⟩
    have y0 : 0 ≤ c' / 7 % (n : Int) ∧ c' / 7 % (n : Int) < n := ⟨Int.emod_nonneg _ (by omega), Int.emod_lt_of_pos _ (by omega)⟩
    refine setD_key (k := [c' % (n : Int), c' / 7 % (n : Int)]) su_same (by rw [List.length_map]; simp [sizeLine]; omega) ?_
    rw [su_su, dput_kv]
    exact hN _ _ ⟨c', _, _, rfl, rfl, hL.put x0 y0 (by show Int.natAbs _ < 10 ^ 60; omega) (by omega), Nat.le_trans (kput_len _ _ _) (by omega)⟩

end DL
namespace DL
open PySem L2
def t_law_dear_by (K : PySem.W.Frag) (a : CA) (W : WD) : TDS :=
  (dSeq (dAsg dNewI (dgN 2))
  (dSeq (dIfS (dB (dOp ltI (dVar 1) (dC (.int 2))))
    (dRet (dFrz (dVar 2)))
    dNext)
  (dSeq (dFor1 (dCons (dOp modD (dVar 0) (dC (.int 4))) dNil) (dgN 3)
    (dSeq (dAsg (dOp modD (dOp (addD false) (dOp mulD (dVar 0) (dC (.int 48271))) (dC (.int 17))) (dC (.int 2147483647))) (dgN 0))
    (dSeq (dAsg (dCall (sp_law_road_by a) W (dCons (dOp fdivD (dVar 0) (dC (.int 9))) (dCons (dOp (addD false) (dC (.int 1)) (dOp modD (dVar 0) (dOp subD (dVar 1) (dC (.int 1))))) (dCons (dVar 1) dNil)))) (dgN 4))
    (dSetIx (dVar 2) (dCB tupleD (dCons (dVar 4) dNil)) (dOp subD (dOp modD (dOp fdivD (dVar 0) (dC (.int 5))) (dC (.int 9))) (dC (.int 4)))))))
  (dRet (dFrz (dVar 2))))))
abbrev N_law_dear_by : List Str := ["cell", "size", "dear", "k", "road"]
def sp_law_dear_by (a : CA) : DSp := fun ds S P E => ∃ (cell : Int) (n : Nat), ds = [.int cell, .int n] ∧ 1 ≤ n ∧ n ≤ 60 ∧ ∀ (L : KL) (p : Addr), DearN n L → L.length ≤ 4 → (n < 2 → L = []) → S p = none → P (.ref p) (su S p (.dI (L.map eKV)))
theorem len_law_dear_by (a : CA) (ds : List D) (S : Sto) (Q : D → Sto → Prop) (E : Addr → Sto → Prop) (h : sp_law_dear_by a ds S Q E) : ds.length = ["cell", "size"].length := by
  obtain ⟨_, _, rfl, _⟩ := h; rfl
theorem read_law_dear_by (K : PySem.W.Frag) (a : CA) (ds : List D) (S : Sto) (Q : D → Sto → Prop) (E : Addr → Sto → Prop) (h : sp_law_dear_by a ds S Q E) : t_law_dear_by K a (wishOf E) (endsOf Q) (dstart N_law_dear_by ds) S := by
  obtain ⟨cell, n, rfl, hn, hn2, q⟩ := h
  simp only [t_law_dear_by, N_law_dear_by, dSeq, dIfS, dB, dOp, dVar, dCB, dCons, dNil, dRet, dRetN, dNext, dC, dAsg, dgN, dgT, dgSeq, dDrop, dCont, dAndT, dOrT, dNotT, dAndV, dOrV, dNotV, dIf, dIsN, dNotN, dNeg, dLst, dTup, dNewI, dCall, dMeth, dMake, dRaise, dFrz, dIsi, isiK, tyS, inst_NoneType_bool, inst_NoneType_int, inst_NoneType_str, inst_NoneType_list, inst_NoneType_tuple, inst_bool_bool, inst_bool_int, inst_bool_str, inst_bool_list, inst_bool_tuple, inst_int_bool, inst_int_int, inst_int_str, inst_int_list, inst_int_tuple, inst_str_bool, inst_str_int, inst_str_str, inst_str_list, inst_str_tuple, inst_list_bool, inst_list_int, inst_list_str, inst_list_list, inst_list_tuple, inst_tuple_bool, inst_tuple_int, inst_tuple_str, inst_tuple_list, inst_tuple_tuple, iiD, iiD0, subD, mulD, fdivD, modD, shrD, pow_10_6, pow_10_60, ltI, leI, gtI, geI, addI, addD, catD, scatD, lenD, lenS, ixD, ixL, ixLK, ixK, vl, vm, newL, i2D, absD, tupleD, dLM, dLM0, dFld, getF, dGet1, dGet2, getK, dSetIx, rng1, rng2, dFor1, dFor2, dFor, dForK, eqR, rs, dstart, List.map_cons, List.map_nil, List.length_cons, List.length_nil, List.cons_append, List.nil_append, List.replicate, List.getElem?_cons_zero, List.getElem?_cons_succ, List.set_cons_zero, List.set_cons_succ, Option.isSome_some, Option.isNone_some, Option.isNone_none, Nat.add_one_sub_one, Nat.reduceAdd, Nat.reduceSub, Nat.sub_self, Nat.sub_zero, Bool.not_true, Bool.not_false, ↓reduceIte, Bool.false_eq_true, Bool.true_eq_false, okD_int, okD_bl, okD_non, dEq_int, dEq_bl, Bool.true_xor, Bool.false_xor, Bool.not_eq_true', decide_eq_true_eq, decide_eq_false_iff_not, true_and, Bool.and_true, Bool.and_false, Bool.true_and, Bool.false_and, at_0, at_1, at_2, cast0, cast1, cast2, cast3, not_true_eq_false, not_false_eq_true, eL, Option.map_some, Option.map_none, dSlL, slk, doNone, doSome, sortedTD, dLenSet, lsk]
  intro p hp
  by_cases c : (n : Int) < 2
  · rw [if_pos c]
    simp only [dSeq, dIfS, dB, dOp, dVar, dCB, dCons, dNil, dRet, dRetN, dNext, dC, dAsg, dgN, dgT, dgSeq, dDrop, dCont, dAndT, dOrT, dNotT, dAndV, dOrV, dNotV, dIf, dIsN, dNotN, dNeg, dLst, dTup, dNewI, dCall, dMeth, dMake, dRaise, dFrz, dIsi, isiK, tyS, inst_NoneType_bool, inst_NoneType_int, inst_NoneType_str, inst_NoneType_list, inst_NoneType_tuple, inst_bool_bool, inst_bool_int, inst_bool_str, inst_bool_list, inst_bool_tuple, inst_int_bool, inst_int_int, inst_int_str, inst_int_list, inst_int_tuple, inst_str_bool, inst_str_int, inst_str_str, inst_str_list, inst_str_tuple, inst_list_bool, inst_list_int, inst_list_str, inst_list_list, inst_list_tuple, inst_tuple_bool, inst_tuple_int, inst_tuple_str, inst_tuple_list, inst_tuple_tuple, iiD, iiD0, subD, mulD, fdivD, modD, shrD, pow_10_6, pow_10_60, ltI, leI, gtI, geI, addI, addD, catD, scatD, lenD, lenS, ixD, ixL, ixLK, ixK, vl, vm, newL, i2D, absD, tupleD, dLM, dLM0, dFld, getF, dGet1, dGet2, getK, dSetIx, rng1, rng2, dFor1, dFor2, dFor, dForK, eqR, rs, dstart, List.map_cons, List.map_nil, List.length_cons, List.length_nil, List.cons_append, List.nil_append, List.replicate, List.getElem?_cons_zero, List.getElem?_cons_succ, List.set_cons_zero, List.set_cons_succ, Option.isSome_some, Option.isNone_some, Option.isNone_none, Nat.add_one_sub_one, Nat.reduceAdd, Nat.reduceSub, Nat.sub_self, Nat.sub_zero, Bool.not_true, Bool.not_false, ↓reduceIte, Bool.false_eq_true, Bool.true_eq_false, okD_int, okD_bl, okD_non, dEq_int, dEq_bl, Bool.true_xor, Bool.false_xor, Bool.not_eq_true', decide_eq_true_eq, decide_eq_false_iff_not, true_and, Bool.and_true, Bool.and_false, Bool.true_and, Bool.false_and, at_0, at_1, at_2, cast0, cast1, cast2, cast3, not_true_eq_false, not_false_eq_true, eL, Option.map_some, Option.map_none, dSlL, slk, doNone, doSome, sortedTD, dLenSet, lsk, su_same]
    exact rt_of (q [] p (DearN.nil n) (by simp) (fun _ => rfl) hp)
  rw [if_neg c]
  refine ⟨by decide, by omega, ?_⟩
  have h5 : (cell % 4).toNat ≤ 4 := by omega
  refine dGo_rng (fun k ρ S' => ∃ c L o1 o2, ρ = [some (.int c), some (.int n), some (.ref p), o1, o2] ∧ S' = su S p (.dI (L.map eKV)) ∧ DearN n L ∧ L.length ≤ k) ?_ ?_ _ _ ⟨cell, [], _, _, rfl, rfl, DearN.nil n, Nat.le_refl _⟩
  · rintro ρ S' ⟨c, L, o1, o2, rfl, rfl, hL, hl⟩
    simp only [dSeq, dIfS, dB, dOp, dVar, dCB, dCons, dNil, dRet, dRetN, dNext, dC, dAsg, dgN, dgT, dgSeq, dDrop, dCont, dAndT, dOrT, dNotT, dAndV, dOrV, dNotV, dIf, dIsN, dNotN, dNeg, dLst, dTup, dNewI, dCall, dMeth, dMake, dRaise, dFrz, dIsi, isiK, tyS, inst_NoneType_bool, inst_NoneType_int, inst_NoneType_str, inst_NoneType_list, inst_NoneType_tuple, inst_bool_bool, inst_bool_int, inst_bool_str, inst_bool_list, inst_bool_tuple, inst_int_bool, inst_int_int, inst_int_str, inst_int_list, inst_int_tuple, inst_str_bool, inst_str_int, inst_str_str, inst_str_list, inst_str_tuple, inst_list_bool, inst_list_int, inst_list_str, inst_list_list, inst_list_tuple, inst_tuple_bool, inst_tuple_int, inst_tuple_str, inst_tuple_list, inst_tuple_tuple, iiD, iiD0, subD, mulD, fdivD, modD, shrD, pow_10_6, pow_10_60, ltI, leI, gtI, geI, addI, addD, catD, scatD, lenD, lenS, ixD, ixL, ixLK, ixK, vl, vm, newL, i2D, absD, tupleD, dLM, dLM0, dFld, getF, dGet1, dGet2, getK, dSetIx, rng1, rng2, dFor1, dFor2, dFor, dForK, eqR, rs, dstart, List.map_cons, List.map_nil, List.length_cons, List.length_nil, List.cons_append, List.nil_append, List.replicate, List.getElem?_cons_zero, List.getElem?_cons_succ, List.set_cons_zero, List.set_cons_succ, Option.isSome_some, Option.isNone_some, Option.isNone_none, Nat.add_one_sub_one, Nat.reduceAdd, Nat.reduceSub, Nat.sub_self, Nat.sub_zero, Bool.not_true, Bool.not_false, ↓reduceIte, Bool.false_eq_true, Bool.true_eq_false, okD_int, okD_bl, okD_non, dEq_int, dEq_bl, Bool.true_xor, Bool.false_xor, Bool.not_eq_true', decide_eq_true_eq, decide_eq_false_iff_not, true_and, Bool.and_true, Bool.and_false, Bool.true_and, Bool.false_and, at_0, at_1, at_2, cast0, cast1, cast2, cast3, not_true_eq_false, not_false_eq_true, eL, Option.map_some, Option.map_none, dSlL, slk, doNone, doSome, sortedTD, dLenSet, lsk, su_same]
    exact rt_of (q L p hL (by omega) (fun z => by omega) hp)
  · rintro k ρ S' N hk ⟨c, L, o1, o2, rfl, rfl, hL, hl⟩ hN
    simp only [dSeq, dIfS, dB, dOp, dVar, dCB, dCons, dNil, dRet, dRetN, dNext, dC, dAsg, dgN, dgT, dgSeq, dDrop, dCont, dAndT, dOrT, dNotT, dAndV, dOrV, dNotV, dIf, dIsN, dNotN, dNeg, dLst, dTup, dNewI, dCall, dMeth, dMake, dRaise, dFrz, dIsi, isiK, tyS, inst_NoneType_bool, inst_NoneType_int, inst_NoneType_str, inst_NoneType_list, inst_NoneType_tuple, inst_bool_bool, inst_bool_int, inst_bool_str, inst_bool_list, inst_bool_tuple, inst_int_bool, inst_int_int, inst_int_str, inst_int_list, inst_int_tuple, inst_str_bool, inst_str_int, inst_str_str, inst_str_list, inst_str_tuple, inst_list_bool, inst_list_int, inst_list_str, inst_list_list, inst_list_tuple, inst_tuple_bool, inst_tuple_int, inst_tuple_str, inst_tuple_list, inst_tuple_tuple, iiD, iiD0, subD, mulD, fdivD, modD, shrD, pow_10_6, pow_10_60, ltI, leI, gtI, geI, addI, addD, catD, scatD, lenD, lenS, ixD, ixL, ixLK, ixK, vl, vm, newL, i2D, absD, tupleD, dLM, dLM0, dFld, getF, dGet1, dGet2, getK, dSetIx, rng1, rng2, dFor1, dFor2, dFor, dForK, eqR, rs, dstart, List.map_cons, List.map_nil, List.length_cons, List.length_nil, List.cons_append, List.nil_append, List.replicate, List.getElem?_cons_zero, List.getElem?_cons_succ, List.set_cons_zero, List.set_cons_succ, Option.isSome_some, Option.isNone_some, Option.isNone_none, Nat.add_one_sub_one, Nat.reduceAdd, Nat.reduceSub, Nat.sub_self, Nat.sub_zero, Bool.not_true, Bool.not_false, ↓reduceIte, Bool.false_eq_true, Bool.true_eq_false, okD_int, okD_bl, okD_non, dEq_int, dEq_bl, Bool.true_xor, Bool.false_xor, Bool.not_eq_true', decide_eq_true_eq, decide_eq_false_iff_not, true_and, Bool.and_true, Bool.and_false, Bool.true_and, Bool.false_and, at_0, at_1, at_2, cast0, cast1, cast2, cast3, not_true_eq_false, not_false_eq_true, eL, Option.map_some, Option.map_none, dSlL, slk, doNone, doSome, sortedTD, dLenSet, lsk]
    refine ⟨.inr ⟨by decide, by decide⟩, by decide, ⟨by decide, by decide⟩, by omega, ?_⟩
    generalize (c * 48271 + 17) % 2147483647 = c'
    have x0 : 0 ≤ c' % ((n : Int) - 1) ∧ c' % ((n : Int) - 1) < n - 1 := ⟨Int.emod_nonneg _ (by omega), Int.emod_lt_of_pos _ (by omega)⟩
    refine x_law_road_by hn (by omega) ?_
    have hrd := roadBy_ok (cell := c' / 9) (house := 1 + c' % ((n : Int) - 1)) (n := n) ⟨by omega, by omega⟩
    generalize roadBy (c' / 9) (1 + c' % ((n : Int) - 1)) n = r at hrd
    simp only [dSeq, dIfS, dB, dOp, dVar, dCB, dCons, dNil, dRet, dRetN, dNext, dC, dAsg, dgN, dgT, dgSeq, dDrop, dCont, dAndT, dOrT, dNotT, dAndV, dOrV, dNotV, dIf, dIsN, dNotN, dNeg, dLst, dTup, dNewI, dCall, dMeth, dMake, dRaise, dFrz, dIsi, isiK, tyS, inst_NoneType_bool, inst_NoneType_int, inst_NoneType_str, inst_NoneType_list, inst_NoneType_tuple, inst_bool_bool, inst_bool_int, inst_bool_str, inst_bool_list, inst_bool_tuple, inst_int_bool, inst_int_int, inst_int_str, inst_int_list, inst_int_tuple, inst_str_bool, inst_str_int, inst_str_str, inst_str_list, inst_str_tuple, inst_list_bool, inst_list_int, inst_list_str, inst_list_list, inst_list_tuple, inst_tuple_bool, inst_tuple_int, inst_tuple_str, inst_tuple_list, inst_tuple_tuple, iiD, iiD0, subD, mulD, fdivD, modD, shrD, pow_10_6, pow_10_60, ltI, leI, gtI, geI, addI, addD, catD, scatD, lenD, lenS, ixD, ixL, ixLK, ixK, vl, vm, newL, i2D, absD, tupleD, dLM, dLM0, dFld, getF, dGet1, dGet2, getK, dSetIx, rng1, rng2, dFor1, dFor2, dFor, dForK, eqR, rs, dstart, List.map_cons, List.map_nil, List.length_cons, List.length_nil, List.cons_append, List.nil_append, List.replicate, List.getElem?_cons_zero, List.getElem?_cons_succ, List.set_cons_zero, List.set_cons_succ, Option.isSome_some, Option.isNone_some, Option.isNone_none, Nat.add_one_sub_one, Nat.reduceAdd, Nat.reduceSub, Nat.sub_self, Nat.sub_zero, Bool.not_true, Bool.not_false, ↓reduceIte, Bool.false_eq_true, Bool.true_eq_false, okD_int, okD_bl, okD_non, dEq_int, dEq_bl, Bool.true_xor, Bool.false_xor, Bool.not_eq_true', decide_eq_true_eq, decide_eq_false_iff_not, true_and, Bool.and_true, Bool.and_false, Bool.true_and, Bool.false_and, at_0, at_1, at_2, cast0, cast1, cast2, cast3, not_true_eq_false, not_false_eq_true, eL, Option.map_some, Option.map_none, dSlL, slk, doNone, doSome, sortedTD, dLenSet, lsk]
    refine ⟨⟨by decide, by decide⟩, by decide, setD_key (k := r) su_same (by rw [List.length_map]; simp [sizeLine]; omega) ?_⟩
    rw [su_su, dput_kv]
    exact hN _ _ ⟨c', _, _, _, rfl, rfl, hL.put hrd (by show Int.natAbs _ < 10 ^ 60; omega) (by omega), Nat.le_trans (kput_len _ _ _) (by omega)⟩

end DL
namespace DL
open PySem L2
theorem ShyOk.nil (n : Nat) : ShyOk n [] := ⟨fun q h => (by cases h), Nat.zero_le _⟩
theorem ShyOk.put {n : Nat} {w : WL} {x y : Int} (h : ShyOk n w) (hx : 0 ≤ x ∧ x < n) (hy : 0 ≤ y ∧ y < n) (hn : x ≠ y) (hl : w.length < 1000) : ShyOk n (w ++ [(x, y)]) :=
  ⟨fun p hp => by
    rcases List.mem_append.mp hp with hp | hp
    · exact h.k p hp
    · rw [List.mem_singleton.mp hp]; exact ⟨hx, hy, hn⟩, by rw [List.length_append, List.length_singleton]; omega⟩
theorem app_II (w : WL) (x y : Int) : w.map eII ++ [D.tup [D.int x, D.int y]] = (w ++ [(x, y)]).map eII := by rw [List.map_append]; rfl

end DL
namespace DL
open PySem L2
def t_law_shy_by (K : PySem.W.Frag) (a : CA) (W : WD) : TDS :=
  (dSeq (dAsg (dLst true dNil) (dgN 2))
  (dSeq (dIfS (dB (dOp ltI (dVar 1) (dC (.int 2))))
    (dRet (dFrz (dVar 2)))
    dNext)
  (dSeq (dFor1 (dCons (dOp modD (dVar 0) (dC (.int 3))) dNil) (dgN 3)
    (dSeq (dAsg (dOp modD (dOp (addD false) (dOp mulD (dVar 0) (dC (.int 48271))) (dC (.int 23))) (dC (.int 2147483647))) (dgN 0))
    (dSeq (dAsg (dOp modD (dVar 0) (dVar 1)) (dgN 4))
    (dSeq (dAsg (dOp modD (dOp (addD false) (dOp (addD false) (dVar 4) (dC (.int 1))) (dOp modD (dOp fdivD (dVar 0) (dC (.int 7))) (dOp subD (dVar 1) (dC (.int 1))))) (dVar 1)) (dgN 5))
    (dIfS (dB (dOp (inR true) (dTup (dCons (dVar 4) (dCons (dVar 5) dNil))) (dVar 2)))
      (dDrop (dLM appendD (dVar 2) (dCons (dTup (dCons (dVar 4) (dCons (dVar 5) dNil))) dNil)))
      dNext)))))
  (dRet (dFrz (dVar 2))))))
abbrev N_law_shy_by : List Str := ["cell", "size", "shy", "k", "a", "b"]
def sp_law_shy_by (a : CA) : DSp := fun ds S P E => ∃ (cell : Int) (n : Nat), ds = [.int cell, .int n] ∧ 1 ≤ n ∧ n ≤ 60 ∧ ∀ (w : WL), ShyN n w → w.length ≤ 3 → (n < 2 → w = []) → P (.lst (w.map eII)) S
theorem len_law_shy_by (a : CA) (ds : List D) (S : Sto) (Q : D → Sto → Prop) (E : Addr → Sto → Prop) (h : sp_law_shy_by a ds S Q E) : ds.length = ["cell", "size"].length := by
  obtain ⟨_, _, rfl, _⟩ := h; rfl
theorem read_law_shy_by (K : PySem.W.Frag) (a : CA) (ds : List D) (S : Sto) (Q : D → Sto → Prop) (E : Addr → Sto → Prop) (h : sp_law_shy_by a ds S Q E) : t_law_shy_by K a (wishOf E) (endsOf Q) (dstart N_law_shy_by ds) S := by
  obtain ⟨cell, n, rfl, hn, hn2, q⟩ := h
  simp only [t_law_shy_by, N_law_shy_by, dSeq, dIfS, dB, dOp, dVar, dCB, dCons, dNil, dRet, dRetN, dNext, dC, dAsg, dgN, dgT, dgSeq, dDrop, dCont, dAndT, dOrT, dNotT, dAndV, dOrV, dNotV, dIf, dIsN, dNotN, dNeg, dLst, dTup, dNewI, dCall, dMeth, dMake, dRaise, dFrz, dIsi, isiK, tyS, inst_NoneType_bool, inst_NoneType_int, inst_NoneType_str, inst_NoneType_list, inst_NoneType_tuple, inst_bool_bool, inst_bool_int, inst_bool_str, inst_bool_list, inst_bool_tuple, inst_int_bool, inst_int_int, inst_int_str, inst_int_list, inst_int_tuple, inst_str_bool, inst_str_int, inst_str_str, inst_str_list, inst_str_tuple, inst_list_bool, inst_list_int, inst_list_str, inst_list_list, inst_list_tuple, inst_tuple_bool, inst_tuple_int, inst_tuple_str, inst_tuple_list, inst_tuple_tuple, iiD, iiD0, subD, mulD, fdivD, modD, shrD, pow_10_6, pow_10_60, ltI, leI, gtI, geI, addI, addD, catD, scatD, lenD, lenS, ixD, ixL, ixLK, ixK, vl, vm, newL, i2D, absD, tupleD, dLM, dLM0, dFld, getF, dGet1, dGet2, getK, dSetIx, rng1, rng2, dFor1, dFor2, dFor, dForK, eqR, rs, dstart, List.map_cons, List.map_nil, List.length_cons, List.length_nil, List.cons_append, List.nil_append, List.replicate, List.getElem?_cons_zero, List.getElem?_cons_succ, List.set_cons_zero, List.set_cons_succ, Option.isSome_some, Option.isNone_some, Option.isNone_none, Nat.add_one_sub_one, Nat.reduceAdd, Nat.reduceSub, Nat.sub_self, Nat.sub_zero, Bool.not_true, Bool.not_false, ↓reduceIte, Bool.false_eq_true, Bool.true_eq_false, okD_int, okD_bl, okD_non, dEq_int, dEq_bl, Bool.true_xor, Bool.false_xor, Bool.not_eq_true', decide_eq_true_eq, decide_eq_false_iff_not, true_and, Bool.and_true, Bool.and_false, Bool.true_and, Bool.false_and, at_0, at_1, at_2, cast0, cast1, cast2, cast3, not_true_eq_false, not_false_eq_true, eL, Option.map_some, Option.map_none, dSlL, slk, doNone, doSome, sortedTD, dLenSet, lsk]
  refine ⟨by decide, fun p hp => ?_⟩
  by_cases c : (n : Int) < 2
  · rw [if_pos c]
    simp only [dSeq, dIfS, dB, dOp, dVar, dCB, dCons, dNil, dRet, dRetN, dNext, dC, dAsg, dgN, dgT, dgSeq, dDrop, dCont, dAndT, dOrT, dNotT, dAndV, dOrV, dNotV, dIf, dIsN, dNotN, dNeg, dLst, dTup, dNewI, dCall, dMeth, dMake, dRaise, dFrz, dIsi, isiK, tyS, inst_NoneType_bool, inst_NoneType_int, inst_NoneType_str, inst_NoneType_list, inst_NoneType_tuple, inst_bool_bool, inst_bool_int, inst_bool_str, inst_bool_list, inst_bool_tuple, inst_int_bool, inst_int_int, inst_int_str, inst_int_list, inst_int_tuple, inst_str_bool, inst_str_int, inst_str_str, inst_str_list, inst_str_tuple, inst_list_bool, inst_list_int, inst_list_str, inst_list_list, inst_list_tuple, inst_tuple_bool, inst_tuple_int, inst_tuple_str, inst_tuple_list, inst_tuple_tuple, iiD, iiD0, subD, mulD, fdivD, modD, shrD, pow_10_6, pow_10_60, ltI, leI, gtI, geI, addI, addD, catD, scatD, lenD, lenS, ixD, ixL, ixLK, ixK, vl, vm, newL, i2D, absD, tupleD, dLM, dLM0, dFld, getF, dGet1, dGet2, getK, dSetIx, rng1, rng2, dFor1, dFor2, dFor, dForK, eqR, rs, dstart, List.map_cons, List.map_nil, List.length_cons, List.length_nil, List.cons_append, List.nil_append, List.replicate, List.getElem?_cons_zero, List.getElem?_cons_succ, List.set_cons_zero, List.set_cons_succ, Option.isSome_some, Option.isNone_some, Option.isNone_none, Nat.add_one_sub_one, Nat.reduceAdd, Nat.reduceSub, Nat.sub_self, Nat.sub_zero, Bool.not_true, Bool.not_false, ↓reduceIte, Bool.false_eq_true, Bool.true_eq_false, okD_int, okD_bl, okD_non, dEq_int, dEq_bl, Bool.true_xor, Bool.false_xor, Bool.not_eq_true', decide_eq_true_eq, decide_eq_false_iff_not, true_and, Bool.and_true, Bool.and_false, Bool.true_and, Bool.false_and, at_0, at_1, at_2, cast0, cast1, cast2, cast3, not_true_eq_false, not_false_eq_true, eL, Option.map_some, Option.map_none, dSlL, slk, doNone, doSome, sortedTD, dLenSet, lsk, su_same]
    have hw := ShyN.nil n
    have hl0 : ([] : WL).length ≤ 3 := by simp
    have hz : n < 2 → ([] : WL) = [] := fun _ => rfl
    rw [sd_su hp]; exact rt_of (q _ hw hl0 hz)
  rw [if_neg c]
  refine ⟨by decide, by omega, ?_⟩
  have h5 : (cell % 3).toNat ≤ 3 := by omega
  refine dGo_rng (fun k ρ S' => ∃ (c : Int) (w : WL) (o1 o2 o3 : Option D), ρ = [some (.int c), some (.int n), some (.ref p), o1, o2, o3] ∧ S' = su S p (.ml (w.map eII)) ∧ ShyN n w ∧ w.length ≤ k) ?_ ?_ _ _ ⟨cell, [], _, _, _, rfl, rfl, ShyN.nil n, Nat.le_refl _⟩
  · rintro ρ S' ⟨c, w, o1, o2, o3, rfl, rfl, hw, hl⟩
    simp only [dSeq, dIfS, dB, dOp, dVar, dCB, dCons, dNil, dRet, dRetN, dNext, dC, dAsg, dgN, dgT, dgSeq, dDrop, dCont, dAndT, dOrT, dNotT, dAndV, dOrV, dNotV, dIf, dIsN, dNotN, dNeg, dLst, dTup, dNewI, dCall, dMeth, dMake, dRaise, dFrz, dIsi, isiK, tyS, inst_NoneType_bool, inst_NoneType_int, inst_NoneType_str, inst_NoneType_list, inst_NoneType_tuple, inst_bool_bool, inst_bool_int, inst_bool_str, inst_bool_list, inst_bool_tuple, inst_int_bool, inst_int_int, inst_int_str, inst_int_list, inst_int_tuple, inst_str_bool, inst_str_int, inst_str_str, inst_str_list, inst_str_tuple, inst_list_bool, inst_list_int, inst_list_str, inst_list_list, inst_list_tuple, inst_tuple_bool, inst_tuple_int, inst_tuple_str, inst_tuple_list, inst_tuple_tuple, iiD, iiD0, subD, mulD, fdivD, modD, shrD, pow_10_6, pow_10_60, ltI, leI, gtI, geI, addI, addD, catD, scatD, lenD, lenS, ixD, ixL, ixLK, ixK, vl, vm, newL, i2D, absD, tupleD, dLM, dLM0, dFld, getF, dGet1, dGet2, getK, dSetIx, rng1, rng2, dFor1, dFor2, dFor, dForK, eqR, rs, dstart, List.map_cons, List.map_nil, List.length_cons, List.length_nil, List.cons_append, List.nil_append, List.replicate, List.getElem?_cons_zero, List.getElem?_cons_succ, List.set_cons_zero, List.set_cons_succ, Option.isSome_some, Option.isNone_some, Option.isNone_none, Nat.add_one_sub_one, Nat.reduceAdd, Nat.reduceSub, Nat.sub_self, Nat.sub_zero, Bool.not_true, Bool.not_false, ↓reduceIte, Bool.false_eq_true, Bool.true_eq_false, okD_int, okD_bl, okD_non, dEq_int, dEq_bl, Bool.true_xor, Bool.false_xor, Bool.not_eq_true', decide_eq_true_eq, decide_eq_false_iff_not, true_and, Bool.and_true, Bool.and_false, Bool.true_and, Bool.false_and, at_0, at_1, at_2, cast0, cast1, cast2, cast3, not_true_eq_false, not_false_eq_true, eL, Option.map_some, Option.map_none, dSlL, slk, doNone, doSome, sortedTD, dLenSet, lsk, su_same]
    have hl0 : w.length ≤ 3 := by omega
    have hz : n < 2 → w = [] := fun _ => by omega
    rw [sd_su hp]; exact rt_of (q _ hw hl0 hz)
  · rintro k ρ S' N hk ⟨c, w, o1, o2, o3, rfl, rfl, hw, hl⟩ hN
    simp only [dSeq, dIfS, dB, dOp, dVar, dCB, dCons, dNil, dRet, dRetN, dNext, dC, dAsg, dgN, dgT, dgSeq, dDrop, dCont, dAndT, dOrT, dNotT, dAndV, dOrV, dNotV, dIf, dIsN, dNotN, dNeg, dLst, dTup, dNewI, dCall, dMeth, dMake, dRaise, dFrz, dIsi, isiK, tyS, inst_NoneType_bool, inst_NoneType_int, inst_NoneType_str, inst_NoneType_list, inst_NoneType_tuple, inst_bool_bool, inst_bool_int, inst_bool_str, inst_bool_list, inst_bool_tuple, inst_int_bool, inst_int_int, inst_int_str, inst_int_list, inst_int_tuple, inst_str_bool, inst_str_int, inst_str_str, inst_str_list, inst_str_tuple, inst_list_bool, inst_list_int, inst_list_str, inst_list_list, inst_list_tuple, inst_tuple_bool, inst_tuple_int, inst_tuple_str, inst_tuple_list, inst_tuple_tuple, iiD, iiD0, subD, mulD, fdivD, modD, shrD, pow_10_6, pow_10_60, ltI, leI, gtI, geI, addI, addD, catD, scatD, lenD, lenS, ixD, ixL, ixLK, ixK, vl, vm, newL, i2D, absD, tupleD, dLM, dLM0, dFld, getF, dGet1, dGet2, getK, dSetIx, rng1, rng2, dFor1, dFor2, dFor, dForK, eqR, rs, dstart, List.map_cons, List.map_nil, List.length_cons, List.length_nil, List.cons_append, List.nil_append, List.replicate, List.getElem?_cons_zero, List.getElem?_cons_succ, List.set_cons_zero, List.set_cons_succ, Option.isSome_some, Option.isNone_some, Option.isNone_none, Nat.add_one_sub_one, Nat.reduceAdd, Nat.reduceSub, Nat.sub_self, Nat.sub_zero, Bool.not_true, Bool.not_false, ↓reduceIte, Bool.false_eq_true, Bool.true_eq_false, okD_int, okD_bl, okD_non, dEq_int, dEq_bl, Bool.true_xor, Bool.false_xor, Bool.not_eq_true', decide_eq_true_eq, decide_eq_false_iff_not, true_and, Bool.and_true, Bool.and_false, Bool.true_and, Bool.false_and, at_0, at_1, at_2, cast0, cast1, cast2, cast3, not_true_eq_false, not_false_eq_true, eL, Option.map_some, Option.map_none, dSlL, slk, doNone, doSome, sortedTD, dLenSet, lsk]
    refine ⟨.inr ⟨by decide, by decide⟩, by decide, by omega, ⟨by decide, by decide⟩, by omega, by omega, ?_⟩
    generalize (c * 48271 + 23) % 2147483647 = c'
    have x0 : 0 ≤ c' % (n : Int) ∧ c' % (n : Int) < n := ⟨Int.emod_nonneg _ (by omega), Int.emod_lt_of_pos _ (by omega)⟩
    have y0 : 0 ≤ c' / 7 % ((n : Int) - 1) ∧ c' / 7 % ((n : Int) - 1) < n - 1 := ⟨Int.emod_nonneg _ (by omega), Int.emod_lt_of_pos _ (by omega)⟩
    generalize c' % (n : Int) = x at x0
    generalize c' / 7 % ((n : Int) - 1) = d at y0
    have z0 : 0 ≤ (x + 1 + d) % (n : Int) ∧ (x + 1 + d) % (n : Int) < n := ⟨Int.emod_nonneg _ (by omega), Int.emod_lt_of_pos _ (by omega)⟩
    have zx : x ≠ (x + 1 + d) % (n : Int) := fun z => by
      by_cases c : x + 1 + d < n
      · rw [Int.emod_eq_of_lt (by omega) c] at z; omega
      · have e : (x + 1 + d) % (n : Int) = x + 1 + d - n := by
          have h1 : (x + 1 + d - n) % (n : Int) = x + 1 + d - n := Int.emod_eq_of_lt (by omega) (by omega)
          rw [← h1, Int.sub_emod_right]
        rw [e] at z; omega
    generalize (x + 1 + d) % (n : Int) = y at z0 zx
    simp only [inR, inL, vm, su_same, rs, any_II, okD_II, okD_WL, true_and, Bool.true_xor, Bool.not_eq_true', decide_eq_false_iff_not, dSeq, dIfS, dB, dOp, dVar, dCB, dCons, dNil, dRet, dRetN, dNext, dC, dAsg, dgN, dgT, dgSeq, dDrop, dCont, dAndT, dOrT, dNotT, dAndV, dOrV, dNotV, dIf, dIsN, dNotN, dNeg, dLst, dTup, dNewI, dCall, dMeth, dMake, dRaise, dFrz, dIsi, isiK, tyS, inst_NoneType_bool, inst_NoneType_int, inst_NoneType_str, inst_NoneType_list, inst_NoneType_tuple, inst_bool_bool, inst_bool_int, inst_bool_str, inst_bool_list, inst_bool_tuple, inst_int_bool, inst_int_int, inst_int_str, inst_int_list, inst_int_tuple, inst_str_bool, inst_str_int, inst_str_str, inst_str_list, inst_str_tuple, inst_list_bool, inst_list_int, inst_list_str, inst_list_list, inst_list_tuple, inst_tuple_bool, inst_tuple_int, inst_tuple_str, inst_tuple_list, inst_tuple_tuple, iiD, iiD0, subD, mulD, fdivD, modD, shrD, pow_10_6, pow_10_60, ltI, leI, gtI, geI, addI, addD, catD, scatD, lenD, lenS, ixD, ixL, ixLK, ixK, vl, vm, newL, i2D, absD, tupleD, dLM, dLM0, dFld, getF, dGet1, dGet2, getK, dSetIx, rng1, rng2, dFor1, dFor2, dFor, dForK, eqR, rs, dstart, List.map_cons, List.map_nil, List.length_cons, List.length_nil, List.cons_append, List.nil_append, List.replicate, List.getElem?_cons_zero, List.getElem?_cons_succ, List.set_cons_zero, List.set_cons_succ, Option.isSome_some, Option.isNone_some, Option.isNone_none, Nat.add_one_sub_one, Nat.reduceAdd, Nat.reduceSub, Nat.sub_self, Nat.sub_zero, Bool.not_true, Bool.not_false, ↓reduceIte, Bool.false_eq_true, Bool.true_eq_false, okD_int, okD_bl, okD_non, dEq_int, dEq_bl, Bool.true_xor, Bool.false_xor, Bool.not_eq_true', decide_eq_true_eq, decide_eq_false_iff_not, true_and, Bool.and_true, Bool.and_false, Bool.true_and, Bool.false_and, at_0, at_1, at_2, cast0, cast1, cast2, cast3, not_true_eq_false, not_false_eq_true, eL, Option.map_some, Option.map_none, dSlL, slk, doNone, doSome, sortedTD, dLenSet, lsk]
    refine ⟨by decide +revert, ?_⟩
    by_cases c2 : (x, y) ∈ w
    · rw [if_neg (not_not_intro c2)]
      exact hN _ _ ⟨c', w, _, _, _, rfl, rfl, hw, by omega⟩
    · rw [if_pos c2]
      refine ⟨by decide +revert, append_at su_same (by rw [List.length_map]; simp [sizeLine]; omega) ?_⟩
      rw [su_su, app_II]
      exact hN _ _ ⟨c', _, _, _, _, rfl, rfl, hw.put x0 z0 zx c2 (by omega), by rw [List.length_append, List.length_singleton]; omega⟩

end DL
namespace DL
open PySem L2
def t_law_line (K : PySem.W.Frag) (a : CA) (W : WD) : TDS :=
  (dRet (dOp (addD false) (dJoin (dC (.str " ")) (dLc false (diL (dVar 0)) (dgN 1) dYes (dCB strD (dCons (dVar 1) dNil)) [1])) (dC (.str "\n"))))
abbrev N_law_line : List Str := ["words", "word"]
def sp_law_line (a : CA) : DSp := fun ds S P E => ∃ (x : D) (l : List D), ds = [x] ∧ vm S x = some l ∧ (∀ d ∈ l, okW d) ∧ l.length ≤ 1000 ∧ P (.str (lineS l)) S
theorem len_law_line (a : CA) (ds : List D) (S : Sto) (Q : D → Sto → Prop) (E : Addr → Sto → Prop) (h : sp_law_line a ds S Q E) : ds.length = ["words"].length := by
  obtain ⟨_, _, rfl, _⟩ := h; rfl
theorem read_law_line (K : PySem.W.Frag) (a : CA) (ds : List D) (S : Sto) (Q : D → Sto → Prop) (E : Addr → Sto → Prop) (h : sp_law_line a ds S Q E) : t_law_line K a (wishOf E) (endsOf Q) (dstart N_law_line ds) S := by
  obtain ⟨x, l, rfl, hx, hw, hl, q⟩ := h
  have hs : sizeLine = 2 ^ 24 := rfl
  have hsum := words_sum hw
  have hj := join_len (a := " ") (l.map wordS)
  rw [List.length_map] at hj
  have e1 : (" " : Str).length = 1 := by decide
  have e2 : ("\n" : Str).length = 1 := by decide
  rw [e1, Nat.mul_one] at hj
  simp only [t_law_line, N_law_line, dstart, List.map_cons, List.map_nil, List.length_cons, List.length_nil, List.cons_append, List.nil_append, List.replicate, Nat.add_one_sub_one, Nat.reduceAdd, Nat.reduceSub, Nat.sub_self, Nat.sub_zero]
  simp only [dRet, dOp, dJoin, dC, dCons, dNil, dLc, diL, dVar, List.getElem?_cons_zero, List.getElem?_cons_succ]
  rw [vm_vl hx]
  simp only [diLk]
  refine ⟨⟨_, rfl⟩, fun p hp => ?_⟩
  have fin : ∀ S2, S2 = S → ∃ a l' ys, D.str (" " : Str) = D.str a ∧ vm S2 (.lst (l.map fun d => D.str (wordS d))) = some l' ∧ txtsD l' = some ys ∧ (List.map (fun x => x.length) ys).sum + ys.length * a.length ≤ 16777216 ∧ addD false (D.str (Txt.join a ys)) (D.str ("\n" : Str)) S2 (endsOf Q).rt := fun S2 e => by
    subst e
    refine ⟨" ", _, l.map wordS, rfl, rfl, ?_, ?_, ?_⟩
    · have := txtsD_map (l.map wordS)
      rw [List.map_map] at this
      exact this
    · rw [List.length_map, e1]; omega
    · simp only [addD, scatD]
      refine ⟨by rw [e2]; omega, rt_of q⟩
  have h := lc_all (m := false) (g := dgN 1) (te := dCB strD (dCons (dVar 1) dNil)) (ρ0 := wipeD [some x, none] [1]) (still := fun S' => vl S' x = some l) (S1 := S) (P := fun y S2 => ∃ a l' ys, D.str (" " : Str) = D.str a ∧ vm S2 y = some l' ∧ txtsD l' = some ys ∧ (List.map (fun x => x.length) ys).sum + ys.length * a.length ≤ 16777216 ∧ addD false (D.str (Txt.join a ys)) (D.str ("\n" : Str)) S2 (endsOf Q).rt) (fun d : D => d) (fun d => D.str (wordS d)) (xs := l) (by omega) (fun S' hS => vm_vl (vm_le hx hS)) (fun d hd S' Y _ y => by
      simp only [dgN, wipeD, dCB, dCons, dNil, dVar, List.set_cons_zero, List.set_cons_succ, List.getElem?_cons_zero, List.getElem?_cons_succ]
      exact str_word (hw d hd) y) (by simp only [newL, Bool.false_eq_true, ↓reduceIte]; exact fin S rfl) p hp
  rw [List.map_id'] at h
  exact h
theorem x_law_line {a : CA} {x : D} {l : List D} {S : Sto} {P : D → Sto → Prop} {E : Addr → Sto → Prop} (hx : vm S x = some l) (hw : ∀ d ∈ l, okW d) (hl : l.length ≤ 1000) (q : P (.str (lineS l)) S) : sp_law_line a [x] S P E := ⟨x, l, rfl, hx, hw, hl, q⟩

end DL
namespace DL
open PySem L2
theorem sortK_sorted (ks : List (List Int)) : (sortK ks).Pairwise (· ≤ ·) := by
  have h := List.pairwise_mergeSort (le := fun a b : List Int => decide (a ≤ b)) (fun a b c h1 h2 => by
    simp only [decide_eq_true_eq] at h1 h2 ⊢; exact List.le_trans h1 h2) (fun a b => by
    simp only [Bool.or_eq_true, decide_eq_true_eq]; exact List.le_total a b) ks
  exact h.imp fun h => by simpa using h
theorem sortedK_uniq : ∀ {a b : List (List Int)}, a.Perm b → a.Pairwise (· ≤ ·) → b.Pairwise (· ≤ ·) → a = b
  | [], b, p, _, _ => (List.nil_perm.mp p).symm
  | x :: xs, [], p, _, _ => absurd p (by simp)
  | x :: xs, y :: ys, p, ha, hb => by
    have h1 : x = y := by
      have m1 : x ∈ y :: ys := p.subset List.mem_cons_self
      have m2 : y ∈ x :: xs := p.symm.subset List.mem_cons_self
      rw [List.pairwise_cons] at ha hb
      rcases List.mem_cons.mp m1 with e | m1
      · exact e
      · rcases List.mem_cons.mp m2 with e | m2
        · exact e.symm
        · exact List.le_antisymm (ha.1 _ m2) (hb.1 _ m1)
    subst h1
    rw [sortedK_uniq (List.Perm.cons_inv p) (List.Pairwise.of_cons ha) (List.Pairwise.of_cons hb)]
theorem ltK_nodup {l : List (List Int)} (h : l.Pairwise (· < ·)) : l.Nodup := h.imp fun h z => by rw [z] at h; exact List.lt_irrefl _ h
theorem ltK_le {l : List (List Int)} (h : l.Pairwise (· < ·)) : l.Pairwise (· ≤ ·) := h.imp fun h => List.not_lt.mp (List.lt_asymm h)
theorem sortedK_is {ks l : List (List Int)} (hk : ks.Pairwise (· ≤ ·)) (hd : ks.Nodup) (hl : l.Pairwise (· < ·)) (hm : ∀ k, k ∈ ks ↔ k ∈ l) : ks = l :=
  sortedK_uniq ((List.perm_ext_iff_of_nodup hd (ltK_nodup hl)).mpr hm) hk (ltK_le hl)
theorem lexP_keys (n : Nat) (R : Int → Int → Bool) : ((lexP n R).map pK).Pairwise (· < ·) := by
  rw [List.pairwise_map]; exact lexK_pw n R n
theorem lexP_key {n : Nat} {R : Int → Int → Bool} {k : List Int} : k ∈ (lexP n R).map pK ↔ ∃ x y : Int, k = [x, y] ∧ (0 ≤ x ∧ x < n) ∧ (0 ≤ y ∧ y < n) ∧ R x y = true := by
  rw [List.mem_map]
  constructor
  · rintro ⟨p, hp, rfl⟩
    exact ⟨p.1, p.2, rfl, lexK_mem.mp hp⟩
  · rintro ⟨x, y, rfl, h⟩
    exact ⟨(x, y), lexK_mem.mpr h, rfl⟩
theorem pK_inj {p q : Int × Int} (h : pK p = pK q) : p = q := by
  obtain ⟨x, y⟩ := p
  obtain ⟨u, v⟩ := q
  simp only [pK, List.cons.injEq, and_true] at h
  rw [h.1, h.2]
theorem pKs_nodup {w : WL} (h : w.Nodup) : (w.map pK).Nodup := by
  unfold List.Nodup
  rw [List.pairwise_map]
  exact List.Pairwise.imp (R := fun a b : Int × Int => a ≠ b) (fun {a b} h z => h (pK_inj z)) h
theorem sort_pairs {n : Nat} {w : WL} {R : Int → Int → Bool} (hd : w.Nodup) (hm : ∀ x y : Int, (x, y) ∈ w ↔ (0 ≤ x ∧ x < n) ∧ (0 ≤ y ∧ y < n) ∧ R x y = true) : sortK (w.map pK) = (lexP n R).map pK := by
  have p := sortK_perm (w.map pK)
  refine sortedK_is (sortK_sorted _) (p.nodup_iff.mpr (pKs_nodup hd)) (lexP_keys n R) fun k => ?_
  rw [p.mem_iff, lexP_key, List.mem_map]
  constructor
  · rintro ⟨q, hq, rfl⟩
    exact ⟨q.1, q.2, rfl, (hm _ _).mp hq⟩
  · rintro ⟨x, y, rfl, h⟩
    exact ⟨(x, y), (hm x y).mpr h, rfl⟩
theorem sort_ways {n : Nat} {w : WL} (h : WayOk n w) : sortK (w.map pK) = (lexP n (ltR (relW w))).map pK := by
  refine sort_pairs h.d fun x y => ?_
  unfold ltR relW
  rw [Bool.and_eq_true, decide_eq_true_eq, decide_eq_true_eq]
  constructor
  · intro hm
    have := h.k _ hm
    dsimp only at this
    rw [Int.min_eq_left (by omega), Int.max_eq_right (by omega)]
    exact ⟨by omega, by omega, by omega, hm⟩
  · rintro ⟨h1, h2, h3, h4⟩
    rw [Int.min_eq_left (by omega), Int.max_eq_right (by omega)] at h4
    exact h4
theorem sort_shy {n : Nat} {w : WL} (h : ShyN n w) : sortK (w.map pK) = (lexP n fun x y => decide ((x, y) ∈ w)).map pK := by
  refine sort_pairs h.d fun x y => ?_
  rw [decide_eq_true_eq]
  constructor
  · intro hm
    have := h.o.k _ hm
    exact ⟨this.1, this.2.1, hm⟩
  · rintro ⟨_, _, h⟩; exact h
def nzK (fl : KL) (k : List Int) : Bool := decide ((kget fl k).getD 0 ≠ 0)
theorem sort_fond {n : Nat} {fl : KL} (h : FondN n fl) : (sortK (fl.map (·.1))).filter (nzK fl) = (lexP n (nzR fun x y => (kget fl [x, y]).getD 0)).map pK := by
  have p := sortK_perm (fl.map (·.1))
  refine sortedK_is ((sortK_sorted _).filter _) ((p.nodup_iff.mpr h.d).filter _) (lexP_keys n _) fun k => ?_
  rw [List.mem_filter, p.mem_iff, lexP_key, List.mem_map]
  unfold nzK nzR
  simp only [decide_eq_true_eq]
  constructor
  · rintro ⟨⟨q, hq, rfl⟩, hz⟩
    obtain ⟨x, y, e, hx, hy⟩ := h.o.k q hq
    exact ⟨x, y, e, hx, hy, by rw [← e]; exact hz⟩
  · rintro ⟨x, y, rfl, hx, hy, hz⟩
    refine ⟨?_, hz⟩
    cases e : fl.find? fun p => decide (p.1 = [x, y]) with
    | none =>
      exfalso
      unfold kget at hz
      rw [e] at hz
      exact hz rfl
    | some q => exact ⟨q, List.mem_of_find?_eq_some e, by simpa using List.find?_some e⟩
theorem fond_get {n : Nat} {fl : KL} (h : FondN n fl) (k : List Int) : small ((kget fl k).getD 0) := by
  unfold kget
  cases e : fl.find? fun p => decide (p.1 = k) with
  | none => show Int.natAbs 0 < _; decide
  | some q => exact h.v q (List.mem_of_find?_eq_some e)
theorem BookOk.txt {n : Nat} {wl : WL} {fl dl : KL} {sl : WL} (b : BookOk n wl fl dl sl) : TxtOk (gOf n wl fl dl sl) :=
  ⟨fun x y _ _ => fond_get b.f [x, y], fun p hp => ⟨(rok_n (s' := GS.new n) rfl).mpr (b.d.o.k p hp), b.d.v p hp⟩, Nat.le_trans b.d.o.l (by decide)⟩
def bodyT (s : GS) : List (List D) := (lexP s.n (ltR s.T)).map wayRow ++ (lexP s.n (nzR s.F)).map (likeRow s.F) ++ (lexP s.n s.H).map shunRow ++ (wishesOf s.L).map wishRow
theorem rows_body (s : GS) : rowsT s = headRow s.n :: bodyT s := by unfold rowsT bodyT; simp only [List.append_assoc, List.cons_append, List.nil_append]
def sR (r : List D) : D := .str (lineS r)

end DL
namespace DL
open PySem L2
def t_law_lines (K : PySem.W.Frag) (a : CA) (W : WD) : TDS :=
  (dSeq (dAsg (dLc true (diL (dCB (sortedTD false) (dCons (dVar 0) dNil))) (dgT [5, 6]) dYes (dCall (sp_law_line a) W0 (dCons (dLst false (dCons (dC (.str "way")) (dCons (dVar 5) (dCons (dVar 6) dNil)))) dNil)) [5, 6]) (dgN 4))
  (dSeq (dFor (dCB (sortedTD false) (dCons (dCB (listD false) (dCons (dVar 1) dNil)) dNil)) (dgN 7)
    (dIfS (dB (dOp (eqR true) (dOp ixD (dVar 1) (dVar 7)) (dC (.int 0))))
      (dDrop (dLM appendD (dVar 4) (dCons (dCall (sp_law_line a) W (dCons (dLst false (dCons (dC (.str "like")) (dCons (dOp ixD (dVar 7) (dC (.int 0))) (dCons (dOp ixD (dVar 7) (dC (.int 1))) (dCons (dOp ixD (dVar 1) (dVar 7)) dNil))))) dNil)) dNil)))
      dNext))
  (dSeq (dAsg (dOp (addD true) (dVar 4) (dLc false (diL (dCB (sortedTD false) (dCons (dVar 3) dNil))) (dgT [5, 6]) dYes (dCall (sp_law_line a) W0 (dCons (dLst false (dCons (dC (.str "shun")) (dCons (dVar 5) (dCons (dVar 6) dNil)))) dNil)) [5, 6])) (dgN 4))
  (dRet (dOp (addD false) (dVar 4) (dLc false (diL (dCB (sortedTD false) (dCons (dCB (listD false) (dCons (dVar 2) dNil)) dNil))) (dgN 8) dYes (dCall (sp_law_line a) W0 (dCons (dOp (addD false) (dLst false (dCons (dC (.str "wish")) (dCons (dOp ixD (dVar 2) (dVar 8)) dNil))) (dCB (listD false) (dCons (dVar 8) dNil))) dNil)) [8]))))))
abbrev N_law_lines : List Str := ["ways", "fond", "dear", "shy", "lines", "a", "b", "pair", "key"]
def likeK (fl : KL) (k : List Int) : D := .str (lineS [.str "like", .int (k.getD 0 0), .int (k.getD 1 0), .int ((kget fl k).getD 0)])
def sp_law_lines (a : CA) : DSp := fun ds S P E => ∃ (n : Nat) (w : D) (pf pd : Addr) (h : D) (wl : WL) (fl dl : KL) (sl : WL), ds = [w, .ref pf, .ref pd, h] ∧ vm S w = some (wl.map eII) ∧ S pf = some (.dI (fl.map eKV)) ∧ S pd = some (.dI (dl.map eKV)) ∧ vm S h = some (sl.map eII) ∧
  BookOk n wl fl dl sl ∧ P (.lst ((bodyT (gOf n wl fl dl sl)).map sR)) S
theorem len_law_lines (a : CA) (ds : List D) (S : Sto) (Q : D → Sto → Prop) (E : Addr → Sto → Prop) (h : sp_law_lines a ds S Q E) : ds.length = ["ways", "fond", "dear", "shy"].length := by
  obtain ⟨_, _, _, _, _, _, _, _, _, rfl, _⟩ := h; rfl
theorem sorted_pairs {m : Bool} {x : D} {wl : WL} {S : Sto} {P : D → Sto → Prop} (h : vm S x = some (wl.map eII)) (q : newL m ((sortK (wl.map pK)).map eTup) S P) : sortedTD m [x] S P := by
  have e : wl.map eII = (wl.map pK).map eTup := by rw [List.map_map]; rfl
  rw [e] at h
  simp only [sortedTD, h]
  refine ⟨pures_tups _, alike_tups _, sortable_tups _ fun k hk => ?_, depth_tups _, by rw [srt_tups]; exact q⟩
  obtain ⟨p, _, rfl⟩ := List.mem_map.mp hk
  simp
theorem sorted_keys {m : Bool} {p : Addr} {L : KL} {S : Sto} {P : D → Sto → Prop} (h : S p = some (.dI (L.map eKV))) (hk : ∀ q ∈ L, q.1 ≠ []) (q : newL m ((sortK (L.map (·.1))).map eTup) S P) : dCB (listD false) (fun ρ S P => P [.ref p] S) [] S fun d S1 => sortedTD m [d] S1 P := by
  simp only [dCB, listD, vl, vm, keysS, h, newL]
  have ek : ((L.map eKV).map (fun x => x.1)).map (fun k => D.tup (k.map .int)) = (L.map (·.1)).map eTup := by rw [List.map_map, List.map_map, List.map_map]; rfl
  rw [ek]
  refine sortedT_tups (fun k hk2 => ?_) q
  obtain ⟨p, hp, rfl⟩ := List.mem_map.mp hk2
  exact hk p hp
theorem read_law_lines (K : PySem.W.Frag) (a : CA) (ds : List D) (S : Sto) (Q : D → Sto → Prop) (E : Addr → Sto → Prop) (h : sp_law_lines a ds S Q E) : t_law_lines K a (wishOf E) (endsOf Q) (dstart N_law_lines ds) S := by
  obtain ⟨n, w, pf, pd, h, wl, fl, dl, sl, rfl, hw, hf, hd, hh, bk, q⟩ := h
  have hs : sizeLine = 2 ^ 24 := rfl
  have n2 := bk.n2
  have tx := bk.txt
  have sm : ∀ {x : Int}, 0 ≤ x → x < n → okW (.int x) := fun h0 h1 => okW_sm ⟨h0, by omega⟩
  have l1 := lexP_len (ltR (relW wl)) n2
  have l3 := lexP_len (fun x y => decide ((x, y) ∈ sl)) n2
  have lf : fl.length ≤ 100 := bk.f.o.l
  have ld : dl.length ≤ 100 := bk.d.o.l
  have hfne : ∀ q ∈ fl, q.1 ≠ [] := fun q hq => by obtain ⟨x, y, e, _⟩ := bk.f.o.k q hq; rw [e]; simp
  have hdne : ∀ q ∈ dl, q.1 ≠ [] := fun q hq => by have := (bk.d.o.k q hq).2.1; intro z; rw [z] at this; simp at this
  simp only [t_law_lines, N_law_lines, dstart, List.map_cons, List.map_nil, List.length_cons, List.length_nil, List.cons_append, List.nil_append, List.replicate, Nat.add_one_sub_one, Nat.reduceAdd, Nat.reduceSub, Nat.sub_self, Nat.sub_zero]
  rw [dSeq_ap]
  simp only [dAsg, dLc, diL, dCB, dCons, dNil, dVar, List.getElem?_cons_zero, List.getElem?_cons_succ]
  refine sorted_pairs hw ?_
  rw [sort_ways bk.w]
  simp only [newL, vl, vm, diLk]
  rw [List.map_map]
  refine lc_all (m := true) (P := _) (eTup ∘ pK) sW (by omega) (fun _ _ => trivial) (fun p hp S2 Y hS y => ?_) ?_
  · have hm := lexK_mem.mp hp
    simp only [Function.comp, pK, eTup, List.map_cons, List.map_nil, dgT, dgSeq, wipeD, dCall, dCons, dNil, dLst, dC, dVar, newL, List.set_cons_zero, List.set_cons_succ, List.getElem?_cons_zero, List.getElem?_cons_succ]
    refine ⟨by simp [hs], x_law_line (l := wayRow p) rfl (fun d hd => ?_) (by simp [wayRow]) y⟩
    simp only [wayRow, List.mem_cons, List.not_mem_nil, or_false] at hd
    rcases hd with rfl | rfl | rfl
    · exact okW_str
    · exact sm hm.1.1 hm.1.2
    · exact sm hm.2.1.1 hm.2.1.2
  simp only [newL]
  intro p1 h1
  simp only [dgN, List.set_cons_zero, List.set_cons_succ]
  (try dsimp only)
  rw [dSeq_ap]
  have hp1 : ∀ {b : Addr} {c : Cl}, S b = some c → b ≠ p1 := fun e z => by rw [z, h1] at e; cases e
  have hf1 : su S p1 (.ml ((lexP n (ltR (relW wl))).map sW)) pf = some (.dI (fl.map eKV)) := by rw [su_ne (hp1 hf)]; exact hf
  have ef : ((fl.map eKV).map (fun x => x.1)).map (fun k => D.tup (k.map .int)) = (fl.map (·.1)).map eTup := by rw [List.map_map, List.map_map, List.map_map]; rfl
  have ed : ((dl.map eKV).map (fun x => x.1)).map (fun k => D.tup (k.map .int)) = (dl.map (·.1)).map eTup := by rw [List.map_map, List.map_map, List.map_map]; rfl
  simp only [dFor, dCB, dCons, dNil, dVar, List.getElem?_cons_zero, List.getElem?_cons_succ, listD, vl, vm, keysS, hf1, newL, ef]
  refine sortedT_tups (fun k hk => by obtain ⟨q, hq, rfl⟩ := List.mem_map.mp hk; exact hfne q hq) ?_
  simp only [newL, vl, vm, dForK]
  have lsk : (sortK (fl.map (·.1))).length ≤ 100 := by rw [sortK_len, List.length_map]; exact lf
  refine dGo_map (f := eTup) (fun rest ρ S2 => (∃ o7, ρ = [some w, some (.ref pf), some (.ref pd), some h, some (.ref p1), none, none, o7, none]) ∧ ∃ pre, sortK (fl.map (·.1)) = pre ++ rest ∧ S2 = su S p1 (.ml ((lexP n (ltR (relW wl))).map sW ++ (pre.filter (nzK fl)).map (likeK fl)))) ?_ ?_ _ _ _ ⟨⟨_, rfl⟩, [], rfl, by simp⟩
  · rintro ρ S2 ⟨⟨o7, rfl⟩, pre, epre, rfl⟩
    rw [List.append_nil] at epre
    rw [← epre, sort_fond bk.f]
    have elike : ((lexP n (nzR fun x y => (kget fl [x, y]).getD 0)).map pK).map (likeK fl) = (lexP n (nzR fun x y => (kget fl [x, y]).getD 0)).map (sL fun x y => (kget fl [x, y]).getD 0) := by rw [List.map_map]; rfl
    rw [elike]
    have l2 := lexP_len (nzR fun x y => (kget fl [x, y]).getD 0) n2
    refine ⟨trivial, ?_⟩
    (try dsimp only)
    rw [dSeq_ap]
    generalize hW : (lexP n (ltR (relW wl))).map sW ++ (lexP n (nzR fun x y => (kget fl [x, y]).getD 0)).map (sL fun x y => (kget fl [x, y]).getD 0) = WL1
    have hWl : WL1.length ≤ 7200 := by rw [← hW, List.length_append, List.length_map, List.length_map]; omega
    have le1 : SLe S (su S p1 (.ml WL1)) := SLe.su h1
    have hh2 := vm_le hh le1
    simp only [dAsg, dOp, dVar, dLc, diL, dCB, dCons, dNil, List.getElem?_cons_zero, List.getElem?_cons_succ]
    refine sorted_pairs hh2 ?_
    rw [sort_shy bk.s]
    simp only [newL, vl, vm, diLk]
    rw [List.map_map]
    refine lc_all (m := false) (P := _) (eTup ∘ pK) sH (by omega) (fun _ _ => trivial) (fun p hp S2 Y hS y => ?_) ?_
    · have hm := lexK_mem.mp hp
      simp only [Function.comp, pK, eTup, List.map_cons, List.map_nil, dgT, dgSeq, wipeD, dCall, dCons, dNil, dLst, dC, dVar, newL, List.set_cons_zero, List.set_cons_succ, List.getElem?_cons_zero, List.getElem?_cons_succ]
      refine ⟨by simp [hs], x_law_line (l := shunRow p) rfl (fun d hd => ?_) (by simp [shunRow]) y⟩
      simp only [shunRow, List.mem_cons, List.not_mem_nil, or_false] at hd
      rcases hd with rfl | rfl | rfl
      · exact okW_str
      · exact sm hm.1.1 hm.1.2
      · exact sm hm.2.1.1 hm.2.1.2
    simp only [newL, addD, catD, vm, su_same]
    refine ⟨by rw [List.length_map]; omega, fun p2 h2 => ?_⟩
    obtain ⟨n21, h2'⟩ := free_of h2
    generalize hW2 : WL1 ++ (lexP n fun x y => decide ((x, y) ∈ sl)).map sH = WL2
    have hWl2 : WL2.length ≤ 10800 := by rw [← hW2, List.length_append, List.length_map]; omega
    have le2 : SLe S (su (su S p1 (.ml WL1)) p2 (.ml WL2)) := le1.trans (SLe.su h2)
    have hd2 := le2 _ _ hd
    have hp2 : su (su S p1 (.ml WL1)) p2 (.ml WL2) p2 = some (.ml WL2) := su_same
    generalize su (su S p1 (.ml WL1)) p2 (.ml WL2) = S3 at le2 hd2 hp2 ⊢
    simp only [dgN, List.set_cons_zero, List.set_cons_succ]
    (try dsimp only)
    simp only [dRet, dOp, dVar, dLc, diL, dCB, dCons, dNil, List.getElem?_cons_zero, List.getElem?_cons_succ, listD, vl, vm, keysS, hd2, newL, ed]
    refine sortedT_tups (fun k hk => by obtain ⟨q, hq, rfl⟩ := List.mem_map.mp hk; exact hdne q hq) ?_
    simp only [newL, vl, vm, diLk]
    refine lc_all (m := false) (P := _) eTup (fun k => sQ (k, (kget dl k).getD 0)) (by rw [sortK_len, List.length_map]; omega) (fun _ _ => trivial) (fun k hk S4 Y hS y => ?_) ?_
    · have hk2 : k ∈ dl.map (·.1) := (sortK_perm _).mem_iff.mp hk
      obtain ⟨v, ev⟩ := kget_some hk2
      have hd4 := hS _ _ hd2
      have e : dgetS S4 (.ref pd) (.tup (k.map .int)) = some (some (.int v)) := by simp only [dgetS, hd4, kI, kInts_map, Option.map_some, dget_kv, ev]
      have hw2 : (k, (kget dl k).getD 0) ∈ wishesOf dl := List.mem_map.mpr ⟨k, hk, rfl⟩
      have ow := okW_wish (s := gOf n wl fl dl sl) tx n2 hw2
      rw [ev] at ow y
      have lw : (wishRow (k, v)).length ≤ 62 := ow.2
      simp only [eTup, dgN, wipeD, dCall, dCons, dNil, dOp, dLst, dC, dCB, dVar, List.set_cons_zero, List.set_cons_succ, List.getElem?_cons_zero, List.getElem?_cons_succ, ixD, ixLK, vl, vm, hd4, e, ixK, listD, newL, addD, catD]
      refine ⟨by simp [hs], ?_, x_law_line (l := wishRow (k, v)) rfl ow.1 (Nat.le_trans ow.2 (by decide)) y⟩
      unfold wishRow at lw
      rw [List.length_append, List.length_map] at lw
      show [D.str "wish", D.int v].length + (k.map D.int).length ≤ _
      rw [List.length_map]
      dsimp only at lw
      simp only [List.length_cons, List.length_nil] at lw ⊢
      omega
    simp only [newL, addD, catD, vm, hp2]
    refine ⟨by rw [List.length_map, sortK_len, List.length_map]; omega, rt_le le2 ?_⟩
    have efin : WL2 ++ (sortK (dl.map (·.1))).map (fun k => sQ (k, (kget dl k).getD 0)) = (bodyT (gOf n wl fl dl sl)).map sR := by
      rw [← hW2, ← hW]
      unfold bodyT
      simp only [List.map_append, List.map_map]
      unfold wishesOf
      simp only [List.map_map]
      rfl
    rw [efin]
    exact q
  · rintro k rest ρ S2 N ⟨⟨o7, rfl⟩, pre, epre, rfl⟩ hN
    have hk2 : k ∈ fl.map (·.1) := (sortK_perm _).mem_iff.mp (by rw [epre]; simp)
    obtain ⟨v, ev⟩ := kget_some hk2
    obtain ⟨qk, hqk, eqk⟩ := List.mem_map.mp hk2
    obtain ⟨x, y, exy, hx, hy⟩ := bk.f.o.k qk hqk
    rw [eqk] at exy
    have hv : small v := by have := fond_get bk.f k; rw [ev] at this; exact this
    have hpre : (pre.filter (nzK fl)).length ≤ 100 := by
      rw [epre, List.length_append] at lsk
      exact Nat.le_trans (List.length_filter_le _ _) (by omega)
    generalize hW : (lexP n (ltR (relW wl))).map sW ++ (pre.filter (nzK fl)).map (likeK fl) = WL1
    have hWl : WL1.length ≤ 3700 := by rw [← hW, List.length_append, List.length_map, List.length_map]; omega
    have hf2 : su S p1 (.ml WL1) pf = some (.dI (fl.map eKV)) := by rw [su_ne (hp1 hf)]; exact hf
    have e : dgetS (su S p1 (.ml WL1)) (.ref pf) (.tup (k.map .int)) = some (some (.int v)) := by simp only [dgetS, hf2, kI, kInts_map, Option.map_some, dget_kv, ev]
    have enx : ∀ W2, W2 = WL1 ++ (if nzK fl k = true then [likeK fl k] else []) → W2 = (lexP n (ltR (relW wl))).map sW ++ ((pre ++ [k]).filter (nzK fl)).map (likeK fl) := fun W2 h => by
      rw [h, ← hW, List.filter_append, List.map_append, List.append_assoc]
      congr 2
      by_cases c : nzK fl k = true
      · rw [if_pos c, List.filter_cons_of_pos c, List.filter_nil]; rfl
      · rw [if_neg c, List.filter_cons_of_neg c, List.filter_nil]; rfl
    have enz : nzK fl k = decide (v ≠ 0) := by unfold nzK; rw [ev]; rfl
    refine ⟨trivial, ?_⟩
    simp only [eTup, dgN, List.set_cons_zero, List.set_cons_succ, dIfS, dB, dOp, dC, dVar, List.getElem?_cons_zero, List.getElem?_cons_succ, ixD, ixLK, vl, vm, hf2, e, ixK]
    refine eqR_i ?_
    by_cases c : v = 0
    · rw [decide_eq_true c]
      simp only [Bool.true_xor, Bool.not_true, Bool.false_eq_true, ↓reduceIte, dNext]
      refine hN _ _ ⟨⟨_, rfl⟩, pre ++ [k], by rw [epre]; simp, ?_⟩
      rw [← enx WL1 (by rw [enz, if_neg (by simpa using c), List.append_nil])]
    · rw [decide_eq_false c]
      simp only [Bool.true_xor, Bool.not_false, ↓reduceIte]
      have i0 : atI (k.map D.int) 0 = some (.int x) := by rw [exy]; rfl
      have i1 : atI (k.map D.int) 1 = some (.int y) := by rw [exy]; rfl
      simp only [dDrop, dLM, dCons, dNil, dCall, dLst, dC, dOp, dVar, List.getElem?_cons_zero, List.getElem?_cons_succ, vm, su_same, Option.isSome_some, true_and, ixD, ixL, i0, i1, ixLK, vl, hf2, e, ixK, newL]
      refine ⟨by simp [hs], x_law_line (l := [.str "like", .int x, .int y, .int v]) rfl (fun d hd => ?_) (by simp) ?_⟩
      · simp only [List.mem_cons, List.not_mem_nil, or_false] at hd
        rcases hd with rfl | rfl | rfl | rfl
        · exact okW_str
        · exact sm hx.1 hx.2
        · exact sm hy.1 hy.2
        · exact okW_int hv
      · refine append_at su_same (by omega) ?_
        rw [su_su]
        refine hN _ _ ⟨⟨_, rfl⟩, pre ++ [k], by rw [epre]; simp, ?_⟩
        rw [← enx (WL1 ++ [likeK fl k]) (by rw [enz, if_pos (by simpa using c)])]
        unfold likeK
        rw [ev, exy]
        rfl

end DL
namespace DL
open PySem L2
def t_law_bad_line (K : PySem.W.Frag) (a : CA) (W : WD) : TDS :=
  (dSeq (dAsg (dLst false (dCons (dC (.str "")) (dCons (dC (.str " ")) (dCons (dC (.str "way")) (dCons (dC (.str "way 0")) (dCons (dC (.str "way 0 0")) (dCons (dC (.str "way 0 60")) (dCons (dC (.str "way 0 1 2")) (dCons (dC (.str "way -1 0")) (dCons (dC (.str "way 0 x")) (dCons (dC (.str "ways 0 1")) dNil))))))))))) (dgN 1))
  (dSeq (dAsg (dOp (addD false) (dVar 1) (dLst false (dCons (dC (.str "like")) (dCons (dC (.str "like 0 0")) (dCons (dC (.str "like 0 0 +1")) (dCons (dC (.str "like 0 0 01")) (dCons (dC (.str "like 0 0 -0")) (dCons (dC (.str "like 0 0 1 ")) (dCons (dC (.str "like  0 0 1")) dNil))))))))) (dgN 1))
  (dSeq (dAsg (dOp (addD false) (dVar 1) (dLst false (dCons (dC (.str "like 0 0 1.")) (dCons (dC (.str "like 0 60 1")) (dCons (dOp (addD false) (dC (.str "like 0 0 1")) (dOp smulD (dC (.str "0")) (dC (.int 60)))) (dCons (dC (.str "Like 0 0 1")) (dCons (dC (.str "like 0 0 -")) (dCons (dC (.str "like 0 00 1")) dNil)))))))) (dgN 1))
  (dSeq (dAsg (dOp (addD false) (dVar 1) (dLst false (dCons (dC (.str "shun 0")) (dCons (dC (.str "shun 0 0")) (dCons (dC (.str "shun 0 60")) (dCons (dC (.str "wish")) (dCons (dC (.str "wish 1")) (dCons (dC (.str "wish 1 0")) (dCons (dC (.str "wish 1 0 0")) (dCons (dC (.str "wish x 1 0")) dNil)))))))))) (dgN 1))
  (dSeq (dAsg (dOp (addD false) (dVar 1) (dLst false (dCons (dC (.str " like 0 0 1")) (dCons (dC (.str "houses 7")) (dCons (dC (.str "none")) (dCons (dC (.str "like 0 0 1_0")) (dCons (dC (.str "like 0 0 1__0")) (dCons (dC (.str "like 0 0_0 1")) (dCons (dC (.str "like 0 0 -01")) dNil))))))))) (dgN 1))
  (dRet (dOp ixD (dVar 1) (dOp modD (dVar 0) (dCB lenD (dCons (dVar 1) dNil))))))))))
abbrev N_law_bad_line : List Str := ["cell", "some"]
def bads1 : List Str := ["", " ", "way", "way 0", "way 0 0", "way 0 60", "way 0 1 2", "way -1 0", "way 0 x", "ways 0 1"]
def bads2 : List Str := ["like", "like 0 0", "like 0 0 +1", "like 0 0 01", "like 0 0 -0", "like 0 0 1 ", "like  0 0 1"]
def bads3 : List Str := ["like 0 0 1.", "like 0 60 1", ("like 0 0 1" : Str) ++ smulS ("0" : Str) 60, "Like 0 0 1", "like 0 0 -", "like 0 00 1"]
def bads4 : List Str := ["shun 0", "shun 0 0", "shun 0 60", "wish", "wish 1", "wish 1 0", "wish 1 0 0", "wish x 1 0"]
def bads5 : List Str := [" like 0 0 1", "houses 7", "none", "like 0 0 1_0", "like 0 0 1__0", "like 0 0_0 1", "like 0 0 -01"]
def badsL : List Str := bads1 ++ bads2 ++ bads3 ++ bads4 ++ bads5
def sp_law_bad_line (a : CA) : DSp := fun ds S P E => ∃ c : Int, ds = [.int c] ∧ ∀ z ∈ badsL, P (.str z) S
theorem len_law_bad_line (a : CA) (ds : List D) (S : Sto) (Q : D → Sto → Prop) (E : Addr → Sto → Prop) (h : sp_law_bad_line a ds S Q E) : ds.length = ["cell"].length := by
  obtain ⟨_, rfl, _⟩ := h; rfl
theorem at_strs {l : List Str} {c : Int} {S : Sto} {P : D → Sto → Prop} (h0 : l ≠ []) (q : ∀ z ∈ l, P (.str z) S) : ixD (.lst (l.map D.str)) (.int (c % (l.length : Int))) S P := by
  have hl : 0 < l.length := List.length_pos_iff.mpr h0
  have h1 : 0 ≤ c % (l.length : Int) := Int.emod_nonneg _ (by omega)
  have h2 : c % (l.length : Int) < l.length := Int.emod_lt_of_pos _ (by omega)
  simp only [ixD, ixLK, vl, vm, ixL]
  rw [atI_tab D.str l h1 h2]
  exact q _ (List.getElem_mem _)
theorem read_law_bad_line (K : PySem.W.Frag) (a : CA) (ds : List D) (S : Sto) (Q : D → Sto → Prop) (E : Addr → Sto → Prop) (h : sp_law_bad_line a ds S Q E) : t_law_bad_line K a (wishOf E) (endsOf Q) (dstart N_law_bad_line ds) S := by
  obtain ⟨c, rfl, q⟩ := h
  have hs : sizeLine = 2 ^ 24 := rfl
  simp only [t_law_bad_line, N_law_bad_line, dstart, List.map_cons, List.map_nil, List.length_cons, List.length_nil, List.cons_append, List.nil_append, List.replicate, Nat.add_one_sub_one, Nat.reduceAdd, Nat.reduceSub, Nat.sub_self, Nat.sub_zero]
  rw [dSeq_ap]
  simp only [dAsg, dLst, dC, dCons, dNil, newL, dgN, List.set_cons_zero, List.set_cons_succ]
  refine ⟨by decide, ?_⟩
  (try dsimp only)
  rw [dSeq_ap]
  simp only [dAsg, dOp, dVar, dLst, dC, dCons, dNil, newL, dgN, List.set_cons_zero, List.set_cons_succ, List.getElem?_cons_zero, List.getElem?_cons_succ, addD, catD, vm, scatD]
  refine ⟨by decide, by decide, ?_⟩
  (try dsimp only)
  rw [dSeq_ap]
  simp only [dAsg, dOp, dVar, dLst, dC, dCons, dNil, newL, dgN, List.set_cons_zero, List.set_cons_succ, List.getElem?_cons_zero, List.getElem?_cons_succ, addD, catD, vm, scatD, smulD]
  refine ⟨by decide, by decide, by decide, by decide +kernel, by decide +kernel, by decide, by decide, ?_⟩
  (try dsimp only)
  rw [dSeq_ap]
  simp only [dAsg, dOp, dVar, dLst, dC, dCons, dNil, newL, dgN, List.set_cons_zero, List.set_cons_succ, List.getElem?_cons_zero, List.getElem?_cons_succ, addD, catD, vm, scatD]
  refine ⟨by decide, by decide, ?_⟩
  (try dsimp only)
  rw [dSeq_ap]
  simp only [dAsg, dOp, dVar, dLst, dC, dCons, dNil, newL, dgN, List.set_cons_zero, List.set_cons_succ, List.getElem?_cons_zero, List.getElem?_cons_succ, addD, catD, vm, scatD]
  refine ⟨by decide, by decide, ?_⟩
  (try dsimp only)
  simp only [dRet, dOp, dVar, dCB, dCons, dNil, List.getElem?_cons_zero, List.getElem?_cons_succ, lenD, lenS, vm, modD, iiD]
  refine ⟨by decide, ?_⟩
  exact at_strs (l := badsL) (c := c) (by decide +kernel) fun z hz => rt_of (q z hz)
theorem x_law_bad_line {a : CA} {c : Int} {S : Sto} {P : D → Sto → Prop} {E : Addr → Sto → Prop} (q : ∀ z ∈ badsL, P (.str z) S) : sp_law_bad_line a [.int c] S P E := ⟨c, rfl, q⟩

end DL
namespace DL
open PySem L2
def t_law_bad_first (K : PySem.W.Frag) (a : CA) (W : WD) : TDS :=
  (dSeq (dAsg (dLst false (dCons (dC (.str "houses")) (dCons (dC (.str "houses 0")) (dCons (dC (.str "houses 61")) (dCons (dC (.str "houses 01")) (dCons (dC (.str "houses -1")) (dCons (dC (.str "house 3")) (dCons (dC (.str "houses 3 ")) (dCons (dC (.str "Houses 3")) dNil))))))))) (dgN 1))
  (dSeq (dAsg (dOp (addD false) (dVar 1) (dLst false (dCons (dC (.str "houses 3 3")) (dCons (dC (.str "houses 1_0")) (dCons (dC (.str "houses  3")) (dCons (dC (.str "")) (dCons (dC (.str "houses x")) (dCons (dOp (addD false) (dC (.str "houses ")) (dCB strD (dCons (dOp powD (dC (.int 10)) (dC (.int 60))) dNil))) dNil)))))))) (dgN 1))
  (dRet (dOp ixD (dVar 1) (dOp modD (dVar 0) (dCB lenD (dCons (dVar 1) dNil)))))))
abbrev N_law_bad_first : List Str := ["cell", "some"]
def badsF1 : List Str := ["houses", "houses 0", "houses 61", "houses 01", "houses -1", "house 3", "houses 3 ", "Houses 3"]
def badsF2 : List Str := ["houses 3 3", "houses 1_0", "houses  3", "", "houses x", ("houses " : Str) ++ numS (10 ^ 60)]
def badsF : List Str := badsF1 ++ badsF2
def sp_law_bad_first (a : CA) : DSp := fun ds S P E => ∃ c : Int, ds = [.int c] ∧ ∀ z ∈ badsF, P (.str z) S
theorem len_law_bad_first (a : CA) (ds : List D) (S : Sto) (Q : D → Sto → Prop) (E : Addr → Sto → Prop) (h : sp_law_bad_first a ds S Q E) : ds.length = ["cell"].length := by
  obtain ⟨_, rfl, _⟩ := h; rfl
theorem read_law_bad_first (K : PySem.W.Frag) (a : CA) (ds : List D) (S : Sto) (Q : D → Sto → Prop) (E : Addr → Sto → Prop) (h : sp_law_bad_first a ds S Q E) : t_law_bad_first K a (wishOf E) (endsOf Q) (dstart N_law_bad_first ds) S := by
  obtain ⟨c, rfl, q⟩ := h
  have hs : sizeLine = 2 ^ 24 := rfl
  simp only [t_law_bad_first, N_law_bad_first, dstart, List.map_cons, List.map_nil, List.length_cons, List.length_nil, List.cons_append, List.nil_append, List.replicate, Nat.add_one_sub_one, Nat.reduceAdd, Nat.reduceSub, Nat.sub_self, Nat.sub_zero]
  rw [dSeq_ap]
  simp only [dAsg, dLst, dC, dCons, dNil, newL, dgN, List.set_cons_zero, List.set_cons_succ]
  refine ⟨by decide, ?_⟩
  (try dsimp only)
  rw [dSeq_ap]
  simp only [dAsg, dOp, dVar, dLst, dC, dCB, dCons, dNil, newL, dgN, List.set_cons_zero, List.set_cons_succ, List.getElem?_cons_zero, List.getElem?_cons_succ, addD, catD, vm, scatD, powD, iiD, strD]
  refine ⟨⟨by decide, by decide, by decide⟩, by decide +kernel, ?_, by decide, by decide, ?_⟩
  · have h1 := numS_len (i := (10 : Int) ^ (60 : Int).toNat) (k := 61) (by decide) (by decide)
    have h2 : ("houses " : Str).length = 7 := by decide
    show ("houses " : Str).length + (numS ((10 : Int) ^ (60 : Int).toNat)).length ≤ _
    omega
  (try dsimp only)
  simp only [dRet, dOp, dVar, dCB, dCons, dNil, List.getElem?_cons_zero, List.getElem?_cons_succ, lenD, lenS, vm, modD, iiD]
  refine ⟨by decide, ?_⟩
  exact at_strs (l := badsF) (c := c) (fun z => by cases z) fun z hz => rt_of (q z hz)
theorem x_law_bad_first {a : CA} {c : Int} {S : Sto} {P : D → Sto → Prop} {E : Addr → Sto → Prop} (q : ∀ z ∈ badsF, P (.str z) S) : sp_law_bad_first a [.int c] S P E := ⟨c, rfl, q⟩

end DL
namespace DL
open PySem L2
open TL PySem.NumText
inductive Rw where
  | way (a b : Int) | like (a b r : Int) | shun (a b : Int) | wish (l : List Int) (r : Int)
def Rw.w : Rw → Str
  | .way _ _ => "way"
  | .like _ _ _ => "like"
  | .shun _ _ => "shun"
  | .wish _ _ => "wish"
def Rw.ns : Rw → List Int
  | .way a b => [a, b]
  | .like a b r => [a, b, r]
  | .shun a b => [a, b]
  | .wish l r => r :: l
def rowD (w : Str) (ns : List Int) : List D := .str w :: ns.map .int
def Rw.row (x : Rw) : List D := rowD x.w x.ns
def lnS (r : List D) : Str := Txt.join " " (r.map wordS)
theorem line_ln (r : List D) : lineS r = lnS r ++ "\n" := rfl
theorem joinL_mem {S : List Nat} {c : Nat} : ∀ {ps : List (List Nat)}, c ∈ joinL S ps → c ∈ S ∨ ∃ p ∈ ps, c ∈ p
  | [], h => by cases h
  | [p], h => .inr ⟨p, List.mem_singleton.mpr rfl, h⟩
  | p :: q :: r, h => by
    rcases List.mem_append.mp (show c ∈ p ++ (S ++ joinL S (q :: r)) from h) with h | h
    · exact .inr ⟨p, List.mem_cons_self, h⟩
    · rcases List.mem_append.mp h with h | h
      · exact .inl h
      · rcases joinL_mem h with h | ⟨x, hx, h⟩
        · exact .inl h
        · exact .inr ⟨x, List.mem_cons_of_mem _ hx, h⟩
theorem join_ends : ∀ ps : List (List Nat), joinL [] (ps.map (· ++ [10])) = joinL [10] (ps ++ [[]])
  | [] => rfl
  | [p] => by simp [joinL]
  | p :: q :: r => by
    have ih := join_ends (q :: r)
    show (p ++ [10]) ++ ([] ++ joinL [] ((q :: r).map (· ++ [10]))) = p ++ ([10] ++ joinL [10] ((q :: r) ++ [[]]))
    rw [ih]; simp
theorem split_lines {ls : List Str} (h : ∀ l ∈ ls, 10 ∉ tl l) : Txt.split (Txt.join "" (ls.map (· ++ ("\n" : Str)))) "\n" = ls ++ [("" : Str)] := by
  have e : Txt.join "" (ls.map (· ++ ("\n" : Str))) = Txt.join "\n" (ls ++ [("" : Str)]) := by
    refine ext_tl ?_
    rw [join_eq, join_eq, tl_join, tl_join, tl_none, tl_feed, List.map_append, List.map_map]
    have := join_ends (ls.map tl)
    rw [List.map_map] at this
    rw [show (tl ∘ fun x : Str => x ++ "\n") = (fun x => x ++ [10]) ∘ tl by funext x; simp only [Function.comp, tl_append, tl_feed]]
    rw [this]
    rfl
  rw [e]
  refine split_join (S := []) tl_feed (by decide +kernel) (by simp) fun p hp => ?_
  rcases List.mem_append.mp hp with hp | hp
  · exact h p hp
  · rw [List.mem_singleton.mp hp, tl_none]; simp
def plainW (z : Str) : Prop := 32 ∉ tl z ∧ 10 ∉ tl z
theorem plain_num (i : Int) : plainW (numS i) := ⟨numS_free (by omega), numS_free (by omega)⟩
theorem plain_row {w : Str} {ns : List Int} (hw : plainW w) : ∀ z ∈ (rowD w ns).map wordS, plainW z := fun z hz => by
  unfold rowD at hz
  simp only [List.map_cons, List.map_map, List.mem_cons, List.mem_map] at hz
  rcases hz with rfl | ⟨i, _, rfl⟩
  · exact hw
  · exact plain_num i
theorem ln_feed {w : Str} {ns : List Int} (hw : plainW w) : 10 ∉ tl (lnS (rowD w ns)) := fun h => by
  unfold lnS at h
  rw [join_eq, tl_join, tl_blank] at h
  rcases joinL_mem h with h | ⟨p, hp, h⟩
  · simp at h
  · obtain ⟨z, hz, rfl⟩ := List.mem_map.mp hp
    exact (plain_row hw z hz).2 h
theorem ln_split {w : Str} {ns : List Int} (hw : plainW w) : Txt.split (lnS (rowD w ns)) " " = w :: ns.map numS := by
  unfold lnS
  rw [split_join (S := []) tl_blank (by decide +kernel) (by simp [rowD]) fun p hp => (plain_row hw p hp).1]
  unfold rowD
  simp only [List.map_cons, List.map_map]
  rfl
theorem nums_back : ∀ {ns : List Int}, (∀ i ∈ ns, small i) → numsOf (ns.map numS) = some ns
  | [], _ => rfl
  | i :: r, h => by
    unfold numsOf
    rw [List.map_cons]
    simp only [numOf_numS (h i List.mem_cons_self), nums_back fun x hx => h x (List.mem_cons_of_mem _ hx)]
    rfl
theorem plain_w (x : Rw) : plainW x.w := by
  cases x with
  | way _ _ => exact (show plainW ("way" : Str) by unfold plainW; decide)
  | like _ _ _ => exact (show plainW ("like" : Str) by unfold plainW; decide)
  | shun _ _ => exact (show plainW ("shun" : Str) by unfold plainW; decide)
  | wish _ _ => exact (show plainW ("wish" : Str) by unfold plainW; decide)
theorem tell_row {s : GS} {x : Rw} (h : ∀ i ∈ x.ns, small i) : tellS s (lnS x.row) = tellW s x.w x.ns := by
  unfold tellS
  rw [show lnS x.row = lnS (rowD x.w x.ns) from rfl, ln_split (plain_w x)]
  simp only [nums_back h, Option.bind_some]
def inN (n : Nat) (x : Int) : Prop := 0 ≤ x ∧ x < n
def Rw.good (n : Nat) : Rw → Prop
  | .way a b => inN n a ∧ inN n b ∧ a ≠ b
  | .like a b r => inN n a ∧ inN n b ∧ small r
  | .shun a b => inN n a ∧ inN n b ∧ a ≠ b
  | .wish l r => (GS.new n).rok l ∧ small r
def Rw.step (s : GS) : Rw → GS
  | .way a b => s.lay a b
  | .like a b r => s.like a b r
  | .shun a b => s.shun a b
  | .wish l r => s.wish l r
def wayL : List Rw → WL
  | [] => []
  | .way a b :: r => (min a b, max a b) :: wayL r
  | _ :: r => wayL r
theorem small_in {n : Nat} {x : Int} (n2 : n ≤ 60) (h : inN n x) : small x := by
  have h1 := h.1
  have h2 := h.2
  show x.natAbs < 10 ^ 60
  omega
theorem good_small {n : Nat} {x : Rw} (n2 : n ≤ 60) (h : x.good n) : ∀ i ∈ x.ns, small i := by
  cases x with
  | way a b => intro i hi; simp only [Rw.ns, List.mem_cons, List.not_mem_nil, or_false] at hi; rcases hi with rfl | rfl; exact small_in n2 h.1; exact small_in n2 h.2.1
  | like a b r => intro i hi; simp only [Rw.ns, List.mem_cons, List.not_mem_nil, or_false] at hi; rcases hi with rfl | rfl | rfl; exact small_in n2 h.1; exact small_in n2 h.2.1; exact h.2.2
  | shun a b => intro i hi; simp only [Rw.ns, List.mem_cons, List.not_mem_nil, or_false] at hi; rcases hi with rfl | rfl; exact small_in n2 h.1; exact small_in n2 h.2.1
  | wish l r =>
    intro i hi
    simp only [Rw.ns, List.mem_cons] at hi
    rcases hi with rfl | hi
    · exact h.2
    · exact small_in n2 (h.1.1 i hi)
theorem tell_good {s : GS} {x : Rw} (n2 : s.n ≤ 60) (h : x.good s.n) (hT : ∀ a b, x = .way a b → s.T a b = false) : tellS s (lnS x.row) = some (x.step s) := by
  rw [tell_row (good_small n2 h)]
  cases x with
  | way a b =>
    have ht := hT a b rfl
    show tellW s "way" [a, b] = some (s.lay a b)
    unfold tellW
    rw [if_pos ⟨rfl, rfl⟩]
    show (if s.ok2 a b ∧ s.T a b = false then _ else _) = _
    rw [if_pos ⟨show s.ok2 a b from h, ht⟩]; rfl
  | like a b r =>
    show tellW s "like" [a, b, r] = some (s.like a b r)
    unfold tellW
    rw [if_neg (fun z => by have := z.2; simp at this), if_pos ⟨rfl, rfl⟩]
    show (if s.ok a ∧ s.ok b then _ else _) = _
    rw [if_pos (show s.ok a ∧ s.ok b from ⟨h.1, h.2.1⟩)]; rfl
  | shun a b =>
    show tellW s "shun" [a, b] = some (s.shun a b)
    unfold tellW
    rw [if_neg (fun z => absurd z.1 (by decide)), if_neg (fun z => by have := z.2; simp at this), if_pos ⟨rfl, rfl⟩]
    show (if s.ok2 a b then _ else _) = _
    rw [if_pos (show s.ok2 a b from h)]; rfl
  | wish l r =>
    show tellW s "wish" (r :: l) = some (s.wish l r)
    unfold tellW
    rw [if_neg (fun z => absurd z.1 (by decide)), if_neg (fun z => absurd z.1 (by decide)), if_neg (fun z => absurd z.1 (by decide)), if_pos ⟨rfl, by simp⟩]
    show (if s.rok l then _ else _) = _
    rw [if_pos (show s.rok l from (rok_n (s' := GS.new s.n) rfl).mpr h.1)]; rfl
theorem step_n (s : GS) (x : Rw) : (x.step s).n = s.n := by cases x <;> rfl
theorem tell_rows : ∀ (xs : List Rw) (s : GS), s.n ≤ 60 → (∀ x ∈ xs, x.good s.n) → (wayL xs).Nodup → (∀ a b, (min a b, max a b) ∈ wayL xs → s.T a b = false) → tellAll s (xs.map fun x : Rw => lnS x.row) = some (xs.foldl Rw.step s)
  | [], s, _, _, _, _ => rfl
  | x :: r, s, n2, hg, hd, hT => by
    have h0 := tell_good (s := s) (x := x) n2 (hg x List.mem_cons_self) fun a b e => hT a b (by rw [e]; exact List.mem_cons_self)
    show (match tellS s (lnS x.row) with | none => none | some s' => tellAll s' (r.map fun x : Rw => lnS x.row)) = _
    rw [h0]
    show tellAll (x.step s) (r.map fun x : Rw => lnS x.row) = some (r.foldl Rw.step (x.step s))
    have hsub : ∀ q, q ∈ wayL r → q ∈ wayL (x :: r) := fun q hq => by
      cases x with
      | way a b => exact List.mem_cons_of_mem _ hq
      | _ => exact hq
    have hdr : (wayL r).Nodup := by
      cases x with
      | way a b => exact (List.nodup_cons.mp hd).2
      | _ => exact hd
    refine tell_rows r _ (by rw [step_n]; exact n2) (fun y hy => by rw [step_n]; exact hg y (List.mem_cons_of_mem _ hy)) hdr fun a b hm => ?_
    have hab := hT a b (hsub _ hm)
    cases x with
    | way u v =>
      have hne := (List.nodup_cons.mp hd).1
      show (s.T a b || (decide (a = u) && decide (b = v)) || (decide (a = v) && decide (b = u))) = false
      rw [hab, Bool.false_or, Bool.or_eq_false_iff]
      constructor
      · rw [Bool.and_eq_false_iff, decide_eq_false_iff_not, decide_eq_false_iff_not]
        by_cases c : a = u
        · right; intro z; subst c z; exact hne hm
        · left; exact c
      · rw [Bool.and_eq_false_iff, decide_eq_false_iff_not, decide_eq_false_iff_not]
        by_cases c : a = v
        · right; intro z; subst c z; exact hne (by rw [Int.min_comm, Int.max_comm]; exact hm)
        · left; exact c
    | like _ _ _ => exact hab
    | shun _ _ => exact hab
    | wish _ _ => exact hab

end DL
namespace DL
open PySem L2
open TL PySem.NumText
def shunL : List Rw → WL
  | [] => []
  | .shun a b :: r => (a, b) :: shunL r
  | _ :: r => shunL r
def lastF (x y : Int) : List Rw → Option Int
  | [] => none
  | .like a b k :: r => match lastF x y r with
    | some v => some v
    | none => if x = a ∧ y = b then some k else none
  | _ :: r => lastF x y r
def lastL (q : List Int) : List Rw → Option Int
  | [] => none
  | .wish l k :: r => match lastL q r with
    | some v => some v
    | none => if q = l then some k else none
  | _ :: r => lastL q r
theorem fold_n : ∀ (xs : List Rw) (s : GS), (xs.foldl Rw.step s).n = s.n
  | [], _ => rfl
  | x :: r, s => by rw [List.foldl_cons, fold_n r]; exact step_n s x
theorem pair_way (x y u v : Int) : decide ((min x y, max x y) = (min u v, max u v)) = ((decide (x = u) && decide (y = v)) || (decide (x = v) && decide (y = u))) := by
  rw [Bool.eq_iff_iff]
  simp only [decide_eq_true_eq, Prod.mk.injEq, Bool.or_eq_true, Bool.and_eq_true]
  omega
theorem fold_T : ∀ (xs : List Rw) (s : GS) (x y : Int), (xs.foldl Rw.step s).T x y = (s.T x y || decide ((min x y, max x y) ∈ wayL xs))
  | [], s, x, y => by simp [wayL]
  | c :: r, s, x, y => by
    rw [List.foldl_cons, fold_T r]
    cases c with
    | way u v =>
      show ((s.T x y || (decide (x = u) && decide (y = v)) || (decide (x = v) && decide (y = u))) || _) = (s.T x y || decide ((min x y, max x y) ∈ (min u v, max u v) :: wayL r))
      have e : decide ((min x y, max x y) ∈ (min u v, max u v) :: wayL r) = (decide ((min x y, max x y) = (min u v, max u v)) || decide ((min x y, max x y) ∈ wayL r)) := by
        rw [Bool.eq_iff_iff]; simp only [List.mem_cons, decide_eq_true_eq, Bool.or_eq_true]
      rw [e, pair_way, Bool.or_assoc, Bool.or_assoc, Bool.or_assoc]
    | like _ _ _ => rfl
    | shun _ _ => rfl
    | wish _ _ => rfl
theorem fold_H : ∀ (xs : List Rw) (s : GS) (x y : Int), (xs.foldl Rw.step s).H x y = (s.H x y || decide ((x, y) ∈ shunL xs))
  | [], s, x, y => by simp [shunL]
  | c :: r, s, x, y => by
    rw [List.foldl_cons, fold_H r]
    cases c with
    | shun u v =>
      show ((s.H x y || (decide (x = u) && decide (y = v))) || _) = (s.H x y || decide ((x, y) ∈ (u, v) :: shunL r))
      rw [Bool.or_assoc]
      congr 1
      rw [Bool.eq_iff_iff]
      simp only [List.mem_cons, decide_eq_true_eq, Bool.or_eq_true, Bool.and_eq_true, Prod.mk.injEq]
    | like _ _ _ => rfl
    | way _ _ => rfl
    | wish _ _ => rfl
theorem fold_F : ∀ (xs : List Rw) (s : GS) (x y : Int), (xs.foldl Rw.step s).F x y = (lastF x y xs).getD (s.F x y)
  | [], s, x, y => rfl
  | c :: r, s, x, y => by
    rw [List.foldl_cons, fold_F r]
    cases c with
    | like u v k =>
      show (lastF x y r).getD (if x = u ∧ y = v then k else s.F x y) = (match lastF x y r with | some v => some v | none => if x = u ∧ y = v then some k else none).getD (s.F x y)
      cases lastF x y r with
      | some v => rfl
      | none =>
        by_cases h : x = u ∧ y = v
        · simp [h]
        · simp [h]
    | shun _ _ => rfl
    | way _ _ => rfl
    | wish _ _ => rfl
theorem fold_L : ∀ (xs : List Rw) (s : GS) (q : List Int), kget (xs.foldl Rw.step s).L q = (lastL q xs).or (kget s.L q)
  | [], s, q => rfl
  | c :: r, s, q => by
    rw [List.foldl_cons, fold_L r]
    cases c with
    | wish l k =>
      show (lastL q r).or (kget (kput s.L l k) q) = (match lastL q r with | some v => some v | none => if q = l then some k else none).or (kget s.L q)
      rw [kget_put]
      cases lastL q r with
      | some v => rfl
      | none =>
        by_cases h : q = l
        · simp [h]
        · simp [h]
    | shun _ _ => rfl
    | way _ _ => rfl
    | like _ _ _ => rfl
theorem fold_nodup : ∀ (xs : List Rw) (s : GS), (s.L.map (·.1)).Nodup → ((xs.foldl Rw.step s).L.map (·.1)).Nodup
  | [], s, h => h
  | c :: r, s, h => by
    rw [List.foldl_cons]
    refine fold_nodup r _ ?_
    cases c with
    | wish l k => exact kput_nodup l k h
    | shun _ _ => exact h
    | way _ _ => exact h
    | like _ _ _ => exact h
theorem kget_none {L : KL} {k : List Int} : kget L k = none ↔ k ∉ L.map (·.1) := by
  constructor
  · intro h hm
    obtain ⟨v, e⟩ := kget_some hm
    rw [h] at e; cases e
  · intro h
    cases e : kget L k with
    | none => rfl
    | some v =>
      exfalso
      unfold kget at e
      cases e2 : L.find? fun p => decide (p.1 = k) with
      | none => rw [e2] at e; cases e
      | some p => exact h (List.mem_map.mpr ⟨p, List.mem_of_find?_eq_some e2, by simpa using List.find?_some e2⟩)
theorem wishes_same {L M : KL} (hL : (L.map (·.1)).Nodup) (hM : (M.map (·.1)).Nodup) (h : ∀ k, kget L k = kget M k) : wishesOf L = wishesOf M := by
  have hk : sortK (L.map (·.1)) = sortK (M.map (·.1)) := by
    refine sortedK_uniq ((sortK_perm _).trans (((List.perm_ext_iff_of_nodup hL hM).mpr fun k => ?_).trans (sortK_perm _).symm)) (sortK_sorted _) (sortK_sorted _)
    have := h k
    rw [← Decidable.not_iff_not, ← kget_none, ← kget_none, this]
  unfold wishesOf
  rw [hk]
  exact List.map_congr_left fun k _ => by rw [h k]
structure Agree (s t : GS) : Prop where
  n : s.n = t.n
  T : ∀ x y : Int, 0 ≤ x → x < t.n → 0 ≤ y → y < t.n → s.T x y = t.T x y
  H : ∀ x y : Int, 0 ≤ x → x < t.n → 0 ≤ y → y < t.n → s.H x y = t.H x y
  F : ∀ x y : Int, 0 ≤ x → x < t.n → 0 ≤ y → y < t.n → s.F x y = t.F x y
  L : wishesOf s.L = wishesOf t.L
theorem Agree.refl (s : GS) : Agree s s := ⟨rfl, fun _ _ _ _ _ _ => rfl, fun _ _ _ _ _ _ => rfl, fun _ _ _ _ _ _ => rfl, rfl⟩
theorem Agree.symm {s t : GS} (h : Agree s t) : Agree t s := ⟨h.n.symm, fun x y a b c d => (h.T x y a (by rw [← h.n]; exact b) c (by rw [← h.n]; exact d)).symm, fun x y a b c d => (h.H x y a (by rw [← h.n]; exact b) c (by rw [← h.n]; exact d)).symm, fun x y a b c d => (h.F x y a (by rw [← h.n]; exact b) c (by rw [← h.n]; exact d)).symm, h.L.symm⟩
theorem Agree.trans {s t u : GS} (h : Agree s t) (k : Agree t u) : Agree s u := ⟨h.n.trans k.n, fun x y a b c d => (h.T x y a (by rw [k.n]; exact b) c (by rw [k.n]; exact d)).trans (k.T x y a b c d), fun x y a b c d => (h.H x y a (by rw [k.n]; exact b) c (by rw [k.n]; exact d)).trans (k.H x y a b c d), fun x y a b c d => (h.F x y a (by rw [k.n]; exact b) c (by rw [k.n]; exact d)).trans (k.F x y a b c d), h.L.trans k.L⟩
theorem lexP_congr {n : Nat} {R R' : Int → Int → Bool} (h : ∀ x y : Int, 0 ≤ x → x < n → 0 ≤ y → y < n → R x y = R' x y) : lexP n R = lexP n R' := by
  unfold lexP lexK
  simp only [List.flatMap_def]
  congr 1
  refine List.map_congr_left fun i hi => ?_
  have hi2 := List.mem_range.mp hi
  rw [nb_congr fun y h0 h1 => h i y (by omega) (by omega) h0 h1]
theorem rows_agree {s t : GS} (h : Agree s t) : rowsT s = rowsT t := by
  unfold rowsT
  rw [h.n, h.L]
  have e1 : lexP t.n (ltR s.T) = lexP t.n (ltR t.T) := lexP_congr fun x y a b c d => by unfold ltR; rw [h.T x y a b c d]
  have e2 : lexP t.n (nzR s.F) = lexP t.n (nzR t.F) := lexP_congr fun x y a b c d => by unfold nzR; rw [h.F x y a b c d]
  have e3 : lexP t.n s.H = lexP t.n t.H := lexP_congr fun x y a b c d => h.H x y a b c d
  have e4 : (lexP t.n (nzR t.F)).map (likeRow s.F) = (lexP t.n (nzR t.F)).map (likeRow t.F) := List.map_congr_left fun p hp => by
    have hm := lexK_mem.mp hp
    unfold likeRow
    rw [h.F p.1 p.2 hm.1.1 hm.1.2 hm.2.1.1 hm.2.1.2]
  rw [e1, e2, e3, e4]
theorem text_agree {s t : GS} (h : Agree s t) : textOf s = textOf t := by unfold textOf; rw [rows_agree h]
structure Wr (s : GS) : Prop where
  t : TxtOk s
  n1 : 1 ≤ s.n
  n2 : s.n ≤ 60
  sy : symT s
  ti : ∀ x, s.T x x = false
  hi : ∀ x, s.H x x = false
  d : (s.L.map (·.1)).Nodup
def rowsR (s : GS) : List Rw := (lexP s.n (ltR s.T)).map (fun p => .way p.1 p.2) ++ (lexP s.n (nzR s.F)).map (fun p => .like p.1 p.2 (s.F p.1 p.2)) ++ (lexP s.n s.H).map (fun p => .shun p.1 p.2) ++ (wishesOf s.L).map (fun p => .wish p.1 p.2)
theorem body_rows (s : GS) : bodyT s = (rowsR s).map Rw.row := by
  unfold bodyT rowsR
  simp only [List.map_append, List.map_map]
  rfl
theorem wayL_app : ∀ xs ys : List Rw, wayL (xs ++ ys) = wayL xs ++ wayL ys
  | [], ys => rfl
  | x :: r, ys => by cases x <;> simp only [List.cons_append, wayL, wayL_app r ys]
theorem shunL_app : ∀ xs ys : List Rw, shunL (xs ++ ys) = shunL xs ++ shunL ys
  | [], ys => rfl
  | x :: r, ys => by cases x <;> simp only [List.cons_append, shunL, shunL_app r ys]
theorem lastF_app (x y : Int) : ∀ xs ys : List Rw, lastF x y (xs ++ ys) = (lastF x y ys).or (lastF x y xs)
  | [], ys => by simp [lastF]
  | c :: r, ys => by
    have ih := lastF_app x y r ys
    cases c with
    | like a b k =>
      simp only [List.cons_append, lastF, ih]
      cases lastF x y ys with
      | some v => rfl
      | none => simp
    | shun _ _ => exact ih
    | way _ _ => exact ih
    | wish _ _ => exact ih
theorem lastL_app (q : List Int) : ∀ xs ys : List Rw, lastL q (xs ++ ys) = (lastL q ys).or (lastL q xs)
  | [], ys => by simp [lastL]
  | c :: r, ys => by
    have ih := lastL_app q r ys
    cases c with
    | wish l k =>
      simp only [List.cons_append, lastL, ih]
      cases lastL q ys with
      | some v => rfl
      | none => simp
    | shun _ _ => exact ih
    | way _ _ => exact ih
    | like _ _ _ => exact ih
section
variable {α : Type} (l : List α)
theorem wayL_like (f : α → Int × Int × Int) : wayL (l.map fun p => .like (f p).1 (f p).2.1 (f p).2.2) = [] := by induction l with | nil => rfl | cons x l ih => exact ih
theorem wayL_shun (f : α → Int × Int) : wayL (l.map fun p => .shun (f p).1 (f p).2) = [] := by induction l with | nil => rfl | cons x l ih => exact ih
theorem wayL_wish (f : α → List Int × Int) : wayL (l.map fun p => .wish (f p).1 (f p).2) = [] := by induction l with | nil => rfl | cons x l ih => exact ih
theorem shunL_way (f : α → Int × Int) : shunL (l.map fun p => .way (f p).1 (f p).2) = [] := by induction l with | nil => rfl | cons x l ih => exact ih
theorem shunL_like (f : α → Int × Int × Int) : shunL (l.map fun p => .like (f p).1 (f p).2.1 (f p).2.2) = [] := by induction l with | nil => rfl | cons x l ih => exact ih
theorem shunL_wish (f : α → List Int × Int) : shunL (l.map fun p => .wish (f p).1 (f p).2) = [] := by induction l with | nil => rfl | cons x l ih => exact ih
theorem lastF_way (x y : Int) (f : α → Int × Int) : lastF x y (l.map fun p => .way (f p).1 (f p).2) = none := by induction l with | nil => rfl | cons x l ih => exact ih
theorem lastF_shun (x y : Int) (f : α → Int × Int) : lastF x y (l.map fun p => .shun (f p).1 (f p).2) = none := by induction l with | nil => rfl | cons x l ih => exact ih
theorem lastF_wish (x y : Int) (f : α → List Int × Int) : lastF x y (l.map fun p => .wish (f p).1 (f p).2) = none := by induction l with | nil => rfl | cons x l ih => exact ih
theorem lastL_way (q : List Int) (f : α → Int × Int) : lastL q (l.map fun p => .way (f p).1 (f p).2) = none := by induction l with | nil => rfl | cons x l ih => exact ih
theorem lastL_shun (q : List Int) (f : α → Int × Int) : lastL q (l.map fun p => .shun (f p).1 (f p).2) = none := by induction l with | nil => rfl | cons x l ih => exact ih
theorem lastL_like (q : List Int) (f : α → Int × Int × Int) : lastL q (l.map fun p => .like (f p).1 (f p).2.1 (f p).2.2) = none := by induction l with | nil => rfl | cons x l ih => exact ih
end
theorem shunL_map : ∀ l : WL, shunL (l.map fun p => .shun p.1 p.2) = l
  | [] => rfl
  | p :: l => by simp only [List.map_cons, shunL, shunL_map l]
theorem wayL_map : ∀ l : WL, (∀ p ∈ l, p.1 < p.2) → wayL (l.map fun p => .way p.1 p.2) = l
  | [], _ => rfl
  | p :: l, h => by
    have h0 := h p List.mem_cons_self
    simp only [List.map_cons, wayL, wayL_map l fun q hq => h q (List.mem_cons_of_mem _ hq)]
    rw [Int.min_eq_left (by omega), Int.max_eq_right (by omega)]
theorem lastF_map (x y : Int) (f : Int × Int → Int) : ∀ l : WL, lastF x y (l.map fun p => .like p.1 p.2 (f p)) = if (x, y) ∈ l then some (f (x, y)) else none
  | [] => rfl
  | p :: l => by
    simp only [List.map_cons, lastF, lastF_map x y f l]
    by_cases h : (x, y) ∈ l
    · rw [if_pos h, if_pos (List.mem_cons_of_mem _ h)]
    · rw [if_neg h]
      by_cases h2 : x = p.1 ∧ y = p.2
      · obtain ⟨a, b⟩ := p
        dsimp only at h2
        rw [h2.1, h2.2]
        simp
      · have : ¬ (x, y) ∈ p :: l := fun z => by
          rcases List.mem_cons.mp z with z | z
          · exact h2 (by rw [← z]; exact ⟨rfl, rfl⟩)
          · exact h z
        rw [if_neg this]
        exact if_neg h2
theorem lastL_map (q : List Int) : ∀ L : KL, (L.map (·.1)).Nodup → lastL q (L.map fun p => .wish p.1 p.2) = kget L q
  | [], _ => rfl
  | p :: L, h => by
    rw [List.map_cons, List.nodup_cons] at h
    simp only [List.map_cons, lastL, lastL_map q L h.2]
    by_cases e : p.1 = q
    · have hn : kget L q = none := kget_none.mpr (by rw [← e]; exact h.1)
      rw [hn]
      have : kget (p :: L) q = some p.2 := by unfold kget; rw [List.find?_cons]; simp [e]
      rw [this]
      simp [e]
    · have : kget (p :: L) q = kget L q := by unfold kget; rw [List.find?_cons]; simp [e]
      rw [this]
      cases kget L q with
      | some v => rfl
      | none => exact if_neg fun z => e z.symm
theorem wishesOf_keys (L : KL) : (wishesOf L).map (·.1) = sortK (L.map (·.1)) := by
  unfold wishesOf; rw [List.map_map]; exact List.map_id' _
theorem kget_wishes {L : KL} (h : (L.map (·.1)).Nodup) (q : List Int) : kget (wishesOf L) q = kget L q := by
  have hd : ((wishesOf L).map (·.1)).Nodup := by rw [wishesOf_keys]; exact (sortK_perm _).nodup_iff.mpr h
  by_cases c : q ∈ L.map (·.1)
  · obtain ⟨v, e⟩ := kget_some c
    have c2 : q ∈ (wishesOf L).map (·.1) := by rw [wishesOf_keys]; exact (sortK_perm _).mem_iff.mpr c
    obtain ⟨u, e2⟩ := kget_some c2
    rw [e2, e]
    unfold kget at e2
    cases e3 : (wishesOf L).find? fun p => decide (p.1 = q) with
    | none => rw [e3] at e2; cases e2
    | some p =>
      rw [e3] at e2
      have hp := List.mem_of_find?_eq_some e3
      have hq : p.1 = q := by simpa using List.find?_some e3
      unfold wishesOf at hp
      obtain ⟨k, _, rfl⟩ := List.mem_map.mp hp
      dsimp only at hq e2
      subst hq
      rw [e] at e2
      simpa using e2.symm
  · rw [kget_none.mpr c, kget_none.mpr (by rw [wishesOf_keys]; exact fun z => c ((sortK_perm _).mem_iff.mp z))]
theorem lexP_nodup (n : Nat) (R : Int → Int → Bool) : (lexP n R).Nodup := (lexK_pw n R n).imp fun h z => by rw [z] at h; exact List.lt_irrefl _ h
theorem rows_read {s : GS} (h : Wr s) : tellAll (GS.new s.n) ((rowsR s).map fun x : Rw => lnS x.row) = some ((rowsR s).foldl Rw.step (GS.new s.n)) ∧ Agree ((rowsR s).foldl Rw.step (GS.new s.n)) s := by
  have hlt : ∀ p ∈ lexP s.n (ltR s.T), p.1 < p.2 ∧ s.T p.1 p.2 = true := fun p hp => by
    have := (lexK_mem.mp hp).2.2
    unfold ltR at this
    simpa [Bool.and_eq_true] using this
  have hways : wayL (rowsR s) = lexP s.n (ltR s.T) := by
    unfold rowsR
    rw [wayL_app, wayL_app, wayL_app, wayL_map _ fun p hp => (hlt p hp).1]
    rw [wayL_like (lexP s.n (nzR s.F)) fun p => (p.1, p.2, s.F p.1 p.2), wayL_shun (lexP s.n s.H) fun p => p, wayL_wish (wishesOf s.L) fun p => p]
    simp
  have hshuns : shunL (rowsR s) = lexP s.n s.H := by
    unfold rowsR
    rw [shunL_app, shunL_app, shunL_app, shunL_map]
    rw [shunL_way (lexP s.n (ltR s.T)) fun p => p, shunL_like (lexP s.n (nzR s.F)) fun p => (p.1, p.2, s.F p.1 p.2), shunL_wish (wishesOf s.L) fun p => p]
    simp
  have hF : ∀ x y, lastF x y (rowsR s) = if (x, y) ∈ lexP s.n (nzR s.F) then some (s.F x y) else none := fun x y => by
    unfold rowsR
    rw [lastF_app, lastF_app, lastF_app, lastF_map x y fun p => s.F p.1 p.2]
    rw [lastF_way (lexP s.n (ltR s.T)) x y fun p => p, lastF_shun (lexP s.n s.H) x y fun p => p, lastF_wish (wishesOf s.L) x y fun p => p]
    simp
  have hd2 : ((wishesOf s.L).map (·.1)).Nodup := by rw [wishesOf_keys]; exact (sortK_perm _).nodup_iff.mpr h.d
  have hL : ∀ q, lastL q (rowsR s) = kget s.L q := fun q => by
    unfold rowsR
    rw [lastL_app, lastL_app, lastL_app, lastL_map q _ hd2, kget_wishes h.d]
    rw [lastL_way (lexP s.n (ltR s.T)) q fun p => p, lastL_shun (lexP s.n s.H) q fun p => p, lastL_like (lexP s.n (nzR s.F)) q fun p => (p.1, p.2, s.F p.1 p.2)]
    simp
  constructor
  · refine tell_rows _ _ h.n2 (fun x hx => ?_) (by rw [hways]; exact lexP_nodup _ _) fun a b _ => rfl
    unfold rowsR at hx
    simp only [List.mem_append, List.mem_map] at hx
    rcases hx with ((⟨p, hp, rfl⟩ | ⟨p, hp, rfl⟩) | ⟨p, hp, rfl⟩) | ⟨p, hp, rfl⟩
    · have hm := lexK_mem.mp hp
      have := hlt p hp
      exact ⟨hm.1, hm.2.1, by omega⟩
    · have hm := lexK_mem.mp hp
      exact ⟨hm.1, hm.2.1, h.t.f _ _ hm.1 hm.2.1⟩
    · have hm := lexK_mem.mp hp
      refine ⟨hm.1, hm.2.1, fun e => ?_⟩
      have := hm.2.2
      rw [e, h.hi] at this; cases this
    · have hm := wish_at h.t hp
      exact ⟨(rok_n (s' := GS.new s.n) rfl).mp hm.1, hm.2⟩
  · refine ⟨fold_n _ _, fun x y a b c d => ?_, fun x y a b c d => ?_, fun x y a b c d => ?_, ?_⟩
    · rw [fold_T, hways]
      show (false || _) = _
      rw [Bool.false_or]
      have e : ((min x y, max x y) ∈ lexP s.n (ltR s.T)) ↔ s.T x y = true := by
        show _ ∈ lexK _ _ _ ↔ _
        rw [lexK_mem]
        unfold ltR
        rw [Bool.and_eq_true, decide_eq_true_eq]
        dsimp only
        rcases Int.lt_trichotomy x y with c1 | c1 | c1
        · rw [Int.min_eq_left (by omega), Int.max_eq_right (by omega)]
          exact ⟨fun z => z.2.2.2, fun z => ⟨⟨a, b⟩, ⟨c, d⟩, c1, z⟩⟩
        · subst c1
          rw [h.ti]
          exact ⟨fun z => by have := z.2.2.1; omega, fun z => by cases z⟩
        · rw [Int.min_eq_right (by omega), Int.max_eq_left (by omega), h.sy x y]
          exact ⟨fun z => z.2.2.2, fun z => ⟨⟨c, d⟩, ⟨a, b⟩, c1, z⟩⟩
      cases e2 : s.T x y with
      | true => exact decide_eq_true (e.mpr e2)
      | false => exact decide_eq_false fun z => by rw [e.mp z] at e2; cases e2
    · rw [fold_H, hshuns]
      show (false || _) = _
      rw [Bool.false_or]
      cases e2 : s.H x y with
      | true => exact decide_eq_true (lexK_mem.mpr ⟨⟨a, b⟩, ⟨c, d⟩, e2⟩)
      | false => exact decide_eq_false fun z => by have := (lexK_mem.mp z).2.2; dsimp only at this; rw [this] at e2; cases e2
    · rw [fold_F, hF]
      by_cases e2 : s.F x y = 0
      · rw [if_neg fun z => by have := (lexK_mem.mp z).2.2; unfold nzR at this; exact (of_decide_eq_true this) e2, e2]; rfl
      · rw [if_pos (show (x, y) ∈ lexP s.n (nzR s.F) from lexK_mem.mpr ⟨⟨a, b⟩, ⟨c, d⟩, decide_eq_true e2⟩)]; rfl
    · refine wishes_same (fold_nodup _ _ List.nodup_nil) h.d fun k => ?_
      rw [fold_L, hL]
      show (kget s.L k).or none = _
      simp
theorem tl_houses : plainW ("houses" : Str) := by unfold plainW; decide
def textW (n : Nat) (rows : List (List D)) : Str := Txt.join "" ((headRow n :: rows).map lineS)
theorem text_W (s : GS) : textOf s = textW s.n (bodyT s) := by unfold textOf textW; rw [rows_body]
theorem lines_W (n : Nat) (xs : List Rw) : linesIn (textW n (xs.map Rw.row)) = (lnS (headRow n) :: xs.map fun x : Rw => lnS x.row) ++ [("" : Str)] := by
  unfold linesIn textW
  have e : (headRow n :: xs.map Rw.row).map lineS = (lnS (headRow n) :: xs.map fun x : Rw => lnS x.row).map (· ++ ("\n" : Str)) := by
    rw [List.map_cons, List.map_cons, List.map_map, List.map_map]
    rfl
  rw [e]
  refine split_lines fun l hl => ?_
  rcases List.mem_cons.mp hl with rfl | hl
  · exact ln_feed (w := "houses") (ns := [(n : Int)]) tl_houses
  · obtain ⟨x, _, rfl⟩ := List.mem_map.mp hl
    exact ln_feed (plain_w x)
theorem readS_eq (z : Str) : readS z = (if (linesIn z).length < 2 ∨ (linesIn z).getLast? ≠ some ("" : Str) then none else if (Txt.split ((linesIn z).getD 0 "") " ").length ≠ 2 ∨ (Txt.split ((linesIn z).getD 0 "") " ").getD 0 "" ≠ "houses" then none else
    match numOf ((Txt.split ((linesIn z).getD 0 "") " ").getD 1 "") with
    | none => none
    | some n => if 1 ≤ n ∧ n ≤ 60 then tellAll (GS.new n.toNat) (((linesIn z).drop 1).dropLast) else none) := rfl
theorem textW_read {n : Nat} (n1 : 1 ≤ n) (n2 : n ≤ 60) (xs : List Rw) : readS (textW n (xs.map Rw.row)) = tellAll (GS.new n) (xs.map fun x : Rw => lnS x.row) := by
  have hl := lines_W n xs
  rw [readS_eq, hl]
  have e1 : ¬ (((lnS (headRow n) :: xs.map fun x : Rw => lnS x.row) ++ [("" : Str)]).length < 2 ∨ ((lnS (headRow n) :: xs.map fun x : Rw => lnS x.row) ++ [("" : Str)]).getLast? ≠ some ("" : Str)) := by
    rintro (h | h)
    · simp only [List.length_append, List.length_cons, List.length_nil] at h; omega
    · exact h (by rw [List.getLast?_append]; rfl)
  have e2 : ((lnS (headRow n) :: xs.map fun x : Rw => lnS x.row) ++ [("" : Str)]).getD 0 ("" : Str) = lnS (headRow n) := rfl
  have e3 : (((lnS (headRow n) :: xs.map fun x : Rw => lnS x.row) ++ [("" : Str)]).drop 1).dropLast = xs.map fun x : Rw => lnS x.row := by
    rw [List.cons_append, List.drop_succ_cons, List.drop_zero, List.dropLast_concat]
  have e4 : Txt.split (lnS (headRow n)) " " = [("houses" : Str), numS n] := ln_split (w := "houses") (ns := [(n : Int)]) tl_houses
  rw [if_neg e1, e2, e3, e4, if_neg (by rintro (h | h); exact h rfl; exact h rfl)]
  have e5 : numOf (([("houses" : Str), numS n]).getD 1 "") = some (n : Int) := numOf_numS (by show Int.natAbs (n : Int) < _; omega)
  rw [e5]
  show (if 1 ≤ (n : Int) ∧ (n : Int) ≤ 60 then _ else _) = _
  rw [if_pos ⟨by omega, by omega⟩, Int.toNat_natCast]
theorem kget_of {L : KL} (h : (L.map (·.1)).Nodup) {p : List Int × Int} (hp : p ∈ L) : kget L p.1 = some p.2 := by
  induction L with
  | nil => cases hp
  | cons c L ih =>
    rw [List.map_cons, List.nodup_cons] at h
    rcases List.mem_cons.mp hp with rfl | hp
    · unfold kget; rw [List.find?_cons]; simp
    · have hne : ¬ c.1 = p.1 := fun e => h.1 (by rw [e]; exact List.mem_map.mpr ⟨p, hp, rfl⟩)
      have := ih h.2 hp
      unfold kget at this ⊢
      rw [List.find?_cons]
      simp only [hne, decide_false]
      exact this
theorem txt_agree {s t : GS} (h : Agree s t) (hd : (s.L.map (·.1)).Nodup) (ht : TxtOk t) : TxtOk s := by
  refine ⟨fun x y hx hy => ?_, fun p hp => ?_, by rw [← wishes_len, h.L, wishes_len]; exact ht.l⟩
  · have hx2 : t.ok x := ⟨hx.1, by rw [← h.n]; exact hx.2⟩
    have hy2 : t.ok y := ⟨hy.1, by rw [← h.n]; exact hy.2⟩
    rw [h.F x y hx2.1 hx2.2 hy2.1 hy2.2]
    exact ht.f x y hx2 hy2
  · have hm : p ∈ wishesOf s.L := by
      unfold wishesOf
      refine List.mem_map.mpr ⟨p.1, (sortK_perm _).mem_iff.mpr (List.mem_map.mpr ⟨p, hp, rfl⟩), ?_⟩
      rw [kget_of hd hp]; rfl
    rw [h.L] at hm
    have := wish_at ht hm
    exact ⟨(rok_n h.n).mpr this.1, this.2⟩
theorem rok_ne {s : GS} {l : List Int} (h : s.rok l) : l ≠ [] := fun z => by have := h.2.1; rw [z] at this; simp at this
theorem BookOk.wr {n : Nat} {wl : WL} {fl dl : KL} {sl : WL} (b : BookOk n wl fl dl sl) : Wr (gOf n wl fl dl sl) :=
  ⟨b.txt, b.n1, b.n2, fun x y => relW_sym wl x y, fun x => by
    show relW wl x x = false
    unfold relW
    refine decide_eq_false fun z => ?_
    have := b.w.k _ z
    dsimp only at this
    omega, fun x => by
    show decide ((x, x) ∈ sl) = false
    refine decide_eq_false fun z => ?_
    exact (b.s.o.k _ z).2.2 rfl, b.d.o.d⟩
theorem text_read {s : GS} (h : Wr s) : ∃ s', readS (textOf s) = some s' ∧ Agree s' s ∧ TxtOk s' := by
  obtain ⟨h1, h2⟩ := rows_read h
  refine ⟨_, ?_, h2, txt_agree h2 (fold_nodup _ _ List.nodup_nil) h.t⟩
  rw [text_W, body_rows, textW_read h.n1 h.n2]
  exact h1
theorem strOk_num (i : Int) : PyData.strOk (numS i) = true := strOk_iff.mpr fun c hc => by rcases numS_signs i c hc with e | e <;> omega
theorem strOk_app {x y : Str} (hx : PyData.strOk x = true) (hy : PyData.strOk y = true) : PyData.strOk (x ++ y) = true := strOk_iff.mpr fun c hc => by
  rw [tl_append] at hc
  rcases List.mem_append.mp hc with h | h
  · exact strOk_iff.mp hx c h
  · exact strOk_iff.mp hy c h
theorem strOk_join {y : Str} (hy : PyData.strOk y = true) {ps : List Str} (h : ∀ p ∈ ps, PyData.strOk p = true) : PyData.strOk (Txt.join y ps) = true := strOk_iff.mpr fun c hc => by
  rw [join_eq, tl_join] at hc
  rcases joinL_mem hc with h1 | ⟨p, hp, h1⟩
  · exact strOk_iff.mp hy c h1
  · obtain ⟨z, hz, rfl⟩ := List.mem_map.mp hp
    exact strOk_iff.mp (h z hz) c h1
theorem strOk_line {w : Str} {ns : List Int} (hw : PyData.strOk w = true) : PyData.strOk (lineS (rowD w ns)) = true := by
  refine strOk_app (strOk_join (by decide +kernel) fun p hp => ?_) (by decide +kernel)
  unfold rowD at hp
  simp only [List.map_cons, List.map_map, List.mem_cons, List.mem_map] at hp
  rcases hp with rfl | ⟨i, _, rfl⟩
  · exact hw
  · exact strOk_num i
theorem strOk_w (x : Rw) : PyData.strOk x.w = true := by
  cases x with
  | way _ _ => exact (show PyData.strOk ("way" : Str) = true by decide +kernel)
  | like _ _ _ => exact (show PyData.strOk ("like" : Str) = true by decide +kernel)
  | shun _ _ => exact (show PyData.strOk ("shun" : Str) = true by decide +kernel)
  | wish _ _ => exact (show PyData.strOk ("wish" : Str) = true by decide +kernel)
theorem strOk_textW (n : Nat) (xs : List Rw) : PyData.strOk (textW n (xs.map Rw.row)) = true := by
  refine strOk_join (by decide +kernel) fun p hp => ?_
  obtain ⟨r, hr, rfl⟩ := List.mem_map.mp hp
  rcases List.mem_cons.mp hr with rfl | hr
  · exact strOk_line (w := "houses") (ns := [(n : Int)]) (by decide +kernel)
  · obtain ⟨x, _, rfl⟩ := List.mem_map.mp hr
    exact strOk_line (strOk_w x)
structure Rdbl (z : Str) : Prop where
  ok : PyData.strOk z = true
  l : z.length + 2 ≤ sizeLine
  ll : ∀ x ∈ linesIn z, x.length ≤ 4000
  ln : (linesIn z).length ≤ 800000
theorem text_len {s : GS} (h : TxtOk s) (n2 : s.n ≤ 60) : (textOf s).length ≤ 9000000 := by
  have h1 := join_len (a := "") ((rowsT s).map lineS)
  have h2 := text_sum h n2
  have e0 : ("" : Str).length = 0 := by decide
  rw [e0, Nat.mul_zero] at h1
  exact Nat.le_trans h1 h2
theorem text_rdbl {s : GS} (h : Wr s) : Rdbl (textOf s) := by
  have hs : sizeLine = 2 ^ 24 := rfl
  have hl := text_len h.t h.n2
  have hrl := rowsT_len h.t h.n2
  have hro := rows_ok h.t h.n2
  have hlines : linesIn (textOf s) = (rowsT s).map lnS ++ [("" : Str)] := by
    rw [text_W, body_rows, lines_W, rows_body, body_rows, List.map_cons, List.map_map]; rfl
  refine ⟨by rw [text_W, body_rows]; exact strOk_textW _ _, by omega, fun x hx => ?_, by rw [hlines, List.length_append, List.length_map, List.length_singleton]; omega⟩
  rw [hlines] at hx
  rcases List.mem_append.mp hx with hx | hx
  · obtain ⟨r, hr, rfl⟩ := List.mem_map.mp hx
    have h1 := lineS_len (hro r hr).1
    have h2 := (hro r hr).2
    rw [line_ln, len_tl, tl_append, List.length_append, ← len_tl] at h1
    have : r.length * 62 ≤ 62 * 62 := Nat.mul_le_mul_right _ h2
    omega
  · rw [List.mem_singleton.mp hx]
    exact Nat.zero_le _
theorem x_read {a : CA} {z : Str} {s : GS} {S : Sto} {P : D → Sto → Prop} {E : Addr → Sto → Prop} (h : Rdbl z) (e : readS z = some s) (q : ∀ (A : GA) (S' : Sto), GAt a S' A s 800000 → FreshG S S' A → P (.ref A.g) S') : sp_read a [.str z] S P E :=
  ⟨z, rfl, h.ok, h.l, h.ll, h.ln, fun s' e' A S' g f => q A S' (by rw [e] at e'; cases e'; exact g.more h.ln) f, fun z => by rw [e] at z; cases z⟩
theorem x_read_bad {a : CA} {z : Str} {S : Sto} {P : D → Sto → Prop} {E : Addr → Sto → Prop} (h : Rdbl z) (e : readS z = none) (q : E a.BadNote S) : sp_read a [.str z] S P E :=
  ⟨z, rfl, h.ok, h.l, h.ll, h.ln, (fun s' e' => by rw [e] at e'; cases e'), fun _ => q⟩

end DL
namespace DL
open PySem L2
open TL PySem.NumText
def bad2 (a b : Int) : Bool := decide (¬ ((0 ≤ a ∧ a < 60) ∧ (0 ≤ b ∧ b < 60) ∧ a ≠ b))
def badW (w : Str) (ns : List Int) : Bool :=
  if w = "way" ∧ ns.length = 2 then bad2 (ns.getD 0 0) (ns.getD 1 0)
  else if w = "like" ∧ ns.length = 3 then decide (¬ ((0 ≤ ns.getD 0 0 ∧ ns.getD 0 0 < 60) ∧ (0 ≤ ns.getD 1 0 ∧ ns.getD 1 0 < 60)))
  else if w = "shun" ∧ ns.length = 2 then bad2 (ns.getD 0 0) (ns.getD 1 0)
  else if w = "wish" ∧ 0 < ns.length then decide (¬ (2 ≤ (ns.drop 1).length ∧ (ns.drop 1).getLast? = some 0 ∧ (ns.drop 1).Nodup))
  else true
def badS (z : Str) : Bool := match Txt.split z " " with
  | [] => true
  | w :: ws => match numsOf ws with
    | none => true
    | some ns => badW w ns
theorem bads_all : ∀ z ∈ badsL, badS z = true := by decide +kernel
def badH (z : Str) : Bool := decide ((Txt.split z " ").length ≠ 2) || decide ((Txt.split z " ").getD 0 "" ≠ "houses") || (match numOf ((Txt.split z " ").getD 1 "") with
  | none => true
  | some n => decide (¬ (1 ≤ n ∧ n ≤ 60)))
theorem badh_all : ∀ z ∈ badsF, badH z = true := by decide +kernel
theorem bad2_no {s : GS} {a b : Int} (n2 : s.n ≤ 60) (h : bad2 a b = true) : ¬ s.ok2 a b := fun ⟨⟨h1, h2⟩, ⟨h3, h4⟩, h5⟩ => by
  have := of_decide_eq_true h
  exact this ⟨⟨h1, by omega⟩, ⟨h3, by omega⟩, h5⟩
theorem badW_none {s : GS} (n2 : s.n ≤ 60) {w : Str} {ns : List Int} (h : badW w ns = true) : tellW s w ns = none := by
  unfold badW at h
  unfold tellW
  by_cases c1 : w = "way" ∧ ns.length = 2
  · rw [if_pos c1] at h ⊢
    exact if_neg fun z => bad2_no n2 h z.1
  rw [if_neg c1] at h ⊢
  by_cases c2 : w = "like" ∧ ns.length = 3
  · rw [if_pos c2] at h ⊢
    have := of_decide_eq_true h
    exact if_neg fun ⟨⟨h1, h2⟩, h3, h4⟩ => this ⟨⟨h1, by omega⟩, h3, by omega⟩
  rw [if_neg c2] at h ⊢
  by_cases c3 : w = "shun" ∧ ns.length = 2
  · rw [if_pos c3] at h ⊢
    exact if_neg fun z => bad2_no n2 h z
  rw [if_neg c3] at h ⊢
  by_cases c4 : w = "wish" ∧ 0 < ns.length
  · rw [if_pos c4] at h ⊢
    have := of_decide_eq_true h
    exact if_neg fun z => this z.2
  rw [if_neg c4]
theorem badS_none {s : GS} (n2 : s.n ≤ 60) {z : Str} (h : badS z = true) : tellS s z = none := by
  unfold badS at h
  unfold tellS
  cases e : Txt.split z " " with
  | nil => rfl
  | cons w ws =>
    rw [e] at h
    dsimp only at h ⊢
    cases e2 : numsOf ws with
    | none => rfl
    | some ns =>
      rw [e2] at h
      exact badW_none n2 h
theorem tellAll_app : ∀ (xs ys : List Str) (s : GS), tellAll s (xs ++ ys) = (tellAll s xs).bind fun s' => tellAll s' ys
  | [], ys, s => rfl
  | x :: r, ys, s => by
    show (match tellS s x with | none => none | some s' => tellAll s' (r ++ ys)) = (match tellS s x with | none => none | some s' => tellAll s' r).bind _
    cases tellS s x with
    | none => rfl
    | some s' => exact tellAll_app r ys s'
theorem tellAll_sym : ∀ {xs : List Str} {s s' : GS}, symT s → tellAll s xs = some s' → symT s' ∧ s'.n = s.n
  | [], s, s', h, e => by cases e; exact ⟨h, rfl⟩
  | x :: r, s, s', h, e => by
    have e' : (match tellS s x with | none => none | some s' => tellAll s' r) = some s' := e
    cases e2 : tellS s x with
    | none => rw [e2] at e'; cases e'
    | some s1 =>
      rw [e2] at e'
      obtain ⟨h1, h2⟩ := tellS_sym h e2
      obtain ⟨h3, h4⟩ := tellAll_sym h1 e'
      exact ⟨h3, h4.trans h2⟩
theorem sym_new (n : Nat) : symT (GS.new n) := fun _ _ => rfl
theorem tellAll_bad {n : Nat} (n2 : n ≤ 60) (xs ys : List Str) {z : Str} (h : badS z = true) : tellAll (GS.new n) (xs ++ z :: ys) = none := by
  rw [tellAll_app]
  cases e : tellAll (GS.new n) xs with
  | none => rfl
  | some s1 =>
    have hn : s1.n ≤ 60 := by rw [(tellAll_sym (sym_new n) e).2]; exact n2
    show (match tellS s1 z with | none => none | some s' => tellAll s' ys) = none
    rw [badS_none hn h]
abbrev endS (p : Str) : Str := p ++ ("\n" : Str)
def linesT (ps : List Str) : Str := Txt.join "" (ps.map endS)
structure PartOk (p : Str) : Prop where
  ok : PyData.strOk p = true
  f : 10 ∉ tl p
  l : p.length ≤ 3900
theorem linesT_in {ps : List Str} (h : ∀ p ∈ ps, PartOk p) : linesIn (linesT ps) = ps ++ [("" : Str)] := split_lines fun p hp => (h p hp).f
theorem endS_len (p : Str) : (endS p).length = p.length + 1 := by
  rw [len_tl, tl_append, List.length_append, ← len_tl, tl_feed]; rfl
theorem linesT_len {ps : List Str} (h : ∀ p ∈ ps, PartOk p) (hl : ps.length ≤ 2000) : ((ps.map endS).map (·.length)).sum ≤ 8000000 := by
  have := sum_le (l := (ps.map endS).map (·.length)) (b := 3901) fun x hx => by
    obtain ⟨y, hy, rfl⟩ := List.mem_map.mp hx
    obtain ⟨p, hp, rfl⟩ := List.mem_map.mp hy
    rw [endS_len]
    have := (h p hp).l
    omega
  rw [List.length_map, List.length_map] at this
  have h2 : ps.length * 3901 ≤ 2000 * 3901 := Nat.mul_le_mul_right _ hl
  omega
theorem linesT_length {ps : List Str} (h : ∀ p ∈ ps, PartOk p) (hl : ps.length ≤ 2000) : (linesT ps).length ≤ 8000000 := by
  have h1 := join_len (a := "") (ps.map endS)
  have h2 := linesT_len h hl
  have e0 : ("" : Str).length = 0 := by decide
  rw [e0, Nat.mul_zero] at h1
  exact Nat.le_trans h1 h2
theorem strOk_linesT {ps : List Str} (h : ∀ p ∈ ps, PartOk p) : PyData.strOk (linesT ps) = true := strOk_join (by decide +kernel) fun p hp => by
  obtain ⟨q, hq, rfl⟩ := List.mem_map.mp hp
  exact strOk_app (h q hq).ok (by decide +kernel)
theorem linesT_rdbl {ps : List Str} (h : ∀ p ∈ ps, PartOk p) (hl : ps.length ≤ 2000) : Rdbl (linesT ps) := by
  have hs : sizeLine = 2 ^ 24 := rfl
  have := linesT_length h hl
  refine ⟨strOk_linesT h, by omega, fun x hx => ?_, by rw [linesT_in h, List.length_append, List.length_singleton]; omega⟩
  rw [linesT_in h] at hx
  rcases List.mem_append.mp hx with hx | hx
  · have := (h x hx).l; omega
  · rw [List.mem_singleton.mp hx]; exact Nat.zero_le _
theorem rd_linesT {h0 : Str} {r : List Str} (h : ∀ p ∈ h0 :: r, PartOk p) : readS (linesT (h0 :: r)) = (if (Txt.split h0 " ").length ≠ 2 ∨ (Txt.split h0 " ").getD 0 "" ≠ "houses" then none else
    match numOf ((Txt.split h0 " ").getD 1 "") with
    | none => none
    | some n => if 1 ≤ n ∧ n ≤ 60 then tellAll (GS.new n.toNat) r else none) := by
  rw [readS_eq, linesT_in h]
  have e1 : ¬ (((h0 :: r) ++ [("" : Str)]).length < 2 ∨ ((h0 :: r) ++ [("" : Str)]).getLast? ≠ some ("" : Str)) := by
    rintro (h | h)
    · simp only [List.length_append, List.length_cons, List.length_nil] at h; omega
    · exact h (by rw [List.getLast?_append]; rfl)
  have e2 : ((h0 :: r) ++ [("" : Str)]).getD 0 ("" : Str) = h0 := rfl
  have e3 : (((h0 :: r) ++ [("" : Str)]).drop 1).dropLast = r := by
    rw [List.cons_append, List.drop_succ_cons, List.drop_zero, List.dropLast_concat]
  rw [if_neg e1, e2, e3] <;> rfl
theorem rd_badH {h0 : Str} {r : List Str} (h : ∀ p ∈ h0 :: r, PartOk p) (hb : badH h0 = true) : readS (linesT (h0 :: r)) = none := by
  rw [rd_linesT h]
  unfold badH at hb
  by_cases c : (Txt.split h0 " ").length ≠ 2 ∨ (Txt.split h0 " ").getD 0 "" ≠ "houses"
  · rw [if_pos c]
  · rw [if_neg c]
    rw [decide_eq_false fun z => c (.inl z), decide_eq_false fun z => c (.inr z)] at hb
    simp only [Bool.false_or] at hb
    cases e : numOf ((Txt.split h0 " ").getD 1 "") with
    | none => rfl
    | some n =>
      rw [e] at hb
      exact if_neg (of_decide_eq_true hb)
theorem rd_head {n : Nat} (n1 : 1 ≤ n) (n2 : n ≤ 60) {r : List Str} (h : ∀ p ∈ lnS (headRow n) :: r, PartOk p) : readS (linesT (lnS (headRow n) :: r)) = tellAll (GS.new n) r := by
  rw [rd_linesT h]
  have e4 : Txt.split (lnS (headRow n)) " " = [("houses" : Str), numS n] := ln_split (w := "houses") (ns := [(n : Int)]) tl_houses
  rw [e4, if_neg (by rintro (h | h); exact h rfl; exact h rfl)]
  have e5 : numOf (([("houses" : Str), numS n]).getD 1 "") = some (n : Int) := numOf_numS (by show Int.natAbs (n : Int) < _; omega)
  rw [e5]
  show (if 1 ≤ (n : Int) ∧ (n : Int) ≤ 60 then _ else _) = _
  rw [if_pos ⟨by omega, by omega⟩, Int.toNat_natCast]
theorem joinL_snoc {S : List Nat} : ∀ {ps : List (List Nat)}, ps ≠ [] → joinL S (ps ++ [[]]) = joinL S ps ++ S
  | [], h => absurd rfl h
  | [p], _ => by simp [joinL]
  | p :: q :: r, _ => by
    have ih := joinL_snoc (S := S) (ps := q :: r) (by simp)
    show p ++ (S ++ joinL S ((q :: r) ++ [[]])) = (p ++ (S ++ joinL S (q :: r))) ++ S
    rw [ih]; simp
theorem tl_cutLast (z : Str) : tl (cutS z none (some (-1))) = (tl z).dropLast := by
  have lt := len_tl z
  show (((tl z).drop (HT.sIx z.length 0 none)).take (HT.sIx z.length z.length (some (-1)) - HT.sIx z.length 0 none)).toArray.toList = _
  have e2 : HT.sIx z.length z.length (some (-1)) = z.length - 1 := by
    show (if (-1 : Int) < 0 then ((-1 : Int) + (z.length : Nat)).toNat else min (-1 : Int).toNat z.length) = _
    rw [if_pos (by decide)]; omega
  rw [HT.sIx_none, e2, List.drop_zero, Nat.sub_zero, lt, List.dropLast_eq_take]
theorem linesT_tl {ps : List Str} (h : ps ≠ []) : tl (linesT ps) = joinL [10] (ps.map tl) ++ [10] := by
  unfold linesT
  rw [join_eq, tl_join, tl_none, List.map_map]
  have := join_ends (ps.map tl)
  rw [List.map_map] at this
  rw [show (tl ∘ endS) = (fun x => x ++ [10]) ∘ tl by funext x; simp only [Function.comp, tl_append, tl_feed], this]
  exact joinL_snoc (by simpa using h)
theorem cut_linesT {ps : List Str} (h : ps ≠ []) : cutS (linesT ps) none (some (-1)) = Txt.join "\n" ps := by
  refine ext_tl ?_
  rw [tl_cutLast, linesT_tl h, join_eq, tl_join, tl_feed, List.dropLast_concat]
theorem cut_in {ps : List Str} (hn : ps ≠ []) (h : ∀ p ∈ ps, PartOk p) : linesIn (cutS (linesT ps) none (some (-1))) = ps := by
  unfold linesIn
  rw [cut_linesT hn]
  exact split_join (S := []) tl_feed (by decide +kernel) hn fun p hp => (h p hp).f
theorem cut_rdbl {ps : List Str} (hn : ps ≠ []) (h : ∀ p ∈ ps, PartOk p) (hl : ps.length ≤ 2000) : Rdbl (cutS (linesT ps) none (some (-1))) := by
  have hs : sizeLine = 2 ^ 24 := rfl
  have h1 := linesT_length h hl
  have h2 := cutS_length (linesT ps) none (some (-1))
  refine ⟨strOk_cut (strOk_linesT h) _ _, by omega, fun x hx => ?_, by rw [cut_in hn h]; omega⟩
  rw [cut_in hn h] at hx
  have := (h x hx).l
  omega
theorem rd_cut {ps : List Str} (hn : ps ≠ []) (h : ∀ p ∈ ps, PartOk p) (hb : ps.getLast? ≠ some ("" : Str)) : readS (cutS (linesT ps) none (some (-1))) = none := by
  rw [readS_eq, cut_in hn h, if_pos (.inr hb)]
def partsR (xs : List Rw) : List Str := xs.map fun x => lnS x.row
theorem parts_end (xs : List Rw) : (partsR xs).map endS = xs.map fun x => lineS x.row := by unfold partsR; rw [List.map_map]; rfl
theorem w_len (x : Rw) : x.w.length ≤ 61 := by
  cases x with
  | way _ _ => exact (show ("way" : Str).length ≤ 61 by decide)
  | like _ _ _ => exact (show ("like" : Str).length ≤ 61 by decide)
  | shun _ _ => exact (show ("shun" : Str).length ≤ 61 by decide)
  | wish _ _ => exact (show ("wish" : Str).length ≤ 61 by decide)
theorem w_houses (x : Rw) : x.w ≠ ("houses" : Str) := by
  cases x with
  | way _ _ => exact (show ("way" : Str) ≠ "houses" by decide)
  | like _ _ _ => exact (show ("like" : Str) ≠ "houses" by decide)
  | shun _ _ => exact (show ("shun" : Str) ≠ "houses" by decide)
  | wish _ _ => exact (show ("wish" : Str) ≠ "houses" by decide)
theorem w_none (x : Rw) : x.w ≠ ("" : Str) := by
  cases x with
  | way _ _ => exact (show ("way" : Str) ≠ "" by decide)
  | like _ _ _ => exact (show ("like" : Str) ≠ "" by decide)
  | shun _ _ => exact (show ("shun" : Str) ≠ "" by decide)
  | wish _ _ => exact (show ("wish" : Str) ≠ "" by decide)
theorem good_part {n : Nat} (n2 : n ≤ 60) {x : Rw} (h : x.good n) : PartOk (lnS x.row) := by
  refine ⟨?_, ln_feed (plain_w x), ?_⟩
  · have := strOk_line (ns := x.ns) (strOk_w x)
    rw [line_ln] at this
    refine strOk_iff.mpr fun c hc => strOk_iff.mp this c ?_
    rw [tl_append]
    exact List.mem_append.mpr (.inl hc)
  · have hw : ∀ d ∈ x.row, okW d := fun d hd => by
      rcases List.mem_cons.mp (show d ∈ D.str x.w :: x.ns.map .int from hd) with rfl | hd
      · exact okW_str (w_len x)
      · obtain ⟨i, hi, rfl⟩ := List.mem_map.mp hd
        exact okW_int (good_small n2 h i hi)
    have h1 := lineS_len hw
    have h2 : x.row.length ≤ 62 := by
      show (D.str x.w :: x.ns.map .int).length ≤ 62
      rw [List.length_cons, List.length_map]
      cases x with
      | way a b => show 2 + 1 ≤ 62; decide
      | like a b r => show 3 + 1 ≤ 62; decide
      | shun a b => show 2 + 1 ≤ 62; decide
      | wish l r =>
        have := rok_len h.1
        show (r :: l).length + 1 ≤ 62
        rw [List.length_cons]
        have e : (GS.new n).n = n := rfl
        omega
    rw [line_ln, len_tl, tl_append, List.length_append, ← len_tl, tl_feed] at h1
    have : x.row.length * 62 ≤ 62 * 62 := Nat.mul_le_mul_right _ h2
    simp only [List.length_cons, List.length_nil] at h1
    omega
theorem head_part {n : Nat} (n2 : n ≤ 60) : PartOk (lnS (headRow n)) := by
  refine ⟨?_, ln_feed (w := "houses") (ns := [(n : Int)]) tl_houses, ?_⟩
  · have := strOk_line (w := "houses") (ns := [(n : Int)]) (by decide +kernel)
    rw [line_ln] at this
    refine strOk_iff.mpr fun c hc => strOk_iff.mp this c ?_
    rw [tl_append]
    exact List.mem_append.mpr (.inl hc)
  · have h1 := lineS_len (l := headRow n) fun d hd => by
      simp only [headRow, List.mem_cons, List.not_mem_nil, or_false] at hd
      rcases hd with rfl | rfl
      · exact okW_str
      · exact okW_sm ⟨by omega, by omega⟩
    rw [line_ln, len_tl, tl_append, List.length_append, ← len_tl, tl_feed] at h1
    simp only [headRow, List.length_cons, List.length_nil] at h1 ⊢
    omega
theorem row_words (x : Rw) : Txt.split (lnS x.row) " " = x.w :: x.ns.map numS := ln_split (plain_w x)
theorem row_ne (x : Rw) : lnS x.row ≠ ("" : Str) := fun h => by
  have := row_words x
  rw [h, show Txt.split ("" : Str) " " = [("" : Str)] by decide +kernel] at this
  injection this with e _
  exact w_none x e.symm
theorem row_badH (x : Rw) : badH (lnS x.row) = true := by
  unfold badH
  rw [row_words]
  have : decide ((x.w :: x.ns.map numS).getD 0 "" ≠ "houses") = true := decide_eq_true (by
    exact w_houses x)
  rw [this]
  simp
theorem rowsR_good {s : GS} (h : Wr s) : ∀ x ∈ rowsR s, x.good s.n := fun x hx => by
  have hlt : ∀ p ∈ lexP s.n (ltR s.T), p.1 < p.2 ∧ s.T p.1 p.2 = true := fun p hp => by
    have := (lexK_mem.mp hp).2.2
    unfold ltR at this
    simpa [Bool.and_eq_true] using this
  unfold rowsR at hx
  simp only [List.mem_append, List.mem_map] at hx
  rcases hx with ((⟨p, hp, rfl⟩ | ⟨p, hp, rfl⟩) | ⟨p, hp, rfl⟩) | ⟨p, hp, rfl⟩
  · have hm := lexK_mem.mp hp
    have := hlt p hp
    exact ⟨hm.1, hm.2.1, by omega⟩
  · have hm := lexK_mem.mp hp
    exact ⟨hm.1, hm.2.1, h.t.f _ _ hm.1 hm.2.1⟩
  · have hm := lexK_mem.mp hp
    refine ⟨hm.1, hm.2.1, fun e => ?_⟩
    have := hm.2.2
    rw [e, h.hi] at this; cases this
  · have hm := wish_at h.t hp
    exact ⟨(rok_n (s' := GS.new s.n) rfl).mp hm.1, hm.2⟩
theorem rowsR_len {s : GS} (n7 : s.n ≤ 7) (hl : s.L.length ≤ 100) : (rowsR s).length ≤ 300 := by
  have h1 := lexK_len s.n (ltR s.T) s.n
  have h2 := lexK_len s.n (nzR s.F) s.n
  have h3 := lexK_len s.n s.H s.n
  have h4 := wishes_len s.L
  have h5 : s.n * s.n ≤ 7 * 7 := Nat.mul_le_mul n7 n7
  unfold rowsR lexP
  simp only [List.length_append, List.length_map]
  omega
theorem bads_part : ∀ z ∈ badsL, PartOk z := fun z hz => by
  have h : ∀ z ∈ badsL, PyData.strOk z = true ∧ (∀ c ∈ tl z, c ≠ 10) ∧ z.length ≤ 3900 := by decide +kernel
  obtain ⟨h1, h2, h3⟩ := h z hz
  exact ⟨h1, fun h => h2 10 h rfl, h3⟩
theorem badf_part : ∀ z ∈ badsF, PartOk z := fun z hz => by
  have h : ∀ z ∈ badsF, PyData.strOk z = true ∧ (∀ c ∈ tl z, c ≠ 10) ∧ z.length ≤ 3900 := by decide +kernel
  obtain ⟨h1, h2, h3⟩ := h z hz
  exact ⟨h1, fun h => h2 10 h rfl, h3⟩
theorem twice_none {s : GS} (h : Wr s) {a b : Int} (hT : s.T a b = true) (ha : inN s.n a) (hb : inN s.n b) : tellAll (GS.new s.n) (partsR (rowsR s) ++ [lnS (Rw.way b a).row]) = none := by
  obtain ⟨h1, h2⟩ := rows_read h
  rw [tellAll_app]
  show (tellAll (GS.new s.n) ((rowsR s).map fun x : Rw => lnS x.row)).bind _ = none
  rw [h1]
  generalize (rowsR s).foldl Rw.step (GS.new s.n) = s1 at h2
  show (match tellS s1 (lnS (Rw.way b a).row) with | none => none | some s' => tellAll s' []) = none
  have e : tellS s1 (lnS (Rw.way b a).row) = none := by
    rw [tell_row fun i hi => by
      simp only [Rw.ns, List.mem_cons, List.not_mem_nil, or_false] at hi
      rcases hi with rfl | rfl
      · exact small_in h.n2 hb
      · exact small_in h.n2 ha]
    have eT : s1.T b a = true := by rw [h2.T b a hb.1 hb.2 ha.1 ha.2, h.sy]; exact hT
    show (if ((("way" : Str) = "way") ∧ [b, a].length = 2) then (if s1.ok2 b a ∧ s1.T b a = false then some (s1.lay b a) else none) else _) = none
    rw [if_pos ⟨rfl, rfl⟩, if_neg fun z => by rw [eT] at z; cases z.2]
  rw [e]
theorem rdbl_of {z : Str} {ls : List Str} (ho : PyData.strOk z = true) (hz : z.length ≤ 100) (e : linesIn z = ls) (hl : ∀ x ∈ ls, x.length ≤ 4000) (hn : ls.length ≤ 100) : Rdbl z := by
  have hs : sizeLine = 2 ^ 24 := rfl
  exact ⟨ho, by omega, by rw [e]; exact hl, by rw [e]; omega⟩
theorem in_none : linesIn ("" : Str) = [("" : Str)] := by decide +kernel
theorem in_feed : linesIn ("\n" : Str) = [("" : Str), ("" : Str)] := by decide +kernel
theorem in_three : linesIn ("houses 3" : Str) = [("houses 3" : Str)] := by decide +kernel
theorem kind3 {ps : List Str} (hps : ∀ p ∈ ps, PartOk p ∧ badH p = true) (hl : ps.length ≤ 300) : ∀ z ∈ [("" : Str), "\n", "houses 3", linesT ps], Rdbl z ∧ readS z = none := by
  have r0 : readS ("" : Str) = none := by rw [readS_eq, in_none]; exact if_pos (.inl (by decide))
  intro z hz
  simp only [List.mem_cons, List.not_mem_nil, or_false] at hz
  rcases hz with rfl | rfl | rfl | rfl
  · exact ⟨rdbl_of (by decide +kernel) (by decide) in_none (by decide) (by decide), r0⟩
  · refine ⟨rdbl_of (by decide +kernel) (by decide) in_feed (by decide) (by decide), ?_⟩
    rw [readS_eq, in_feed, if_neg (by decide)]
    exact if_pos (.inl (by decide +kernel))
  · refine ⟨rdbl_of (by decide +kernel) (by decide) in_three (by decide) (by decide), ?_⟩
    rw [readS_eq, in_three]
    exact if_pos (.inl (by decide))
  · refine ⟨linesT_rdbl (fun p hp => (hps p hp).1) (by omega), ?_⟩
    cases ps with
    | nil => exact r0
    | cons p r => exact rd_badH (fun p hp => (hps p hp).1) (hps p List.mem_cons_self).2

end DL
namespace DL
open PySem L2
open TL PySem.NumText
theorem cut_take (xs : List D) (k : Nat) : cutD xs none (some (k : Int)) = xs.take k := by
  unfold cutD
  rw [HT.sIx_none, HT.sIx_nat, List.drop_zero, Nat.sub_zero]
  by_cases c : k ≤ xs.length
  · rw [Nat.min_eq_left c]
  · rw [Nat.min_eq_right (by omega), List.take_of_length_le (Nat.le_refl _), List.take_of_length_le (by omega)]
theorem cut_drop (xs : List D) (k : Nat) : cutD xs (some (k : Int)) none = xs.drop k := by
  unfold cutD
  rw [HT.sIx_none, HT.sIx_nat]
  by_cases c : k ≤ xs.length
  · rw [Nat.min_eq_left c]
    exact List.take_of_length_le (by rw [List.length_drop]; omega)
  · rw [Nat.min_eq_right (by omega), Nat.sub_self, List.take_zero, List.drop_eq_nil_of_le (by omega)]
theorem cut_drop2 (xs : List D) : cutD xs (some 2) none = xs.drop 2 := cut_drop xs 2
abbrev dS (p : Str) : D := .str (endS p)
theorem txts_ends (ps : List Str) : txtsD (ps.map dS) = some (ps.map endS) := by
  have := txtsD_map (ps.map endS)
  rw [List.map_map] at this
  exact this
def JoinK (l : Option (List D)) (k : D → Prop) : Prop := ∃ l' ys, l = some l' ∧ txtsD l' = some ys ∧ (ys.map (·.length)).sum ≤ 16777216 ∧ ∀ z, z = D.str (Txt.join ("" : Str) ys) → k z
theorem join_ls {ps : List Str} (hp : ∀ p ∈ ps, PartOk p) (hl : ps.length ≤ 2000) {l : List D} {k : D → Prop} (q : ∀ z, z = D.str (linesT ps) → k z) (e : l = ps.map dS) : JoinK (some l) k := by
  have h1 := linesT_len hp hl
  exact ⟨l, ps.map endS, rfl, by rw [e]; exact txts_ends ps, by omega, q⟩
theorem dJoin_K {te : TDE} {ρ : Env'} {S : Sto} {P : D → Sto → Prop} : dJoin (dC (.str "")) te ρ S P = te ρ S fun y S2 => JoinK (vm S2 y) fun z => P z S2 := by
  have e0 : ("" : Str).length = 0 := by decide
  have e : (fun y S2 => ∃ a l ys, D.str ("" : Str) = D.str a ∧ vm S2 y = some l ∧ txtsD l = some ys ∧ (ys.map (·.length)).sum + ys.length * a.length ≤ 16777216 ∧ P (.str (Txt.join a ys)) S2) = fun y S2 => JoinK (vm S2 y) fun z => P z S2 := by
    funext y S2
    refine propext ⟨fun ⟨a, l, ys, h1, h2, h3, h4, h5⟩ => ?_, fun ⟨l, ys, h2, h3, h4, h5⟩ => ⟨"", l, ys, rfl, h2, h3, by rw [e0, Nat.mul_zero]; omega, h5 _ rfl⟩⟩
    injection h1 with h1
    subst h1
    exact ⟨l, ys, h2, h3, by rw [e0, Nat.mul_zero] at h4; omega, fun z hz => by rw [hz]; exact h5⟩
  unfold dJoin
  simp only [dC]
  rw [← e]
  exact propext ⟨fun h => h.2, fun h => ⟨⟨_, rfl⟩, h⟩⟩
theorem head_dS (n : Nat) : D.str (lineS (headRow n)) = dS (lnS (headRow n)) := rfl
theorem body_dS (s : GS) : (bodyT s).map sR = (partsR (rowsR s)).map dS := by
  unfold partsR
  rw [body_rows, List.map_map, List.map_map]
  rfl

end DL
namespace DL
open PySem L2
def t_k09_law_spoiled_6 (K : PySem.W.Frag) (a : CA) (W : WD) : TDS :=
  (dSeq (dIfS (dB (dOp (eqR false) (dVar 6) (dC (.int 3))))
    (dRet (dOp ixD (dLst false (dCons (dC (.str "")) (dCons (dC (.str "\n")) (dCons (dC (.str "houses 3")) (dCons (dJoin (dC (.str "")) (dVar 1)) dNil))))) (dOp modD (dOp fdivD (dVar 3) (dC (.int 14))) (dC (.int 4)))))
    dNext)
  (dSeq (dAsg (dOp (addD false) (dCall (sp_law_bad_line a) W (dCons (dOp fdivD (dOp fdivD (dVar 3) (dC (.int 7))) (dC (.int 3))) dNil)) (dC (.str "\n"))) (dgN 8))
  (dRet (dJoin (dC (.str "")) (dOp (addD false) (dOp (addD false) (dOp (addD false) (dLst false (dCons (dVar 4) dNil)) (dSlL false (dVar 1) doNone (doSome (dVar 5)))) (dLst false (dCons (dVar 8) dNil))) (dSlL false (dVar 1) (doSome (dVar 5)) doNone))))))
def t_k09_law_spoiled_5 (K : PySem.W.Frag) (a : CA) (W : WD) : TDS :=
  (dSeq (dIfS (dAndT (dB (dOp (eqR false) (dVar 6) (dC (.int 2)))) (dB (dOp gtI (dCB lenD (dCons (dVar 2) dNil)) (dC (.int 0)))))
    (dSeq (dAsg (dOp ixD (dVar 2) (dOp modD (dOp fdivD (dVar 3) (dC (.int 14))) (dCB lenD (dCons (dVar 2) dNil)))) (dgN 7))
    (dRet (dJoin (dC (.str "")) (dOp (addD false) (dOp (addD false) (dLst false (dCons (dVar 4) dNil)) (dVar 1)) (dLst false (dCons (dCall (sp_law_line a) W (dCons (dLst false (dCons (dC (.str "way")) (dCons (dOp ixD (dVar 7) (dC (.int 1))) (dCons (dOp ixD (dVar 7) (dC (.int 0))) dNil)))) dNil)) dNil))))))
    dNext)
  (t_k09_law_spoiled_6 K a W))
def t_k09_law_spoiled (K : PySem.W.Frag) (a : CA) (W : WD) : TDS :=
  (dSeq (dAsg (dCall (sp_law_line a) W (dCons (dLst false (dCons (dC (.str "houses")) (dCons (dVar 0) dNil))) dNil)) (dgN 4))
  (dSeq (dAsg (dOp modD (dOp fdivD (dVar 3) (dC (.int 14))) (dOp (addD false) (dCB lenD (dCons (dVar 1) dNil)) (dC (.int 1)))) (dgN 5))
  (dSeq (dAsg (dOp modD (dVar 3) (dC (.int 7))) (dgN 6))
  (dSeq (dIfS (dB (dOp (eqR false) (dVar 6) (dC (.int 0))))
    (dRet (dJoin (dC (.str "")) (dOp (addD false) (dLst false (dCons (dOp (addD false) (dCall (sp_law_bad_first a) W (dCons (dOp fdivD (dVar 3) (dC (.int 14))) dNil)) (dC (.str "\n"))) dNil)) (dVar 1))))
    dNext)
  (dSeq (dIfS (dB (dOp (eqR false) (dVar 6) (dC (.int 1))))
    (dRet (dSlS (dJoin (dC (.str "")) (dOp (addD false) (dLst false (dCons (dVar 4) dNil)) (dVar 1))) doNone (doSome (dNeg (dC (.int 1))))))
    dNext)
  (t_k09_law_spoiled_5 K a W))))))
abbrev N_k09_law_spoiled : List Str := ["size", "lines", "ways", "cell", "head", "at", "kind", "pair", "odd"]
open TL PySem.NumText
def sp_k09_law_spoiled (a : CA) : DSp := fun ds S P E => ∃ (n : Nat) (wl : WL) (fl dl : KL) (sl : WL) (cell : Int), ds = [.int n, .lst ((partsR (rowsR (gOf n wl fl dl sl))).map dS), .lst (wl.map eII), .int cell] ∧ BookOk n wl fl dl sl ∧ n ≤ 7 ∧ wl.length ≤ 3600 ∧ ∀ z : Str, Rdbl z → readS z = none → P (.str z) S
theorem len_k09_law_spoiled (a : CA) (ds : List D) (S : Sto) (Q : D → Sto → Prop) (E : Addr → Sto → Prop) (h : sp_k09_law_spoiled a ds S Q E) : ds.length = ["size", "lines", "ways", "cell"].length := by
  obtain ⟨_, _, _, _, _, _, rfl, _⟩ := h; rfl
theorem spoiled_6 (K : PySem.W.Frag) (a : CA) (S : Sto) (Q : D → Sto → Prop) (E : Addr → Sto → Prop) (q : ∀ z : Str, Rdbl z → readS z = none → Q (.str z) S) (n : Nat) (n2 : n ≤ 60) (wl : WL) (cell kind : Int) (k : Nat) (hd : Str) (ps : List Str) (hk : k ≤ ps.length) (hl : ps.length ≤ 300) (hhead : PartOk hd) (hps : ∀ p ∈ ps, PartOk p ∧ badH p = true)
    (hrd : ∀ r : List Str, (∀ p ∈ r, PartOk p) → readS (linesT (hd :: r)) = tellAll (GS.new n) r) (o : Option D) :
    t_k09_law_spoiled_6 K a (wishOf E) (endsOf Q) [some (.int n), some (.lst (ps.map dS)), some (.lst (wl.map eII)), some (.int cell), some (dS hd), some (.int k), some (.int kind), o, none] S := by
  have hs : sizeLine = 2 ^ 24 := rfl
  have l1 : ("\n" : Str).length = 1 := by decide
  simp only [t_k09_law_spoiled_6]
  rw [dSeq_ap]
  simp only [dIfS, dB, dOp, dC, dVar, List.getElem?_cons_zero, List.getElem?_cons_succ]
  refine eqR_i ?_
  by_cases k3 : kind = 3
  · rw [decide_eq_true k3]
    simp only [Bool.false_xor, ↓reduceIte, dRet, dOp, dLst, dCons, dNil, dJoin_K, dC, dVar, List.getElem?_cons_zero, List.getElem?_cons_succ, vm]
    refine join_ls (ps := ps) (fun p hp => (hps p hp).1) (by omega) (fun r er => ?_) rfl
    rw [er]
    simp only [newL, fdivD, modD, iiD]
    refine ⟨by simp [hs], ⟨by decide, by decide⟩, by decide, ?_⟩
    exact at_strs (l := [("" : Str), "\n", "houses 3", linesT ps]) (c := cell / 14) (by simp) fun z hz => rt_of (q z (kind3 hps hl z hz).1 (kind3 hps hl z hz).2)
  rw [decide_eq_false k3]
  simp only [Bool.false_xor, Bool.false_eq_true, ↓reduceIte, dNext]
  rw [dSeq_ap]
  simp only [dAsg, dCall, dOp, dC, dCons, dNil, dVar, dgN, List.set_cons_zero, List.set_cons_succ, List.getElem?_cons_zero, List.getElem?_cons_succ, fdivD, iiD]
  refine ⟨⟨by decide, by decide⟩, ⟨by decide, by decide⟩, x_law_bad_line fun z hz => ?_⟩
  have hz1 := bads_part z hz
  have hz2 := bads_all z hz
  have hl1 := hz1.l
  simp only [addD, scatD]
  refine ⟨by omega, ?_⟩
  (try dsimp only)
  have hall2 : ∀ p ∈ ps.take k ++ z :: ps.drop k, PartOk p := fun p hp => by
    rcases List.mem_append.mp hp with hp | hp
    · exact (hps p (List.mem_of_mem_take hp)).1
    · rcases List.mem_cons.mp hp with rfl | hp
      · exact hz1
      · exact (hps p (List.mem_of_mem_drop hp)).1
  have hall3 : ∀ p ∈ hd :: (ps.take k ++ z :: ps.drop k), PartOk p := fun p hp => by
    rcases List.mem_cons.mp hp with rfl | hp
    · exact hhead
    · exact hall2 p hp
  have hlen : (hd :: (ps.take k ++ z :: ps.drop k)).length ≤ 2000 := by
    rw [List.length_cons, List.length_append, List.length_cons, List.length_take, List.length_drop]; omega
  simp only [dRet, dJoin_K, dOp, dLst, dCons, dNil, dC, dVar, dSlL, doNone, doSome, List.getElem?_cons_zero, List.getElem?_cons_succ, addD, catD, newL, vm, vl, slk, cut_take, cut_drop]
  refine ⟨by simp [hs], by simp only [List.length_cons, List.length_nil, List.length_map, List.length_take]; omega, by simp [hs], by simp only [List.length_append, List.length_cons, List.length_nil, List.length_map, List.length_take]; omega, by simp only [List.length_append, List.length_cons, List.length_nil, List.length_map, List.length_take, List.length_drop]; omega, ?_⟩
  refine join_ls (ps := hd :: (ps.take k ++ z :: ps.drop k)) hall3 hlen (fun r er => ?_) (by simp [dS, List.map_take, List.map_drop])
  rw [er]
  exact rt_of (q _ (linesT_rdbl hall3 hlen) (by rw [hrd _ hall2]; exact tellAll_bad n2 _ _ hz2))
theorem spoiled_5 (K : PySem.W.Frag) (a : CA) (S : Sto) (Q : D → Sto → Prop) (E : Addr → Sto → Prop) (q : ∀ z : Str, Rdbl z → readS z = none → Q (.str z) S) (n : Nat) (n2 : n ≤ 60) (wl : WL) (cell kind : Int) (k : Nat) (hd : Str) (ps : List Str) (hk : k ≤ ps.length) (hl : ps.length ≤ 300) (hhead : PartOk hd) (hpart : ∀ p ∈ ps, PartOk p ∧ p ≠ "" ∧ badH p = true) {T : Int → Int → Bool} (hT : ∀ p ∈ wl, T p.1 p.2 = true ∧ inN n p.1 ∧ inN n p.2 ∧ p.1 ≠ p.2)
    (hrd : ∀ r : List Str, (∀ p ∈ r, PartOk p) → readS (linesT (hd :: r)) = tellAll (GS.new n) r) (htwice : ∀ x y, T x y = true → inN n x → inN n y → tellAll (GS.new n) (ps ++ [lnS (Rw.way y x).row]) = none) :
    t_k09_law_spoiled_5 K a (wishOf E) (endsOf Q) [some (.int n), some (.lst (ps.map dS)), some (.lst (wl.map eII)), some (.int cell), some (dS hd), some (.int k), some (.int kind), none, none] S := by
  have hs : sizeLine = 2 ^ 24 := rfl
  have hps : ∀ p ∈ ps, PartOk p := fun p hp => (hpart p hp).1
  simp only [t_k09_law_spoiled_5]
  rw [dSeq_ap]
  simp only [dIfS, dAndT, dB, dOp, dC, dVar, List.getElem?_cons_zero, List.getElem?_cons_succ]
  refine eqR_i ?_
  have tail := fun o => spoiled_6 K a S Q E q n n2 wl cell kind k hd ps hk hl hhead (fun p hp => ⟨hps p hp, (hpart p hp).2.2⟩) hrd o
  by_cases k2 : kind = 2
  · rw [decide_eq_true k2]
    simp only [Bool.false_xor, ↓reduceIte, dCB, dCons, dNil, dVar, List.getElem?_cons_zero, List.getElem?_cons_succ, lenD, lenS, vm, List.length_map, gtI, iiD0]
    by_cases c : (0 : Int) < (wl.length : Int)
    · rw [decide_eq_true c]
      simp only [↓reduceIte]
      rw [dSeq_ap]
      simp only [dAsg, dOp, dCB, dCons, dNil, dC, dVar, dgN, List.set_cons_zero, List.set_cons_succ, List.getElem?_cons_zero, List.getElem?_cons_succ, fdivD, modD, iiD, lenD, lenS, vm, List.length_map]
      refine ⟨⟨by decide, by decide⟩, by omega, ?_⟩
      have w0 : 0 ≤ cell / 14 % (wl.length : Int) := Int.emod_nonneg _ (by omega)
      have w1 : cell / 14 % (wl.length : Int) < (wl.length : Int) := Int.emod_lt_of_pos _ (by omega)
      simp only [ixD, ixLK, vl, vm, ixL]
      rw [atI_tab eII wl w0 w1]
      obtain ⟨hT1, hT2, hT3, hT4⟩ := hT _ (List.getElem_mem (l := wl) (n := (cell / 14 % (wl.length : Int)).toNat) (by omega))
      generalize wl[(cell / 14 % (wl.length : Int)).toNat] = w at hT1 hT2 hT3 hT4
      (try dsimp only)
      have hw3 := good_part (n := n) n2 (x := .way w.2 w.1) ⟨hT3, hT2, Ne.symm hT4⟩
      have hall2 : ∀ p ∈ ps ++ [lnS (Rw.way w.2 w.1).row], PartOk p := fun p hp => by
        rcases List.mem_append.mp hp with hp | hp
        · exact hps p hp
        · rw [List.mem_singleton.mp hp]; exact hw3
      have hall3 : ∀ p ∈ hd :: (ps ++ [lnS (Rw.way w.2 w.1).row]), PartOk p := fun p hp => by
        rcases List.mem_cons.mp hp with rfl | hp
        · exact hhead
        · exact hall2 p hp
      simp only [dRet, dJoin_K, dOp, dLst, dCall, dCons, dNil, dC, dVar, List.getElem?_cons_zero, List.getElem?_cons_succ, addD, catD, newL, vm, eII, eP, ixD, ixL, ixLK]
      refine ⟨by simp [hs], by simp only [List.length_cons, List.length_nil, List.length_map]; omega, ?_⟩
      rw [show atI [D.int w.1, D.int w.2] 1 = some (.int w.2) from rfl, show atI [D.int w.1, D.int w.2] 0 = some (.int w.1) from rfl]
      refine ⟨by simp [hs], x_law_line (l := (Rw.way w.2 w.1).row) rfl (fun d hd => ?_) (by simp [Rw.row, rowD, Rw.ns]) ?_⟩
      · simp only [Rw.row, rowD, Rw.w, Rw.ns, List.map_cons, List.map_nil, List.mem_cons, List.not_mem_nil, or_false] at hd
        rcases hd with rfl | rfl | rfl
        · exact okW_str
        · exact okW_int (small_in n2 hT3)
        · exact okW_int (small_in n2 hT2)
      refine ⟨by simp [hs], by simp only [List.length_append, List.length_cons, List.length_nil, List.length_map]; omega, ?_⟩
      refine join_ls (ps := hd :: (ps ++ [lnS (Rw.way w.2 w.1).row])) hall3 (by rw [List.length_cons, List.length_append, List.length_singleton]; omega) (fun r er => ?_) (by simp [dS, line_ln])
      rw [er]
      exact rt_of (q _ (linesT_rdbl hall3 (by rw [List.length_cons, List.length_append, List.length_singleton]; omega)) (by rw [hrd _ hall2]; exact htwice _ _ hT1 hT2 hT3))
    · rw [decide_eq_false c]
      simp only [Bool.false_eq_true, ↓reduceIte, dNext]
      exact tail _
  · rw [decide_eq_false k2]
    simp only [Bool.false_xor, Bool.false_eq_true, ↓reduceIte, dNext]
    exact tail _
theorem read_k09_law_spoiled (K : PySem.W.Frag) (a : CA) (ds : List D) (S : Sto) (Q : D → Sto → Prop) (E : Addr → Sto → Prop) (h : sp_k09_law_spoiled a ds S Q E) : t_k09_law_spoiled K a (wishOf E) (endsOf Q) (dstart N_k09_law_spoiled ds) S := by
  obtain ⟨n, wl, fl, dl, sl, cell, rfl, bk, n7, lw, q⟩ := h
  have hs : sizeLine = 2 ^ 24 := rfl
  have wr := bk.wr
  have n2 := bk.n2
  have hgood := rowsR_good wr
  have hplen : (partsR (rowsR (gOf n wl fl dl sl))).length ≤ 300 := by
    unfold partsR
    rw [List.length_map]
    exact rowsR_len n7 bk.d.o.l
  have hpart : ∀ p ∈ partsR (rowsR (gOf n wl fl dl sl)), PartOk p ∧ p ≠ "" ∧ badH p = true := fun p hp => by
    obtain ⟨x, hx, rfl⟩ := List.mem_map.mp hp
    exact ⟨good_part n2 (hgood x hx), row_ne x, row_badH x⟩
  have htwice : ∀ x y, (gOf n wl fl dl sl).T x y = true → inN n x → inN n y → tellAll (GS.new n) (partsR (rowsR (gOf n wl fl dl sl)) ++ [lnS (Rw.way y x).row]) = none := fun x y h1 h2 h3 => twice_none wr h1 h2 h3
  have hT : ∀ p ∈ wl, (gOf n wl fl dl sl).T p.1 p.2 = true ∧ inN n p.1 ∧ inN n p.2 ∧ p.1 ≠ p.2 := fun p hp => by
    have := bk.w.k p hp
    refine ⟨?_, ⟨by omega, by omega⟩, ⟨by omega, by omega⟩, by omega⟩
    show decide ((min p.1 p.2, max p.1 p.2) ∈ wl) = true
    rw [Int.min_eq_left (by omega), Int.max_eq_right (by omega)]
    exact decide_eq_true hp
  generalize partsR (rowsR (gOf n wl fl dl sl)) = ps at hplen hpart htwice
  have hhead : PartOk (lnS (headRow n)) := head_part n2
  have hps : ∀ p ∈ ps, PartOk p := fun p hp => (hpart p hp).1
  have hall : ∀ p ∈ lnS (headRow n) :: ps, PartOk p := fun p hp => by
    rcases List.mem_cons.mp hp with rfl | hp
    · exact hhead
    · exact hps p hp
  simp only [t_k09_law_spoiled, N_k09_law_spoiled, dstart, List.map_cons, List.map_nil, List.length_cons, List.length_nil, List.cons_append, List.nil_append, List.replicate, Nat.add_one_sub_one, Nat.reduceAdd, Nat.reduceSub, Nat.sub_self, Nat.sub_zero]
  rw [dSeq_ap]
  simp only [dAsg, dCall, dCons, dNil, dLst, dC, dVar, newL, dgN, List.set_cons_zero, List.set_cons_succ, List.getElem?_cons_zero, List.getElem?_cons_succ]
  refine ⟨by simp [hs], x_law_line (l := headRow n) rfl (fun d hd => ?_) (by simp [headRow]) ?_⟩
  · simp only [headRow, List.mem_cons, List.not_mem_nil, or_false] at hd
    rcases hd with rfl | rfl
    · exact okW_str
    · exact okW_sm ⟨by omega, by omega⟩
  rw [head_dS]
  have hne : lnS (headRow n) ≠ ("" : Str) := fun h => by
    have e4 : Txt.split (lnS (headRow n)) " " = [("houses" : Str), numS n] := ln_split (w := "houses") (ns := [(n : Int)]) tl_houses
    rw [h, show Txt.split ("" : Str) " " = [("" : Str)] by decide +kernel] at e4
    cases e4
  have hrd : ∀ r : List Str, (∀ p ∈ r, PartOk p) → readS (linesT (lnS (headRow n) :: r)) = tellAll (GS.new n) r := fun r hr => rd_head bk.n1 n2 fun p hp => by
    rcases List.mem_cons.mp hp with rfl | hp
    · exact hhead
    · exact hr p hp
  generalize lnS (headRow n) = hd at hhead hall hne hrd
  (try dsimp only)
  rw [dSeq_ap]
  simp only [dAsg, dOp, dCB, dCons, dNil, dC, dVar, dgN, List.set_cons_zero, List.set_cons_succ, List.getElem?_cons_zero, List.getElem?_cons_succ, fdivD, modD, iiD, lenD, lenS, vm, List.length_map, addD, addI, iiD0]
  refine ⟨⟨by decide, by decide⟩, by omega, ?_⟩
  have at0 : 0 ≤ cell / 14 % ((ps.length : Int) + 1) := Int.emod_nonneg _ (by omega)
  have at1 : cell / 14 % ((ps.length : Int) + 1) < (ps.length : Int) + 1 := Int.emod_lt_of_pos _ (by omega)
  obtain ⟨k, ek⟩ : ∃ k : Nat, cell / 14 % ((ps.length : Int) + 1) = (k : Int) := ⟨_, (Int.toNat_of_nonneg at0).symm⟩
  rw [ek]
  (try dsimp only)
  rw [dSeq_ap]
  simp only [dAsg, dOp, dC, dVar, dgN, List.set_cons_zero, List.set_cons_succ, List.getElem?_cons_zero, List.getElem?_cons_succ, modD, iiD]
  refine ⟨by decide, ?_⟩
  generalize cell % 7 = kind
  (try dsimp only)
  rw [dSeq_ap]
  simp only [dIfS, dB, dOp, dC, dVar, List.getElem?_cons_zero, List.getElem?_cons_succ]
  refine eqR_i ?_
  by_cases k0 : kind = 0
  · rw [decide_eq_true k0]
    simp only [Bool.false_xor, ↓reduceIte, dRet, dJoin_K]
    simp only [dOp, dLst, dCall, dCons, dNil, dC, dVar, List.getElem?_cons_zero, List.getElem?_cons_succ, fdivD, iiD]
    refine ⟨⟨by decide, by decide⟩, x_law_bad_first fun z hz => ?_⟩
    have hz1 := badf_part z hz
    have hz2 := badh_all z hz
    have hl1 := hz1.l
    have hall2 : ∀ p ∈ z :: ps, PartOk p := fun p hp => by
      rcases List.mem_cons.mp hp with rfl | hp
      · exact hz1
      · exact hps p hp
    simp only [addD, scatD, catD, newL, vm]
    have l1 : ("\n" : Str).length = 1 := by decide
    refine ⟨by omega, by simp [hs], by simp only [List.length_cons, List.length_nil, List.length_map]; omega, ?_⟩
    refine join_ls (ps := z :: ps) hall2 (by rw [List.length_cons]; omega) (fun r er => ?_) rfl
    rw [er]
    exact rt_of (q _ (linesT_rdbl hall2 (by rw [List.length_cons]; omega)) (rd_badH hall2 hz2))
  rw [decide_eq_false k0]
  simp only [Bool.false_xor, Bool.false_eq_true, ↓reduceIte, dNext]
  rw [dSeq_ap]
  simp only [dIfS, dB, dOp, dC, dVar, List.getElem?_cons_zero, List.getElem?_cons_succ]
  refine eqR_i ?_
  have hall1 := linesT_length hall (by rw [List.length_cons]; omega)
  by_cases k1 : kind = 1
  · rw [decide_eq_true k1]
    simp only [Bool.false_xor, ↓reduceIte, dRet, dSlS, dJoin_K]
    simp only [dOp, dLst, dCons, dNil, dC, dVar, List.getElem?_cons_zero, List.getElem?_cons_succ, addD, catD, newL, vm]
    refine ⟨by simp [hs], by simp only [List.length_cons, List.length_nil, List.length_map]; omega, ?_⟩
    refine join_ls (ps := hd :: ps) hall (by rw [List.length_cons]; omega) (fun r er => ?_) rfl
    rw [er]
    simp only [doNone, doSome, dNeg, dC, slsk]
    refine ⟨by omega, ?_⟩
    refine rt_of (q _ (cut_rdbl (by simp) hall (by rw [List.length_cons]; omega)) (rd_cut (by simp) hall fun z => ?_))
    rcases List.mem_cons.mp (List.mem_of_getLast? z) with e | hm
    · exact hne e.symm
    · exact (hpart _ hm).2.1 rfl
  rw [decide_eq_false k1]
  simp only [Bool.false_xor, Bool.false_eq_true, ↓reduceIte, dNext]
  exact spoiled_5 K a S Q E q n n2 wl cell kind k hd ps (by omega) hplen hhead hpart hT hrd htwice

end DL
namespace DL
open PySem L2
open TL PySem.NumText
def likeR (r : Int) (k : List Int) : Rw := .like (k.getD 0 0) (k.getD 1 0) r
def preR (fl : KL) (c : Int) : List Rw := (fl.map (·.1)).map (likeR (5 + c % 3))
def zerK (fl : KL) (k : List Int) : Bool := decide ((kget fl k).getD 0 = 0)
def zerR (fl : KL) : List Rw := ((fl.map (·.1)).filter (zerK fl)).map (likeR 0)
def swapR (c : Int) : Rw → Rw
  | .way a b => if c / 7 % 2 = 1 then .way b a else .way a b
  | x => x
def firstR (c : Int) : Rw → List Rw
  | .wish l _ => if c / 14 % 3 = 1 then [.wish l (5 + c % 4)] else []
  | _ => []
def againR (c : Int) : Rw → List Rw
  | .way _ _ => []
  | x => if c / 42 % 2 = 1 then [x] else []
def varR (c : Int) (x : Rw) : List Rw := firstR c x ++ againR c x ++ [swapR c x]
def rotR (k : Nat) (xs : List Rw) : List Rw := xs.drop k ++ xs.take k
def outR (fl : KL) (c : Int) (k : Nat) (xs : List Rw) : List Rw := preR fl c ++ zerR fl ++ (rotR k xs).flatMap (varR c)
theorem rot_mem {k : Nat} {xs : List Rw} {x : Rw} : x ∈ rotR k xs ↔ x ∈ xs := by
  unfold rotR
  rw [List.mem_append, Or.comm, ← List.mem_append, List.take_append_drop]
theorem var_len (c : Int) (x : Rw) : (varR c x).length ≤ 3 := by
  unfold varR firstR againR
  simp only [List.length_append, List.length_singleton]
  cases x <;> dsimp only <;> (repeat' split) <;> simp
theorem vars_len (c : Int) (xs : List Rw) : (xs.flatMap (varR c)).length ≤ xs.length * 3 := by
  induction xs with
  | nil => simp
  | cons x r ih =>
    rw [List.flatMap_cons, List.length_append, List.length_cons]
    have := var_len c x
    omega
theorem out_len {fl : KL} {c : Int} {k : Nat} {xs : List Rw} (h1 : fl.length ≤ 100) (h2 : xs.length ≤ 300) : (outR fl c k xs).length ≤ 1100 := by
  have h3 := vars_len c (rotR k xs)
  have h4 : (rotR k xs).length = xs.length := by
    unfold rotR
    rw [List.length_append, List.length_drop, List.length_take]; omega
  have h5 := List.length_filter_le (zerK fl) (fl.map (·.1))
  rw [List.length_map] at h5
  unfold outR preR zerR
  simp only [List.length_append, List.length_map]
  omega
theorem cut_line (p : Str) : cutS (endS p) none (some (-1)) = p := by
  refine ext_tl ?_
  rw [tl_cutLast, tl_append, tl_feed, List.dropLast_concat]
theorem vars_snoc (c : Int) (ws pre : List Rw) (x : Rw) : (partsR (ws ++ (pre ++ [x]).flatMap (varR c))).map dS = (partsR (ws ++ pre.flatMap (varR c))).map dS ++ (partsR (varR c x)).map dS := by
  unfold partsR
  rw [List.flatMap_append, List.flatMap_singleton, ← List.append_assoc, List.map_append, List.map_append]
theorem row_dS (x : Rw) : D.str (lineS x.row) = dS (lnS x.row) := rfl
theorem rows_dS (xs : List Rw) : (partsR xs).map dS = xs.map fun x => dS (lnS x.row) := by unfold partsR; rw [List.map_map]; rfl
theorem way_cons (x : Rw) (r : List Rw) : wayL (x :: r) = wayL [x] ++ wayL r := by cases x <;> rfl
theorem shun_cons (x : Rw) (r : List Rw) : shunL (x :: r) = shunL [x] ++ shunL r := by cases x <;> rfl
theorem lastF_cons (u v : Int) (x : Rw) (r : List Rw) : lastF u v (x :: r) = (lastF u v r).or (lastF u v [x]) := lastF_app u v [x] r
theorem lastL_cons (q : List Int) (x : Rw) (r : List Rw) : lastL q (x :: r) = (lastL q r).or (lastL q [x]) := lastL_app q [x] r
theorem var_way (c : Int) (x : Rw) : wayL (varR c x) = wayL [x] := by
  cases x with
  | way a b =>
    unfold varR firstR againR swapR
    dsimp only
    by_cases h : c / 7 % 2 = 1
    · rw [if_pos h]
      simp only [List.nil_append, wayL, Int.min_comm b a, Int.max_comm b a]
    · rw [if_neg h]; rfl
  | like a b r =>
    unfold varR firstR againR swapR
    by_cases h : c / 42 % 2 = 1 <;> simp [h, wayL]
  | shun a b =>
    unfold varR firstR againR swapR
    by_cases h : c / 42 % 2 = 1 <;> simp [h, wayL]
  | wish l r =>
    unfold varR firstR againR swapR
    by_cases h : c / 42 % 2 = 1 <;> by_cases h2 : c / 14 % 3 = 1 <;> simp [h, h2, wayL]
theorem var_shun (c : Int) (x : Rw) (p : Int × Int) : p ∈ shunL (varR c x) ↔ p ∈ shunL [x] := by
  unfold varR firstR againR swapR
  cases x with
  | way a b => by_cases h : c / 7 % 2 = 1 <;> simp [h, shunL]
  | like a b r => by_cases h : c / 42 % 2 = 1 <;> simp [h, shunL]
  | shun a b => by_cases h : c / 42 % 2 = 1 <;> simp [h, shunL]
  | wish l r => by_cases h : c / 42 % 2 = 1 <;> by_cases h2 : c / 14 % 3 = 1 <;> simp [h, h2, shunL]
theorem var_F (c : Int) (x : Rw) (u v : Int) : lastF u v (varR c x) = lastF u v [x] := by
  unfold varR firstR againR swapR
  cases x with
  | way a b => by_cases h : c / 7 % 2 = 1 <;> simp [h, lastF]
  | like a b r => by_cases h : c / 42 % 2 = 1 <;> by_cases e : u = a ∧ v = b <;> simp [h, e, lastF]
  | shun a b => by_cases h : c / 42 % 2 = 1 <;> simp [h, lastF]
  | wish l r => by_cases h : c / 42 % 2 = 1 <;> by_cases h2 : c / 14 % 3 = 1 <;> simp [h, h2, lastF]
theorem var_L (c : Int) (x : Rw) (q : List Int) : lastL q (varR c x) = lastL q [x] := by
  unfold varR firstR againR swapR
  cases x with
  | way a b => by_cases h : c / 7 % 2 = 1 <;> simp [h, lastL]
  | like a b r => by_cases h : c / 42 % 2 = 1 <;> simp [h, lastL]
  | shun a b => by_cases h : c / 42 % 2 = 1 <;> simp [h, lastL]
  | wish l r => by_cases h : c / 42 % 2 = 1 <;> by_cases h2 : c / 14 % 3 = 1 <;> by_cases e : q = l <;> simp [h, h2, e, lastL]
theorem flat_way (c : Int) : ∀ xs : List Rw, wayL (xs.flatMap (varR c)) = wayL xs
  | [] => rfl
  | x :: r => by rw [List.flatMap_cons, wayL_app, var_way, flat_way c r, ← way_cons]
theorem flat_shun (c : Int) (p : Int × Int) : ∀ xs : List Rw, p ∈ shunL (xs.flatMap (varR c)) ↔ p ∈ shunL xs
  | [] => Iff.rfl
  | x :: r => by rw [List.flatMap_cons, shunL_app, shun_cons, List.mem_append, List.mem_append, var_shun, flat_shun c p r]
theorem flat_F (c u v : Int) : ∀ xs : List Rw, lastF u v (xs.flatMap (varR c)) = lastF u v xs
  | [] => rfl
  | x :: r => by rw [List.flatMap_cons, lastF_app, var_F, flat_F c u v r, ← lastF_cons]
theorem flat_L (c : Int) (q : List Int) : ∀ xs : List Rw, lastL q (xs.flatMap (varR c)) = lastL q xs
  | [] => rfl
  | x :: r => by rw [List.flatMap_cons, lastL_app, var_L, flat_L c q r, ← lastL_cons]
theorem lastF_mem {u v k : Int} : ∀ {xs : List Rw}, lastF u v xs = some k → Rw.like u v k ∈ xs
  | [], h => by cases h
  | x :: r, h => by
    rw [lastF_cons] at h
    cases e : lastF u v r with
    | some w => rw [e] at h; cases h; exact List.mem_cons_of_mem _ (lastF_mem e)
    | none =>
      rw [e] at h
      have h2 : lastF u v [x] = some k := h
      cases x with
      | like a b m =>
        simp only [lastF] at h2
        by_cases c : u = a ∧ v = b
        · rw [if_pos c] at h2
          cases h2
          rw [c.1, c.2]
          exact List.mem_cons_self
        · rw [if_neg c] at h2; cases h2
      | way a b => cases h2
      | shun a b => cases h2
      | wish a b => cases h2
theorem lastF_ne {u v k : Int} : ∀ {xs : List Rw}, Rw.like u v k ∈ xs → lastF u v xs ≠ none
  | x :: r, h => by
    rw [lastF_cons]
    rcases List.mem_cons.mp h with rfl | h
    · intro z
      cases e : lastF u v r with
      | some w => rw [e] at z; cases z
      | none => rw [e] at z; simp [lastF] at z
    · intro z
      cases e : lastF u v r with
      | some w => rw [e] at z; cases z
      | none => exact lastF_ne h e
theorem lastL_mem {q : List Int} {k : Int} : ∀ {xs : List Rw}, lastL q xs = some k → Rw.wish q k ∈ xs
  | [], h => by cases h
  | x :: r, h => by
    rw [lastL_cons] at h
    cases e : lastL q r with
    | some w => rw [e] at h; cases h; exact List.mem_cons_of_mem _ (lastL_mem e)
    | none =>
      rw [e] at h
      have h2 : lastL q [x] = some k := h
      cases x with
      | wish a m =>
        simp only [lastL] at h2
        by_cases c : q = a
        · rw [if_pos c] at h2
          cases h2
          rw [c]
          exact List.mem_cons_self
        · rw [if_neg c] at h2; cases h2
      | way a b => cases h2
      | shun a b => cases h2
      | like a b c => cases h2
theorem or_swap {a b : Option Int} (h : ∀ x y, a = some x → b = some y → x = y) : a.or b = b.or a := by
  cases a with
  | none => cases b <;> rfl
  | some x =>
    cases b with
    | none => rfl
    | some y => rw [h x y rfl rfl]
theorem rot_F {R : List Rw} (k : Nat) (u v : Int) (h : ∀ m m', Rw.like u v m ∈ R → Rw.like u v m' ∈ R → m = m') : lastF u v (rotR k R) = lastF u v R := by
  have e : lastF u v R = lastF u v (R.take k ++ R.drop k) := by rw [List.take_append_drop]
  rw [e]
  unfold rotR
  rw [lastF_app, lastF_app]
  exact or_swap fun x y hx hy => h x y (List.mem_of_mem_take (lastF_mem hx)) (List.mem_of_mem_drop (lastF_mem hy))
theorem rot_L {R : List Rw} (k : Nat) (q : List Int) (h : ∀ m m', Rw.wish q m ∈ R → Rw.wish q m' ∈ R → m = m') : lastL q (rotR k R) = lastL q R := by
  have e : lastL q R = lastL q (R.take k ++ R.drop k) := by rw [List.take_append_drop]
  rw [e]
  unfold rotR
  rw [lastL_app, lastL_app]
  exact or_swap fun x y hx hy => h x y (List.mem_of_mem_take (lastL_mem hx)) (List.mem_of_mem_drop (lastL_mem hy))
theorem rot_way {R : List Rw} (k : Nat) : (wayL (rotR k R)).Perm (wayL R) := by
  have e : wayL R = wayL (R.take k ++ R.drop k) := by rw [List.take_append_drop]
  rw [e]
  unfold rotR
  rw [wayL_app, wayL_app]
  exact List.perm_append_comm
theorem rot_shun {R : List Rw} (k : Nat) (p : Int × Int) : p ∈ shunL (rotR k R) ↔ p ∈ shunL R := by
  have e : shunL R = shunL (R.take k ++ R.drop k) := by rw [List.take_append_drop]
  rw [e]
  unfold rotR
  rw [shunL_app, shunL_app, List.mem_append, List.mem_append, Or.comm]
theorem likes_way (r : Int) (ks : List (List Int)) : wayL (ks.map (likeR r)) = [] := by
  induction ks with
  | nil => rfl
  | cons k ks ih => exact ih
theorem likes_shun (r : Int) (ks : List (List Int)) : shunL (ks.map (likeR r)) = [] := by
  induction ks with
  | nil => rfl
  | cons k ks ih => exact ih
theorem likes_L (r : Int) (q : List Int) (ks : List (List Int)) : lastL q (ks.map (likeR r)) = none := by
  induction ks with
  | nil => rfl
  | cons k ks ih => exact ih
theorem var_good {n : Nat} {c : Int} {x y : Rw} (h : y.good n) (hx : x ∈ varR c y) : x.good n := by
  unfold varR at hx
  rcases List.mem_append.mp hx with hx | hx
  · rcases List.mem_append.mp hx with hx | hx
    · unfold firstR at hx
      cases y with
      | wish l r =>
        dsimp only at hx
        split at hx
        · rw [List.mem_singleton.mp hx]
          exact ⟨h.1, by show Int.natAbs (5 + c % 4) < 10 ^ 60; omega⟩
        · cases hx
      | way _ _ => cases hx
      | like _ _ _ => cases hx
      | shun _ _ => cases hx
    · unfold againR at hx
      cases y with
      | way _ _ => cases hx
      | _ =>
        dsimp only at hx
        split at hx
        · rw [List.mem_singleton.mp hx]; exact h
        · cases hx
  · rw [List.mem_singleton.mp hx]
    unfold swapR
    cases y with
    | way a b =>
      dsimp only
      split
      · exact ⟨h.2.1, h.1, Ne.symm h.2.2⟩
      · exact h
    | _ => exact h
theorem row_like {s : GS} {u v m : Int} (h : Rw.like u v m ∈ rowsR s) : m = s.F u v := by
  unfold rowsR at h
  simp only [List.mem_append, List.mem_map] at h
  rcases h with ((⟨p, _, e⟩ | ⟨p, _, e⟩) | ⟨p, _, e⟩) | ⟨p, _, e⟩
  · cases e
  · cases e; rfl
  · cases e
  · cases e
theorem row_wish {s : GS} {q : List Int} {m : Int} (h : Rw.wish q m ∈ rowsR s) : m = (kget s.L q).getD 0 := by
  unfold rowsR at h
  simp only [List.mem_append, List.mem_map] at h
  rcases h with ((⟨p, _, e⟩ | ⟨p, _, e⟩) | ⟨p, _, e⟩) | ⟨p, hp, e⟩
  · cases e
  · cases e
  · cases e
  · cases e
    unfold wishesOf at hp
    obtain ⟨k, _, rfl⟩ := List.mem_map.mp hp
    rfl
theorem rows_nodup {s : GS} (h : Wr s) : (wayL (rowsR s)).Nodup := by
  have hlt : ∀ p ∈ lexP s.n (ltR s.T), p.1 < p.2 := fun p hp => by
    have := (lexK_mem.mp hp).2.2
    unfold ltR at this
    simp only [Bool.and_eq_true, decide_eq_true_eq] at this
    exact this.1
  have hways : wayL (rowsR s) = lexP s.n (ltR s.T) := by
    unfold rowsR
    rw [wayL_app, wayL_app, wayL_app, wayL_map _ hlt]
    rw [wayL_like (lexP s.n (nzR s.F)) fun p => (p.1, p.2, s.F p.1 p.2), wayL_shun (lexP s.n s.H) fun p => p, wayL_wish (wishesOf s.L) fun p => p]
    simp
  rw [hways]
  exact lexP_nodup _ _
theorem mess_read {n : Nat} {wl : WL} {fl dl : KL} {sl : WL} (bk : BookOk n wl fl dl sl) (c : Int) (k : Nat) :
    (∀ x ∈ outR fl c k (rowsR (gOf n wl fl dl sl)), x.good n) ∧ ∃ s', tellAll (GS.new n) (partsR (outR fl c k (rowsR (gOf n wl fl dl sl)))) = some s' ∧ Agree s' (gOf n wl fl dl sl) ∧ (s'.L.map (·.1)).Nodup := by
  have wr := bk.wr
  have n2 := bk.n2
  obtain ⟨h1, h2⟩ := rows_read wr
  have hgR := rowsR_good wr
  have en : (gOf n wl fl dl sl).n = n := rfl
  have hkey : ∀ ky ∈ fl.map (·.1), ∃ x y : Int, ky = [x, y] ∧ (0 ≤ x ∧ x < n) ∧ (0 ≤ y ∧ y < n) := fun ky hk => by
    obtain ⟨qk, hqk, rfl⟩ := List.mem_map.mp hk
    exact bk.f.o.k qk hqk
  have hgl : ∀ r : Int, small r → ∀ ky ∈ fl.map (·.1), (likeR r ky).good n := fun r hr ky hk => by
    obtain ⟨x, y, rfl, hx, hy⟩ := hkey ky hk
    exact ⟨hx, hy, hr⟩
  have hgood : ∀ x ∈ outR fl c k (rowsR (gOf n wl fl dl sl)), x.good n := fun x hx => by
    unfold outR preR zerR at hx
    rcases List.mem_append.mp hx with hx | hx
    · rcases List.mem_append.mp hx with hx | hx
      · obtain ⟨ky, hk, rfl⟩ := List.mem_map.mp hx
        exact hgl _ (by show Int.natAbs (5 + c % 3) < 10 ^ 60; omega) ky hk
      · obtain ⟨ky, hk, rfl⟩ := List.mem_map.mp hx
        exact hgl _ (by show Int.natAbs 0 < 10 ^ 60; decide) ky (List.mem_filter.mp hk).1
    · obtain ⟨y, hy, hx⟩ := List.mem_flatMap.mp hx
      exact var_good (hgR y (rot_mem.mp hy)) hx
  have hway : wayL (outR fl c k (rowsR (gOf n wl fl dl sl))) = wayL (rotR k (rowsR (gOf n wl fl dl sl))) := by
    unfold outR preR zerR
    rw [wayL_app, wayL_app, likes_way, likes_way, flat_way]; rfl
  have hfR : ∀ u v m m', Rw.like u v m ∈ rowsR (gOf n wl fl dl sl) → Rw.like u v m' ∈ rowsR (gOf n wl fl dl sl) → m = m' := fun u v m m' a b => (row_like a).trans (row_like b).symm
  have hlR : ∀ q m m', Rw.wish q m ∈ rowsR (gOf n wl fl dl sl) → Rw.wish q m' ∈ rowsR (gOf n wl fl dl sl) → m = m' := fun q m m' a b => (row_wish a).trans (row_wish b).symm
  have hwayR : (wayL (rowsR (gOf n wl fl dl sl))).Nodup := rows_nodup wr
  generalize rowsR (gOf n wl fl dl sl) = R at *
  refine ⟨hgood, _, tell_rows _ (GS.new n) n2 hgood (by rw [hway]; exact (rot_way k).nodup_iff.mpr hwayR) fun _ _ _ => rfl, Agree.trans (t := R.foldl Rw.step (GS.new n)) ?_ h2, fold_nodup _ _ List.nodup_nil⟩
  have hn : (R.foldl Rw.step (GS.new n)).n = n := fold_n _ _
  refine ⟨(fold_n _ _).trans (fold_n _ _).symm, fun x y _ _ _ _ => ?_, fun x y _ _ _ _ => ?_, fun x y hx0 hx1 hy0 hy1 => ?_, ?_⟩
  · rw [fold_T, fold_T]
    congr 1
    rw [hway]
    exact decide_eq_decide.mpr (rot_way k).mem_iff
  · rw [fold_H, fold_H]
    congr 1
    refine decide_eq_decide.mpr ?_
    unfold outR preR zerR
    rw [shunL_app, shunL_app, likes_shun, likes_shun, List.nil_append, List.nil_append, flat_shun, rot_shun]
  · have hF := h2.F x y hx0 (by rw [← h2.n]; exact hx1) hy0 (by rw [← h2.n]; exact hy1)
    rw [fold_F] at hF
    rw [fold_F, fold_F]
    have eout : lastF x y (outR fl c k R) = (lastF x y R).or ((lastF x y (zerR fl)).or (lastF x y (preR fl c))) := by
      unfold outR
      rw [lastF_app, lastF_app, flat_F, rot_F k x y (hfR x y)]
    rw [eout]
    cases e : lastF x y R with
    | some v => rfl
    | none =>
      rw [e] at hF
      have h0 : (0 : Int) = (kget fl [x, y]).getD 0 := hF
      show ((lastF x y (zerR fl)).or (lastF x y (preR fl c))).getD 0 = 0
      cases e2 : lastF x y (zerR fl) with
      | some v =>
        have hm := lastF_mem e2
        unfold zerR at hm
        obtain ⟨ky, _, e3⟩ := List.mem_map.mp hm
        unfold likeR at e3
        cases e3
        rfl
      | none =>
        cases e3 : lastF x y (preR fl c) with
        | none => rfl
        | some v =>
          exfalso
          have hm := lastF_mem e3
          unfold preR at hm
          obtain ⟨ky, hky, e4⟩ := List.mem_map.mp hm
          obtain ⟨x', y', rfl, _, _⟩ := hkey ky hky
          have e5 : Rw.like x' y' (5 + c % 3) = Rw.like x y v := e4
          injection e5 with e6 e7 _
          subst e6 e7
          refine lastF_ne (k := 0) (xs := zerR fl) ?_ e2
          unfold zerR
          exact List.mem_map.mpr ⟨[x', y'], List.mem_filter.mpr ⟨hky, decide_eq_true h0.symm⟩, rfl⟩
  · refine wishes_same (fold_nodup _ _ List.nodup_nil) (fold_nodup _ _ List.nodup_nil) fun q => ?_
    rw [fold_L, fold_L]
    have eout : lastL q (outR fl c k R) = lastL q R := by
      unfold outR preR zerR
      rw [lastL_app, lastL_app, likes_L, likes_L, flat_L, rot_L k q (hlR q)]
      cases lastL q R <;> rfl
    rw [eout]

end DL
namespace DL
open PySem L2
def t_law_other_order_5 (K : PySem.W.Frag) (a : CA) (W : WD) : TDS :=
  (dSeq (dFor (dVar 0) (dgN 6)
    (dSeq (dAsg (dSplit (dSlS (dVar 6) doNone (doSome (dNeg (dC (.int 1))))) (dC (.str " "))) (dgN 7))
    (dSeq (dIfS (dAndT (dB (dOp (eqR false) (dOp ixD (dVar 7) (dC (.int 0))) (dC (.str "way")))) (dB (dOp (eqR false) (dOp modD (dOp fdivD (dVar 2) (dC (.int 7))) (dC (.int 2))) (dC (.int 1)))))
      (dAsg (dCall (sp_law_line a) W (dCons (dLst false (dCons (dC (.str "way")) (dCons (dOp ixD (dVar 7) (dC (.int 2))) (dCons (dOp ixD (dVar 7) (dC (.int 1))) dNil)))) dNil)) (dgN 6))
      (dIfS (dAndT (dB (dOp (eqR false) (dOp ixD (dVar 7) (dC (.int 0))) (dC (.str "wish")))) (dB (dOp (eqR false) (dOp modD (dOp fdivD (dVar 2) (dC (.int 14))) (dC (.int 3))) (dC (.int 1)))))
        (dDrop (dLM appendD (dVar 3) (dCons (dCall (sp_law_line a) W (dCons (dOp (addD false) (dLst false (dCons (dC (.str "wish")) (dCons (dOp (addD false) (dC (.int 5)) (dOp modD (dVar 2) (dC (.int 4)))) dNil))) (dSlL false (dVar 7) (doSome (dC (.int 2))) doNone)) dNil)) dNil)))
        dNext))
    (dSeq (dIfS (dAndT (dB (dOp (eqR true) (dOp ixD (dVar 7) (dC (.int 0))) (dC (.str "way")))) (dB (dOp (eqR false) (dOp modD (dOp fdivD (dVar 2) (dC (.int 42))) (dC (.int 2))) (dC (.int 1)))))
      (dDrop (dLM appendD (dVar 3) (dCons (dVar 6) dNil)))
      dNext)
    (dDrop (dLM appendD (dVar 3) (dCons (dVar 6) dNil)))))))
  (dRet (dFrz (dVar 3))))
def t_law_other_order_2 (K : PySem.W.Frag) (a : CA) (W : WD) : TDS :=
  (dSeq (dAsg (dOp modD (dVar 2) (dOp (addD false) (dCB lenD (dCons (dVar 0) dNil)) (dC (.int 1)))) (dgN 5))
  (dSeq (dAsg (dOp (addD false) (dSlL false (dVar 0) (doSome (dVar 5)) doNone) (dSlL false (dVar 0) doNone (doSome (dVar 5)))) (dgN 0))
  (dSeq (dFor (dCB (listD false) (dCons (dVar 1) dNil)) (dgN 4)
    (dIfS (dB (dOp (eqR false) (dOp ixD (dVar 1) (dVar 4)) (dC (.int 0))))
      (dDrop (dLM appendD (dVar 3) (dCons (dCall (sp_law_line a) W (dCons (dLst false (dCons (dC (.str "like")) (dCons (dOp ixD (dVar 4) (dC (.int 0))) (dCons (dOp ixD (dVar 4) (dC (.int 1))) (dCons (dC (.int 0)) dNil))))) dNil)) dNil)))
      dNext))
  (t_law_other_order_5 K a W))))
def t_law_other_order (K : PySem.W.Frag) (a : CA) (W : WD) : TDS :=
  (dSeq (dAsg (dLst true dNil) (dgN 3))
  (dSeq (dFor (dCB (listD false) (dCons (dVar 1) dNil)) (dgN 4)
    (dDrop (dLM appendD (dVar 3) (dCons (dCall (sp_law_line a) W (dCons (dLst false (dCons (dC (.str "like")) (dCons (dOp ixD (dVar 4) (dC (.int 0))) (dCons (dOp ixD (dVar 4) (dC (.int 1))) (dCons (dOp (addD false) (dC (.int 5)) (dOp modD (dVar 2) (dC (.int 3)))) dNil))))) dNil)) dNil))))
  (t_law_other_order_2 K a W)))
abbrev N_law_other_order : List Str := ["lines", "fond", "cell", "out", "pair", "cut", "line", "words"]
open TL PySem.NumText
def sp_law_other_order (a : CA) : DSp := fun ds S P E => ∃ (n : Nat) (xs : List Rw) (pf : Addr) (fl : KL) (c : Int), ds = [.lst ((partsR xs).map dS), .ref pf, .int c] ∧ n ≤ 60 ∧ S pf = some (.dI (fl.map eKV)) ∧ FondN n fl ∧ (∀ x ∈ xs, x.good n) ∧ xs.length ≤ 300 ∧
  ∀ k : Nat, P (.lst ((partsR (outR fl c k xs)).map dS)) S
theorem len_law_other_order (a : CA) (ds : List D) (S : Sto) (Q : D → Sto → Prop) (E : Addr → Sto → Prop) (h : sp_law_other_order a ds S Q E) : ds.length = ["lines", "fond", "cell"].length := by
  obtain ⟨_, _, _, _, _, rfl, _⟩ := h; rfl
theorem wtest {neg : Bool} {w c : Str} {r : List D} {ρ : Env'} {S : Sto} {P : Bool → Sto → Prop} (h : ρ[7]? = some (some (.lst (.str w :: r)))) (hw : PyData.strOk w = true) (hc : PyData.strOk c = true) (q : P (neg ^^ decide (w = c)) S) : dB (dOp (eqR neg) (dOp ixD (dVar 7) (dC (.int 0))) (dC (.str c))) ρ S P := by
  simp only [dB, dOp, dVar, dC, h, ixD, ixLK, vl, vm, ixL, at_0]
  exact eqS hw hc q
theorem ctest {i j k c : Int} {ρ : Env'} {S : Sto} {P : Bool → Sto → Prop} (h : ρ[2]? = some (some (.int c))) (hi : CDiv c i) (hj : 0 < j) (q : P (decide (c / i % j = k)) S) : dB (dOp (eqR false) (dOp modD (dOp fdivD (dVar 2) (dC (.int i))) (dC (.int j))) (dC (.int k))) ρ S P := by
  simp only [dB, dOp, dVar, dC, h, fdivD, modD, iiD]
  exact ⟨hi, hj, eqR_i (by rw [Bool.false_xor]; exact q)⟩
abbrev ooB (neg : Bool) (w : Str) (i j : Int) : TDT := dAndT (dB (dOp (eqR neg) (dOp ixD (dVar 7) (dC (.int 0))) (dC (.str w)))) (dB (dOp (eqR false) (dOp modD (dOp fdivD (dVar 2) (dC (.int i))) (dC (.int j))) (dC (.int 1))))
theorem oo_test {neg : Bool} {w z : Str} {i j c : Int} {r : List D} {o0 o1 o3 o4 o5 o6 : Option D} {S : Sto} {P : Bool → Sto → Prop} (hw : PyData.strOk w = true) (hz : PyData.strOk z = true) (hi : CDiv c i) (hj : 0 < j) (q : P ((neg ^^ decide (w = z)) && decide (c / i % j = 1)) S) :
    ooB neg z i j [o0, o1, some (.int c), o3, o4, o5, o6, some (.lst (.str w :: r))] S P := by
  simp only [ooB, dAndT]
  refine wtest (r := r) rfl hw hz ?_
  cases e : (neg ^^ decide (w = z)) with
  | true =>
    rw [if_pos rfl]
    rw [e, Bool.true_and] at q
    exact ctest rfl hi hj q
  | false =>
    rw [if_neg (by decide)]
    rw [e, Bool.false_and] at q
    exact q
theorem oo_again {w : Str} {c : Int} {r : List D} {o0 o1 o4 o5 : Option D} {z : D} {p : Addr} {W : List D} {S : Sto} {E : DEnds} (hw : PyData.strOk w = true) (hl : W.length ≤ 1200)
    (q : E.nx [o0, o1, some (.int c), some (.ref p), o4, o5, some z, some (.lst (.str w :: r))] (su S p (.ml (W ++ (if w ≠ "way" ∧ c / 42 % 2 = 1 then [z] else []) ++ [z])))) :
    dSeq (dIfS (ooB true "way" 42 2) (dDrop (dLM appendD (dVar 3) (dCons (dVar 6) dNil))) dNext) (dDrop (dLM appendD (dVar 3) (dCons (dVar 6) dNil))) E [o0, o1, some (.int c), some (.ref p), o4, o5, some z, some (.lst (.str w :: r))] (su S p (.ml W)) := by
  have hs : sizeLine = 2 ^ 24 := rfl
  rw [dSeq_ap]
  simp only [dIfS]
  refine oo_test hw (by decide +kernel) ⟨by decide, by decide⟩ (by decide) ?_
  by_cases h : w ≠ "way" ∧ c / 42 % 2 = 1
  · rw [if_pos h] at q
    rw [decide_eq_false h.1, decide_eq_true h.2]
    simp only [Bool.true_xor, Bool.not_false, Bool.true_and, ↓reduceIte, dDrop, dLM, dCons, dNil, dVar, List.getElem?_cons_zero, List.getElem?_cons_succ, vm, su_same, Option.isSome_some, true_and]
    refine append_at su_same (by omega) ?_
    rw [su_su]
    simp only [vm, su_same, Option.isSome_some, true_and]
    refine append_at su_same (by rw [List.length_append, List.length_singleton]; omega) ?_
    rw [su_su]
    exact q
  · rw [if_neg h] at q
    have e : ((true ^^ decide (w = "way")) && decide (c / 42 % 2 = 1)) = false := by
      rw [Bool.eq_false_iff]
      intro z
      simp only [Bool.true_xor, Bool.and_eq_true, Bool.not_eq_true', decide_eq_false_iff_not, decide_eq_true_eq] at z
      exact h z
    rw [e]
    simp only [Bool.false_eq_true, ↓reduceIte, dNext, dDrop, dLM, dCons, dNil, dVar, List.getElem?_cons_zero, List.getElem?_cons_succ, vm, su_same, Option.isSome_some, true_and]
    refine append_at su_same (by omega) ?_
    rw [su_su]
    rw [List.append_nil] at q
    exact q
theorem w_like : ("like" : Str) ≠ "way" := by decide
theorem w_shun : ("shun" : Str) ≠ "way" := by decide
theorem w_wish : ("wish" : Str) ≠ "way" := by decide
theorem oo_5 (K : PySem.W.Frag) (a : CA) (S : Sto) (Q : D → Sto → Prop) (E : Addr → Sto → Prop) (n : Nat) (n2 : n ≤ 60) (xs : List Rw) (hg : ∀ x ∈ xs, x.good n) (hl : xs.length ≤ 300) (pf p : Addr) (hp : S p = none) (c : Int) (ws : List Rw) (hws : ws.length ≤ 200) (q : Q (.lst ((partsR (ws ++ xs.flatMap (varR c))).map dS)) S) (o4 o5 : Option D) :
    t_law_other_order_5 K a (wishOf E) (endsOf Q) [some (.lst ((partsR xs).map dS)), some (.ref pf), some (.int c), some (.ref p), o4, o5, none, none] (su S p (.ml ((partsR ws).map dS))) := by
  have hs : sizeLine = 2 ^ 24 := rfl
  simp only [t_law_other_order_5]
  rw [dSeq_ap]
  refine dFor_at (i := 0) rfl rfl ?_
  rw [rows_dS]
  refine dGo_map (f := fun x : Rw => dS (lnS x.row)) (fun rest ρ S2 => ∃ o6 o7 pre, ρ = [some (.lst (xs.map fun x : Rw => dS (lnS x.row))), some (.ref pf), some (.int c), some (.ref p), o4, o5, o6, o7] ∧ xs = pre ++ rest ∧ S2 = su S p (.ml ((partsR (ws ++ pre.flatMap (varR c))).map dS))) ?_ ?_ _ _ _ ⟨_, _, [], rfl, rfl, by simp⟩
  · rintro ρ S2 ⟨o6, o7, pre, rfl, epre, rfl⟩
    rw [List.append_nil] at epre
    subst epre
    refine ⟨rfl, ?_⟩
    simp only [dRet, dFrz, dVar, List.getElem?_cons_zero, List.getElem?_cons_succ, su_same, sd_su hp]
    exact rt_of q
  · rintro x rest ρ S2 N ⟨o6, o7, pre, rfl, epre, rfl⟩ hN
    refine ⟨rfl, ?_⟩
    have hx := hg x (by rw [epre]; simp)
    have hlen : ((partsR (ws ++ pre.flatMap (varR c))).map dS).length ≤ 1100 := by
      have h3 := vars_len c pre
      have h4 : pre.length ≤ xs.length := by rw [epre, List.length_append]; omega
      unfold partsR
      rw [List.length_map, List.length_map, List.length_append]; omega
    have hgp := good_part n2 hx
    have hll := hgp.l
    have fin : ∀ o6 o7, N [some (.lst (xs.map fun x : Rw => dS (lnS x.row))), some (.ref pf), some (.int c), some (.ref p), o4, o5, o6, o7] (su S p (.ml ((partsR (ws ++ pre.flatMap (varR c))).map dS ++ (partsR (varR c x)).map dS))) := fun o6 o7 => hN _ _ ⟨o6, o7, pre ++ [x], rfl, by rw [epre, List.append_assoc]; rfl, by rw [vars_snoc]⟩
    generalize (partsR (ws ++ pre.flatMap (varR c))).map dS = W at hlen fin
    generalize (xs.map fun x : Rw => dS (lnS x.row)) = XS at fin
    have lw : (dS (lnS x.row) = .str (endS (lnS x.row))) := rfl
    have hel := endS_len (lnS x.row)
    simp only [dgN, List.set_cons_zero, List.set_cons_succ]
    rw [dSeq_ap]
    simp only [dAsg, dSplit, dSlS, dC, dVar, doNone, doSome, dNeg, slsk, dgN, List.set_cons_zero, List.set_cons_succ, List.getElem?_cons_zero, List.getElem?_cons_succ]
    refine ⟨by omega, ⟨_, rfl⟩, _, _, rfl, rfl, by decide, by rw [cut_line]; omega, ?_⟩
    rw [cut_line, row_words, List.map_cons]
    have hwk := strOk_w x
    (try dsimp only)
    rw [dSeq_ap]
    cases x with
    | way u v =>
      have su1 : small u := small_in n2 hx.1
      have sv1 : small v := small_in n2 hx.2.1
      simp only [dIfS]
      refine oo_test hwk (by decide +kernel) ⟨by decide, by decide⟩ (by decide) ?_
      rw [show decide ((Rw.way u v).w = ("way" : Str)) = true from by show decide (("way" : Str) = "way") = true; decide]
      by_cases h : c / 7 % 2 = 1
      · rw [decide_eq_true h]
        simp only [Bool.false_xor, Bool.true_and, ↓reduceIte, dAsg, dCall, dLst, dOp, dCons, dNil, dC, dVar, newL, dgN, List.set_cons_zero, List.set_cons_succ, List.getElem?_cons_zero, List.getElem?_cons_succ, Rw.ns, List.map_cons, List.map_nil, ixD, ixLK, vl, vm, ixL, at_2, at_1]
        refine ⟨by simp [hs], x_law_line (l := [.str "way", .str (numS v), .str (numS u)]) rfl (fun d hd => ?_) (by simp) ?_⟩
        · simp only [List.mem_cons, List.not_mem_nil, or_false] at hd
          rcases hd with rfl | rfl | rfl
          · exact okW_str
          · exact okW_str (numS_len (k := 60) (by decide) sv1)
          · exact okW_str (numS_len (k := 60) (by decide) su1)
        refine oo_again (w := (Rw.way u v).w) hwk (by omega) ?_
        have f := fin (some (dS (lnS (Rw.way v u).row))) (some (.lst (.str (Rw.way u v).w :: ((Rw.way u v).ns.map numS).map .str)))
        rw [show (partsR (varR c (Rw.way u v))).map dS = [dS (lnS (Rw.way v u).row)] by simp [partsR, varR, firstR, againR, swapR, h]] at f
        rw [if_neg fun z => z.1 rfl, List.append_nil]
        exact f
      · rw [decide_eq_false h]
        simp only [Bool.false_xor, Bool.true_and, Bool.false_eq_true, ↓reduceIte]
        refine oo_test hwk (by decide +kernel) ⟨by decide, by decide⟩ (by decide) ?_
        rw [show decide ((Rw.way u v).w = ("wish" : Str)) = false from by show decide (("way" : Str) = "wish") = false; decide]
        simp only [Bool.false_xor, Bool.false_and, Bool.false_eq_true, ↓reduceIte, dNext]
        refine oo_again hwk (by omega) ?_
        have f := fin (some (dS (lnS (Rw.way u v).row))) (some (.lst (.str (Rw.way u v).w :: ((Rw.way u v).ns.map numS).map .str)))
        rw [show (partsR (varR c (Rw.way u v))).map dS = [dS (lnS (Rw.way u v).row)] by simp [partsR, varR, firstR, againR, swapR, h]] at f
        rw [if_neg fun z => z.1 rfl, List.append_nil]
        exact f
    | like u v r =>
      simp only [dIfS]
      refine oo_test hwk (by decide +kernel) ⟨by decide, by decide⟩ (by decide) ?_
      rw [show decide ((Rw.like u v r).w = ("way" : Str)) = false from by show decide (("like" : Str) = "way") = false; decide]
      simp only [Bool.false_xor, Bool.false_and, Bool.false_eq_true, ↓reduceIte]
      refine oo_test hwk (by decide +kernel) ⟨by decide, by decide⟩ (by decide) ?_
      rw [show decide ((Rw.like u v r).w = ("wish" : Str)) = false from by show decide (("like" : Str) = "wish") = false; decide]
      simp only [Bool.false_xor, Bool.false_and, Bool.false_eq_true, ↓reduceIte, dNext]
      refine oo_again hwk (by omega) ?_
      have f := fin (some (dS (lnS (Rw.like u v r).row))) (some (.lst (.str (Rw.like u v r).w :: ((Rw.like u v r).ns.map numS).map .str)))
      by_cases h : c / 42 % 2 = 1
      · rw [if_pos ⟨w_like, h⟩]
        rw [show (partsR (varR c (Rw.like u v r))).map dS = [dS (lnS (Rw.like u v r).row), dS (lnS (Rw.like u v r).row)] by simp [partsR, varR, firstR, againR, swapR, h]] at f
        rw [List.append_assoc]
        exact f
      · rw [if_neg fun z => h z.2]
        rw [show (partsR (varR c (Rw.like u v r))).map dS = [dS (lnS (Rw.like u v r).row)] by simp [partsR, varR, firstR, againR, swapR, h]] at f
        rw [List.append_nil]
        exact f
    | shun u v =>
      simp only [dIfS]
      refine oo_test hwk (by decide +kernel) ⟨by decide, by decide⟩ (by decide) ?_
      rw [show decide ((Rw.shun u v).w = ("way" : Str)) = false from by show decide (("shun" : Str) = "way") = false; decide]
      simp only [Bool.false_xor, Bool.false_and, Bool.false_eq_true, ↓reduceIte]
      refine oo_test hwk (by decide +kernel) ⟨by decide, by decide⟩ (by decide) ?_
      rw [show decide ((Rw.shun u v).w = ("wish" : Str)) = false from by show decide (("shun" : Str) = "wish") = false; decide]
      simp only [Bool.false_xor, Bool.false_and, Bool.false_eq_true, ↓reduceIte, dNext]
      refine oo_again hwk (by omega) ?_
      have f := fin (some (dS (lnS (Rw.shun u v).row))) (some (.lst (.str (Rw.shun u v).w :: ((Rw.shun u v).ns.map numS).map .str)))
      by_cases h : c / 42 % 2 = 1
      · rw [if_pos ⟨w_shun, h⟩]
        rw [show (partsR (varR c (Rw.shun u v))).map dS = [dS (lnS (Rw.shun u v).row), dS (lnS (Rw.shun u v).row)] by simp [partsR, varR, firstR, againR, swapR, h]] at f
        rw [List.append_assoc]
        exact f
      · rw [if_neg fun z => h z.2]
        rw [show (partsR (varR c (Rw.shun u v))).map dS = [dS (lnS (Rw.shun u v).row)] by simp [partsR, varR, firstR, againR, swapR, h]] at f
        rw [List.append_nil]
        exact f
    | wish l r =>
      have hll2 : l.length ≤ 60 := by
        have := rok_len hx.1
        have e : (GS.new n).n = n := rfl
        omega
      simp only [dIfS]
      refine oo_test hwk (by decide +kernel) ⟨by decide, by decide⟩ (by decide) ?_
      rw [show decide ((Rw.wish l r).w = ("way" : Str)) = false from by show decide (("wish" : Str) = "way") = false; decide]
      simp only [Bool.false_xor, Bool.false_and, Bool.false_eq_true, ↓reduceIte]
      refine oo_test hwk (by decide +kernel) ⟨by decide, by decide⟩ (by decide) ?_
      rw [show decide ((Rw.wish l r).w = ("wish" : Str)) = true from by show decide (("wish" : Str) = "wish") = true; decide]
      have f := fin (some (dS (lnS (Rw.wish l r).row))) (some (.lst (.str (Rw.wish l r).w :: ((Rw.wish l r).ns.map numS).map .str)))
      by_cases h : c / 14 % 3 = 1
      · rw [decide_eq_true h]
        simp only [Bool.false_xor, Bool.true_and, ↓reduceIte, dDrop, dLM, dCall, dLst, dOp, dSlL, doSome, doNone, dCons, dNil, dC, dVar, newL, dgN, List.set_cons_zero, List.set_cons_succ, List.getElem?_cons_zero, List.getElem?_cons_succ, vm, vl, su_same, Option.isSome_some, true_and, modD, iiD, addD, addI, iiD0, catD, slk, cut_drop2]
        have ew : List.drop 2 (D.str (Rw.wish l r).w :: ((Rw.wish l r).ns.map numS).map D.str) = (l.map numS).map D.str := rfl
        rw [ew]
        refine ⟨by decide, by simp [hs], by simp only [List.length_cons, List.length_nil, List.length_map]; omega, x_law_line (l := [.str "wish", .int (5 + c % 4)] ++ (l.map numS).map D.str) rfl (fun d hd => ?_) (by simp only [List.length_append, List.length_cons, List.length_nil, List.length_map]; omega) ?_⟩
        · rcases List.mem_append.mp hd with hd | hd
          · simp only [List.mem_cons, List.not_mem_nil, or_false] at hd
            rcases hd with rfl | rfl
            · exact okW_str
            · exact okW_sm ⟨by omega, by omega⟩
          · obtain ⟨z, hz, rfl⟩ := List.mem_map.mp hd
            obtain ⟨i, hi, rfl⟩ := List.mem_map.mp hz
            exact okW_str (numS_len (k := 60) (by decide) (good_small n2 hx i (List.mem_cons_of_mem _ hi)))
        refine append_at su_same (by omega) ?_
        rw [su_su]
        have el : D.str (lineS ([.str "wish", .int (5 + c % 4)] ++ (l.map numS).map D.str)) = dS (lnS (Rw.wish l (5 + c % 4)).row) := by
          show D.str (Txt.join " " _ ++ "\n") = D.str (Txt.join " " _ ++ "\n")
          simp only [Rw.row, rowD, Rw.w, Rw.ns, List.map_append, List.map_cons, List.map_nil, List.map_map, List.cons_append, List.nil_append]
          rfl
        rw [el]
        refine oo_again hwk (by rw [List.length_append, List.length_singleton]; omega) ?_
        by_cases h2 : c / 42 % 2 = 1
        · rw [if_pos ⟨w_wish, h2⟩]
          rw [show (partsR (varR c (Rw.wish l r))).map dS = [dS (lnS (Rw.wish l (5 + c % 4)).row), dS (lnS (Rw.wish l r).row), dS (lnS (Rw.wish l r).row)] by simp [partsR, varR, firstR, againR, swapR, h, h2]] at f
          rw [List.append_assoc, List.append_assoc]
          exact f
        · rw [if_neg fun z => h2 z.2]
          rw [show (partsR (varR c (Rw.wish l r))).map dS = [dS (lnS (Rw.wish l (5 + c % 4)).row), dS (lnS (Rw.wish l r).row)] by simp [partsR, varR, firstR, againR, swapR, h, h2]] at f
          rw [List.append_nil, List.append_assoc]
          exact f
      · rw [decide_eq_false h]
        simp only [Bool.false_xor, Bool.and_false, Bool.false_eq_true, ↓reduceIte, dNext]
        refine oo_again hwk (by omega) ?_
        by_cases h2 : c / 42 % 2 = 1
        · rw [if_pos ⟨w_wish, h2⟩]
          rw [show (partsR (varR c (Rw.wish l r))).map dS = [dS (lnS (Rw.wish l r).row), dS (lnS (Rw.wish l r).row)] by simp [partsR, varR, firstR, againR, swapR, h, h2]] at f
          rw [List.append_assoc]
          exact f
        · rw [if_neg fun z => h2 z.2]
          rw [show (partsR (varR c (Rw.wish l r))).map dS = [dS (lnS (Rw.wish l r).row)] by simp [partsR, varR, firstR, againR, swapR, h, h2]] at f
          rw [List.append_nil]
          exact f
theorem like_row {n : Nat} (n2 : n ≤ 60) {x y r : Int} (hx : 0 ≤ x ∧ x < n) (hy : 0 ≤ y ∧ y < n) (hr : 0 ≤ r ∧ r < 100) : ∀ d ∈ [D.str "like", .int x, .int y, .int r], okW d := fun d hd => by
  simp only [List.mem_cons, List.not_mem_nil, or_false] at hd
  rcases hd with rfl | rfl | rfl | rfl
  · exact okW_str
  · exact okW_sm ⟨hx.1, by omega⟩
  · exact okW_sm ⟨hy.1, by omega⟩
  · exact okW_sm hr
theorem likes_snoc (r : Int) (ws : List Rw) (ks : List (List Int)) (k : List Int) : (partsR (ws ++ (ks ++ [k]).map (likeR r))).map dS = (partsR (ws ++ ks.map (likeR r))).map dS ++ [dS (lnS (likeR r k).row)] := by
  unfold partsR
  simp only [List.map_append, List.map_cons, List.map_nil, List.append_assoc]
theorem oo_2 (K : PySem.W.Frag) (a : CA) (S : Sto) (Q : D → Sto → Prop) (E : Addr → Sto → Prop) (n : Nat) (n2 : n ≤ 60) (xs : List Rw) (hg : ∀ x ∈ xs, x.good n) (hl : xs.length ≤ 300) (pf p : Addr) (hp : S p = none) (c : Int) (fl : KL) (hf : S pf = some (.dI (fl.map eKV))) (of : FondN n fl)
    (q : ∀ k : Nat, Q (.lst ((partsR (outR fl c k xs)).map dS)) S) (o4 : Option D) :
    t_law_other_order_2 K a (wishOf E) (endsOf Q) [some (.lst ((partsR xs).map dS)), some (.ref pf), some (.int c), some (.ref p), o4, none, none, none] (su S p (.ml ((partsR (preR fl c)).map dS))) := by
  have hs : sizeLine = 2 ^ 24 := rfl
  have npf : pf ≠ p := fun z => by rw [z, hp] at hf; cases hf
  have hpl : (partsR xs).length = xs.length := by unfold partsR; rw [List.length_map]
  have lfl := of.o.l
  simp only [t_law_other_order_2]
  rw [dSeq_ap]
  simp only [dAsg, dOp, dCB, dCons, dNil, dC, dVar, dgN, List.set_cons_zero, List.set_cons_succ, List.getElem?_cons_zero, List.getElem?_cons_succ, modD, iiD, lenD, lenS, vm, List.length_map, addD, addI, iiD0]
  refine ⟨by omega, ?_⟩
  have at0 : 0 ≤ c % (((partsR xs).length : Int) + 1) := Int.emod_nonneg _ (by omega)
  obtain ⟨k, ek⟩ : ∃ k : Nat, c % (((partsR xs).length : Int) + 1) = (k : Int) := ⟨_, (Int.toNat_of_nonneg at0).symm⟩
  rw [ek]
  (try dsimp only)
  rw [dSeq_ap]
  simp only [dAsg, dOp, dSlL, doSome, doNone, dC, dVar, dgN, List.set_cons_zero, List.set_cons_succ, List.getElem?_cons_zero, List.getElem?_cons_succ, vm, vl, slk, newL, cut_drop, cut_take, addD, catD]
  refine ⟨by simp only [List.length_drop, List.length_take, List.length_map]; omega, ?_⟩
  have erot : ((partsR xs).map dS).drop k ++ ((partsR xs).map dS).take k = (partsR (rotR k xs)).map dS := by
    unfold partsR rotR
    simp only [List.map_drop, List.map_take, List.map_append]
  rw [erot]
  (try dsimp only)
  rw [dSeq_ap]
  have hf2 : ∀ W, su S p (.ml W) pf = some (.dI (fl.map eKV)) := fun W => by rw [su_ne npf]; exact hf
  refine dFor_keys (i := 1) (p := pf) (kvs := fl.map eKV) rfl (hf2 _) ?_
  have ekeys : ((fl.map eKV).map (·.1)).map (fun k => D.tup (k.map .int)) = (fl.map (·.1)).map eTup := by rw [List.map_map, List.map_map, List.map_map]; rfl
  rw [ekeys]
  have hgr : ∀ x ∈ rotR k xs, x.good n := fun x hx => hg x (rot_mem.mp hx)
  have hlr : (rotR k xs).length = xs.length := by
    unfold rotR
    rw [List.length_append, List.length_drop, List.length_take]; omega
  refine dGo_map (f := eTup) (fun rest ρ S2 => ∃ o4 pre, ρ = [some (.lst ((partsR (rotR k xs)).map dS)), some (.ref pf), some (.int c), some (.ref p), o4, some (.int k), none, none] ∧ fl.map (·.1) = pre ++ rest ∧ S2 = su S p (.ml ((partsR (preR fl c ++ (pre.filter (zerK fl)).map (likeR 0))).map dS))) ?_ ?_ _ _ _ ⟨_, [], rfl, rfl, by simp⟩
  · rintro ρ S2 ⟨o4, pre, rfl, epre, rfl⟩
    rw [List.append_nil] at epre
    rw [← epre]
    refine ⟨trivial, ?_⟩
    have hws : (preR fl c ++ zerR fl).length ≤ 200 := by
      have h5 := List.length_filter_le (zerK fl) (fl.map (·.1))
      rw [List.length_map] at h5
      unfold preR zerR
      simp only [List.length_append, List.length_map]
      omega
    exact oo_5 K a S Q E n n2 (rotR k xs) hgr (by omega) pf p hp c (preR fl c ++ zerR fl) hws (q k) _ _
  · rintro ky rest ρ S2 N ⟨o4, pre, rfl, epre, rfl⟩ hN
    refine ⟨trivial, ?_⟩
    have hk2 : ky ∈ fl.map (·.1) := by rw [epre]; simp
    obtain ⟨v, ev⟩ := kget_some hk2
    obtain ⟨qk, hqk, eqk⟩ := List.mem_map.mp hk2
    obtain ⟨x, y, exy, hx, hy⟩ := of.o.k qk hqk
    rw [eqk] at exy
    have hlen : (partsR (preR fl c ++ (pre.filter (zerK fl)).map (likeR 0))).length ≤ 200 := by
      have h5 := List.length_filter_le (zerK fl) pre
      have h6 : (fl.map (·.1)).length = pre.length + (ky :: rest).length := by rw [epre, List.length_append]
      rw [List.length_map, List.length_cons] at h6
      unfold partsR preR
      simp only [List.length_append, List.length_map]
      omega
    have enz : zerK fl ky = decide (v = 0) := by unfold zerK; rw [ev]; rfl
    have e : ∀ W, dgetS (su S p (.ml W)) (.ref pf) (.tup (ky.map .int)) = some (some (.int v)) := fun W => by simp only [dgetS, hf2, kI, kInts_map, Option.map_some, dget_kv, ev]
    simp only [eTup, dgN, List.set_cons_zero, List.set_cons_succ, dIfS, dB, dOp, dC, dVar, List.getElem?_cons_zero, List.getElem?_cons_succ, ixD, ixLK, vl, vm, hf2, e, ixK]
    refine eqR_i ?_
    by_cases cz : v = 0
    · rw [decide_eq_true cz]
      simp only [Bool.false_xor, ↓reduceIte]
      have i0 : atI (ky.map D.int) 0 = some (.int x) := by rw [exy]; rfl
      have i1 : atI (ky.map D.int) 1 = some (.int y) := by rw [exy]; rfl
      simp only [dDrop, dLM, dCons, dNil, dCall, dLst, dC, dOp, dVar, List.getElem?_cons_zero, List.getElem?_cons_succ, vm, su_same, Option.isSome_some, true_and, ixD, ixL, i0, i1, newL]
      refine ⟨by simp [hs], x_law_line (l := [.str "like", .int x, .int y, .int 0]) rfl (like_row n2 hx hy ⟨by decide, by decide⟩) (by simp) ?_⟩
      refine append_at su_same (by rw [List.length_map]; omega) ?_
      rw [su_su]
      refine hN _ _ ⟨_, pre ++ [ky], rfl, by rw [epre, List.append_assoc]; rfl, ?_⟩
      rw [List.filter_append, List.filter_cons_of_pos (by rw [enz]; exact decide_eq_true cz), List.filter_nil, likes_snoc]
      congr 3
      rw [exy]
      rfl
    · rw [decide_eq_false cz]
      simp only [Bool.false_xor, Bool.false_eq_true, ↓reduceIte, dNext]
      refine hN _ _ ⟨_, pre ++ [ky], rfl, by rw [epre, List.append_assoc]; rfl, ?_⟩
      rw [List.filter_append, List.filter_cons_of_neg (by rw [enz]; simpa using cz), List.filter_nil, List.append_nil]
theorem read_law_other_order (K : PySem.W.Frag) (a : CA) (ds : List D) (S : Sto) (Q : D → Sto → Prop) (E : Addr → Sto → Prop) (h : sp_law_other_order a ds S Q E) : t_law_other_order K a (wishOf E) (endsOf Q) (dstart N_law_other_order ds) S := by
  obtain ⟨n, xs, pf, fl, c, rfl, n2, hf, of, hg, hl, q⟩ := h
  have hs : sizeLine = 2 ^ 24 := rfl
  have lfl := of.o.l
  simp only [t_law_other_order, N_law_other_order, dstart, List.map_cons, List.map_nil, List.length_cons, List.length_nil, List.cons_append, List.nil_append, List.replicate, Nat.add_one_sub_one, Nat.reduceAdd, Nat.reduceSub, Nat.sub_self, Nat.sub_zero]
  rw [dSeq_ap]
  simp only [dAsg, dLst, dNil, newL, dgN, List.set_cons_zero, List.set_cons_succ]
  refine ⟨by simp [hs], fun p hp => ?_⟩
  (try dsimp only)
  rw [dSeq_ap]
  have npf : pf ≠ p := fun z => by rw [z, hp] at hf; cases hf
  have hf2 : ∀ W, su S p (.ml W) pf = some (.dI (fl.map eKV)) := fun W => by rw [su_ne npf]; exact hf
  refine dFor_keys (i := 1) (p := pf) (kvs := fl.map eKV) rfl (hf2 _) ?_
  have ekeys : ((fl.map eKV).map (·.1)).map (fun k => D.tup (k.map .int)) = (fl.map (·.1)).map eTup := by rw [List.map_map, List.map_map, List.map_map]; rfl
  rw [ekeys]
  refine dGo_map (f := eTup) (fun rest ρ S2 => ∃ o4 pre, ρ = [some (.lst ((partsR xs).map dS)), some (.ref pf), some (.int c), some (.ref p), o4, none, none, none] ∧ fl.map (·.1) = pre ++ rest ∧ S2 = su S p (.ml ((partsR ([] ++ pre.map (likeR (5 + c % 3)))).map dS))) ?_ ?_ _ _ _ ⟨_, [], rfl, rfl, rfl⟩
  · rintro ρ S2 ⟨o4, pre, rfl, epre, rfl⟩
    rw [List.append_nil] at epre
    rw [← epre]
    exact ⟨trivial, oo_2 K a S Q E n n2 xs hg hl pf p hp c fl hf of q _⟩
  · rintro ky rest ρ S2 N ⟨o4, pre, rfl, epre, rfl⟩ hN
    refine ⟨trivial, ?_⟩
    have hk2 : ky ∈ fl.map (·.1) := by rw [epre]; simp
    obtain ⟨qk, hqk, eqk⟩ := List.mem_map.mp hk2
    obtain ⟨x, y, exy, hx, hy⟩ := of.o.k qk hqk
    rw [eqk] at exy
    have hlen : (partsR ([] ++ pre.map (likeR (5 + c % 3)))).length ≤ 100 := by
      have h6 : (fl.map (·.1)).length = pre.length + (ky :: rest).length := by rw [epre, List.length_append]
      rw [List.length_map, List.length_cons] at h6
      unfold partsR
      simp only [List.nil_append, List.length_map]
      omega
    have i0 : atI (ky.map D.int) 0 = some (.int x) := by rw [exy]; rfl
    have i1 : atI (ky.map D.int) 1 = some (.int y) := by rw [exy]; rfl
    simp only [eTup, dgN, List.set_cons_zero, List.set_cons_succ, dDrop, dLM, dCons, dNil, dCall, dLst, dC, dOp, dVar, List.getElem?_cons_zero, List.getElem?_cons_succ, vm, su_same, Option.isSome_some, true_and, ixD, ixL, i0, i1, newL, modD, iiD, addD, addI, iiD0]
    refine ⟨by decide, by simp [hs], x_law_line (l := [.str "like", .int x, .int y, .int (5 + c % 3)]) rfl (like_row n2 hx hy ⟨by omega, by omega⟩) (by simp) ?_⟩
    refine append_at su_same (by rw [List.length_map]; omega) ?_
    rw [su_su]
    refine hN _ _ ⟨_, pre ++ [ky], rfl, by rw [epre, List.append_assoc]; rfl, ?_⟩
    rw [likes_snoc]
    congr 3
    rw [exy]
    rfl

end DL
namespace DL
open PySem L2
def t_k09_law_refused (K : PySem.W.Frag) (a : CA) (W : WD) : TDS :=
  (dSeq (dAsg (dLst false dNil) (dgN 1))
  (dSeq (dTry K (.ref a.GuildError) (some 2)
    (fun W => (dDrop (dCall (sp_read a) W (dCons (dVar 0) dNil))))
    (fun C x => (dSeq (dAsg (dLst false (dCons (dCB (isED K C x) (dCons (dVar 2) (dCons (dC (.ref a.BadNote)) dNil))) (dCons (dCB (isED K C x) (dCons (dVar 2) (dCons (dC (.ty "ValueError")) dNil))) (dCons (dCB (isED K C x) (dCons (dVar 2) (dCons (dC (.ref a.NoHouse)) dNil))) dNil)))) (dgN 1))
    (dAsg (dOp (addD false) (dVar 1) (dLst false (dCons (dCB (isED K C x) (dCons (dVar 2) (dCons (dC (.ref a.WayThere)) dNil))) (dCons (dCB (isED K C x) (dCons (dVar 2) (dCons (dC (.ref a.NoRoad)) dNil))) dNil)))) (dgN 1)))) W)
  (dRet (dOp (eqR false) (dVar 1) (dLst false (dCons (dC (.bl true)) (dCons (dC (.bl true)) (dCons (dC (.bl false)) (dCons (dC (.bl false)) (dCons (dC (.bl false)) dNil))))))))))
abbrev N_k09_law_refused : List Str := ["text", "marks", "e"]
def sp_k09_law_refused (a : CA) : DSp := fun ds S P E => ∃ z : Str, ds = [.str z] ∧ Rdbl z ∧ readS z = none ∧ P (.bl true) S
theorem len_k09_law_refused (a : CA) (ds : List D) (S : Sto) (Q : D → Sto → Prop) (E : Addr → Sto → Prop) (h : sp_k09_law_refused a ds S Q E) : ds.length = ["text"].length := by
  obtain ⟨_, rfl, _⟩ := h; rfl
theorem read_k09_law_refused (K : PySem.W.Frag) (a : CA) (X : ExK K a) (ds : List D) (S : Sto) (Q : D → Sto → Prop) (E : Addr → Sto → Prop) (h : sp_k09_law_refused a ds S Q E) : t_k09_law_refused K a (wishOf E) (endsOf Q) (dstart N_k09_law_refused ds) S := by
  obtain ⟨z, rfl, hz, hn, q⟩ := h
  simp only [t_k09_law_refused, N_k09_law_refused, dstart, List.map_cons, List.map_nil, List.length_cons, List.length_nil, List.cons_append, List.nil_append, List.replicate, Nat.add_one_sub_one, Nat.reduceAdd, Nat.reduceSub, Nat.sub_self, Nat.sub_zero]
  rw [dSeq_ap]
  simp only [dAsg, dLst, dNil, newL, dgN, List.set_cons_zero, List.set_cons_succ]
  refine ⟨by decide, ?_⟩
  (try dsimp only)
  rw [dSeq_ap]
  simp only [dTry, tryW, dDrop, dCall, dCons, dNil, dVar, List.getElem?_cons_zero, List.getElem?_cons_succ]
  refine x_read_bad hz hn ⟨true, X.m_BadNote_GuildError, fun _ p hp => ?_, fun z => by cases z⟩
  (try dsimp only)
  rw [dSeq_ap]
  simp only [dAsg, dLst, dCons, dNil, dCB, dC, dVar, newL, dgN, List.set_cons_zero, List.set_cons_succ, List.getElem?_cons_zero, List.getElem?_cons_succ]
  refine isE_at X.e_BadNote X.i_BadNote_BadNote (isE_ty X.e_BadNote X.v_BadNote (isE_at X.e_BadNote X.i_BadNote_NoHouse ⟨by decide, ?_⟩))
  (try dsimp only)
  simp only [dAsg, dOp, dLst, dCons, dNil, dCB, dC, dVar, newL, dgN, List.set_cons_zero, List.set_cons_succ, List.getElem?_cons_zero, List.getElem?_cons_succ, addD, catD, vm]
  refine isE_at X.e_BadNote X.i_BadNote_WayThere (isE_at X.e_BadNote X.i_BadNote_NoRoad ⟨by decide, by decide, ?_⟩)
  (try dsimp only)
  simp only [dRet, dOp, dLst, dCons, dNil, dC, dVar, newL, List.getElem?_cons_zero, List.getElem?_cons_succ]
  refine ⟨by decide, ?_⟩
  exact ⟨okD_BL [true, true, false, false, false], okD_BL [true, true, false, false, false], rt_of q⟩
theorem x_k09_law_refused {a : CA} {z : Str} {S : Sto} {P : D → Sto → Prop} {E : Addr → Sto → Prop} (h : Rdbl z) (hn : readS z = none) (q : P (.bl true) S) : sp_k09_law_refused a [.str z] S P E := ⟨z, rfl, h, hn, q⟩

end DL
namespace DL
open PySem L2
def t_k09_law_7 (K : PySem.W.Frag) (a : CA) (W : WD) : TDS :=
  (dSeq (dAsg (dCall (sp_law_line a) W (dCons (dLst false (dCons (dC (.str "houses")) (dCons (dVar 1) dNil))) dNil)) (dgN 8))
  (dSeq (dAsg (dJoin (dC (.str "")) (dOp (addD false) (dLst false (dCons (dVar 8) dNil)) (dCall (sp_law_other_order a) W (dCons (dVar 6) (dCons (dVar 3) (dCons (dCall (sp_law_cell_at a) W (dCons (dVar 0) (dCons (dC (.int 6)) dNil))) dNil)))))) (dgN 9))
  (dRet (dOp (eqR false) (dCall (sp_shown a) W (dCons (dCall (sp_read a) W (dCons (dVar 9) dNil)) dNil)) (dJoin (dC (.str "")) (dOp (addD false) (dLst false (dCons (dVar 8) dNil)) (dVar 6)))))))
def t_k09_law_6 (K : PySem.W.Frag) (a : CA) (W : WD) : TDS :=
  (dSeq (dIfS (dB (dOp (eqR false) (dOp modD (dCall (sp_law_cell_at a) W (dCons (dVar 0) (dCons (dC (.int 5)) dNil))) (dC (.int 2))) (dC (.int 1))))
    (dSeq (dFor1 (dCons (dC (.int 8)) dNil) (dgN 7)
      (dIfS (dNotT (dB (dCall (sp_k09_law_refused a) W (dCons (dCall (sp_k09_law_spoiled a) W (dCons (dVar 1) (dCons (dVar 6) (dCons (dVar 2) (dCons (dCall (sp_law_cell_at a) W (dCons (dVar 0) (dCons (dOp (addD false) (dC (.int 6)) (dVar 7)) dNil))) dNil))))) dNil))))
        (dRet (dC (.bl false)))
        dNext))
    (dRet (dC (.bl true))))
    dNext)
  (t_k09_law_7 K a W))
def t_k09_law (K : PySem.W.Frag) (a : CA) (W : WD) : TDS :=
  (dSeq (dAsg (dOp (addD false) (dC (.int 1)) (dOp modD (dCall (sp_law_cell_at a) W (dCons (dVar 0) (dCons (dC (.int 0)) dNil))) (dC (.int 7)))) (dgN 1))
  (dSeq (dAsg (dCall (sp_law_ways_by a) W (dCons (dCall (sp_law_cell_at a) W (dCons (dVar 0) (dCons (dC (.int 1)) dNil))) (dCons (dVar 1) dNil))) (dgN 2))
  (dSeq (dAsg (dCall (sp_law_fond_by a) W (dCons (dCall (sp_law_cell_at a) W (dCons (dVar 0) (dCons (dC (.int 2)) dNil))) (dCons (dVar 1) dNil))) (dgN 3))
  (dSeq (dAsg (dCall (sp_law_dear_by a) W (dCons (dCall (sp_law_cell_at a) W (dCons (dVar 0) (dCons (dC (.int 3)) dNil))) (dCons (dVar 1) dNil))) (dgN 4))
  (dSeq (dAsg (dCall (sp_law_shy_by a) W (dCons (dCall (sp_law_cell_at a) W (dCons (dVar 0) (dCons (dC (.int 4)) dNil))) (dCons (dVar 1) dNil))) (dgN 5))
  (dSeq (dAsg (dCall (sp_law_lines a) W (dCons (dVar 2) (dCons (dVar 3) (dCons (dVar 4) (dCons (dVar 5) dNil))))) (dgN 6))
  (t_k09_law_6 K a W)))))))
abbrev N_k09_law : List Str := ["script", "size", "ways", "fond", "dear", "shy", "lines", "k", "head", "text"]
open TL PySem.NumText
def sp_k09_law (a : CA) : DSp := fun ds S P E => ∃ ns : List Int, ds = [.scr ns] ∧ ns.length ≤ 63 ∧ P (.bl true) S
theorem len_k09_law (a : CA) (ds : List D) (S : Sto) (Q : D → Sto → Prop) (E : Addr → Sto → Prop) (h : sp_k09_law a ds S Q E) : ds.length = ["script"].length := by
  obtain ⟨_, rfl, _⟩ := h; rfl
theorem top_k09_law (a : CA) (ns : List Int) (hl : ns.length ≤ 63) (P : D → Sto → Prop) (E : Addr → Sto → Prop) (h : P (.bl true) (fun _ => none)) : sp_k09_law a [.scr ns] (fun _ => none) P E := ⟨ns, rfl, hl, h⟩
theorem textW_lines (n : Nat) (xs : List Rw) : linesT (lnS (headRow n) :: partsR xs) = textW n (xs.map Rw.row) := by
  unfold linesT textW partsR
  rw [List.map_cons, List.map_cons, List.map_map, List.map_map]
  rfl
theorem head_words {n : Nat} (n2 : n ≤ 60) : ∀ d ∈ headRow n, okW d := fun d hd => by
  simp only [headRow, List.mem_cons, List.not_mem_nil, or_false] at hd
  rcases hd with rfl | rfl
  · exact okW_str
  · exact okW_sm ⟨by omega, by omega⟩
theorem parts_good {n : Nat} (n2 : n ≤ 60) {xs : List Rw} (h : ∀ x ∈ xs, x.good n) : ∀ p ∈ lnS (headRow n) :: partsR xs, PartOk p := fun p hp => by
  rcases List.mem_cons.mp hp with rfl | hp
  · exact head_part n2
  · obtain ⟨x, hx, rfl⟩ := List.mem_map.mp hp
    exact good_part n2 (h x hx)
theorem k09_7 (K : PySem.W.Frag) (a : CA) (S0 S : Sto) (Q : D → Sto → Prop) (E : Addr → Sto → Prop) (q : Q (.bl true) S0) (ns : List Int) (n : Nat) (pf : Addr) (wl : WL) (fl dl : KL) (sl : WL) (le : SLe S0 S) (bk : BookOk n wl fl dl sl) (n7 : n ≤ 7) (hf : S pf = some (.dI (fl.map eKV))) (o4 o5 : Option D) :
    t_k09_law_7 K a (wishOf E) (endsOf Q) [some (.scr ns), some (.int n), some (.lst (wl.map eII)), some (.ref pf), o4, o5, some (.lst ((partsR (rowsR (gOf n wl fl dl sl))).map dS)), none, none, none] S := by
  have hs : sizeLine = 2 ^ 24 := rfl
  have wr := bk.wr
  have n2 := bk.n2
  have lfl := bk.f.o.l
  have hgood : ∀ x ∈ rowsR (gOf n wl fl dl sl), x.good n := rowsR_good wr
  have hRl : (rowsR (gOf n wl fl dl sl)).length ≤ 300 := rowsR_len n7 bk.d.o.l
  have hmess := fun k => mess_read bk (cellAt ns 6) k
  have htext : textOf (gOf n wl fl dl sl) = linesT (lnS (headRow n) :: partsR (rowsR (gOf n wl fl dl sl))) := by
    rw [textW_lines, text_W, body_rows]; rfl
  have hTO := bk.txt
  have hpR := parts_good n2 hgood
  generalize gOf n wl fl dl sl = s at *
  simp only [t_k09_law_7]
  rw [dSeq_ap]
  simp only [dAsg, dCall, dCons, dNil, dLst, dC, dVar, newL, dgN, List.set_cons_zero, List.set_cons_succ, List.getElem?_cons_zero, List.getElem?_cons_succ]
  refine ⟨by simp [hs], x_law_line (l := headRow n) rfl (head_words n2) (by simp [headRow]) ?_⟩
  rw [head_dS]
  (try dsimp only)
  rw [dSeq_ap]
  simp only [dAsg, dJoin_K, dOp, dCall, dCons, dNil, dLst, dC, dVar, newL, dgN, List.set_cons_zero, List.set_cons_succ, List.getElem?_cons_zero, List.getElem?_cons_succ]
  rw [x_law_cell_at (by decide)]
  refine ⟨by simp [hs], n, _, pf, fl, _, rfl, n2, hf, bk.f, hgood, hRl, fun k => ?_⟩
  obtain ⟨hg2, s', e1, e2, e3⟩ := hmess k
  have hol : (outR fl (cellAt ns 6) k (rowsR s)).length ≤ 1100 := out_len lfl hRl
  generalize outR fl (cellAt ns 6) k (rowsR s) = xs at hg2 e1 hol
  have hpx := parts_good n2 hg2
  have hpl : (lnS (headRow n) :: partsR xs).length ≤ 2000 := by
    unfold partsR
    rw [List.length_cons, List.length_map]; omega
  simp only [addD, catD, vm]
  refine ⟨by unfold partsR; simp only [List.length_cons, List.length_nil, List.length_map]; omega, ?_⟩
  refine join_ls (ps := lnS (headRow n) :: partsR xs) hpx hpl (fun r er => ?_) rfl
  rw [er]
  (try dsimp only)
  simp only [dRet, dJoin_K, dOp, dCall, dCons, dNil, dLst, dC, dVar, newL, List.getElem?_cons_zero, List.getElem?_cons_succ]
  refine x_read (s := s') (linesT_rdbl hpx hpl) (by rw [rd_head bk.n1 n2 hpx]; exact e1) fun A S' g f => ?_
  refine ⟨A, s', _, rfl, g, by decide, txt_agree e2 e3 hTO, ?_⟩
  simp only [addD, catD, vm]
  have hRp : (lnS (headRow n) :: partsR (rowsR s)).length ≤ 2000 := by
    unfold partsR
    rw [List.length_cons, List.length_map]; omega
  refine ⟨by simp [hs], by unfold partsR; simp only [List.length_cons, List.length_nil, List.length_map]; omega, ?_⟩
  refine join_ls (ps := lnS (headRow n) :: partsR (rowsR s)) hpR hRp (fun r er => ?_) rfl
  rw [er, text_agree e2, htext]
  refine eqS (strOk_linesT hpR) (strOk_linesT hpR) ?_
  rw [decide_eq_true rfl]
  exact rt_le (le.trans f.le) q
theorem k09_6 (K : PySem.W.Frag) (a : CA) (S0 S : Sto) (Q : D → Sto → Prop) (E : Addr → Sto → Prop) (q : Q (.bl true) S0) (ns : List Int) (n : Nat) (pf : Addr) (wl : WL) (fl dl : KL) (sl : WL) (le : SLe S0 S) (bk : BookOk n wl fl dl sl) (n7 : n ≤ 7) (lw : wl.length ≤ 3600) (hf : S pf = some (.dI (fl.map eKV))) (o4 o5 : Option D) :
    t_k09_law_6 K a (wishOf E) (endsOf Q) [some (.scr ns), some (.int n), some (.lst (wl.map eII)), some (.ref pf), o4, o5, some (.lst ((partsR (rowsR (gOf n wl fl dl sl))).map dS)), none, none, none] S := by
  have hs : sizeLine = 2 ^ 24 := rfl
  simp only [t_k09_law_6]
  rw [dSeq_ap]
  simp only [dIfS, dB, dOp, dCall, dCons, dNil, dC, dVar, List.getElem?_cons_zero, List.getElem?_cons_succ]
  rw [x_law_cell_at (by decide)]
  simp only [modD, iiD]
  refine ⟨by decide, eqR_i ?_⟩
  by_cases c : cellAt ns 5 % 2 = 1
  · rw [decide_eq_true c]
    simp only [Bool.false_xor, ↓reduceIte]
    rw [dSeq_ap]
    simp only [dFor1, dCons, dNil, dC, rng1]
    refine ⟨by decide, ?_⟩
    refine dGo_rng (fun k ρ S2 => (∃ o7, ρ = [some (.scr ns), some (.int n), some (.lst (wl.map eII)), some (.ref pf), o4, o5, some (.lst ((partsR (rowsR (gOf n wl fl dl sl))).map dS)), o7, none, none]) ∧ S2 = S) ?_ ?_ _ _ ⟨⟨_, rfl⟩, rfl⟩
    · rintro ρ S2 ⟨⟨o7, rfl⟩, rfl⟩
      simp only [dRet, dC]
      exact rt_le le q
    · rintro k ρ S2 N hk ⟨⟨o7, rfl⟩, rfl⟩ hN
      simp only [dgN, List.set_cons_zero, List.set_cons_succ, dIfS, dNotT, dB, dOp, dCall, dCons, dNil, dC, dVar, List.getElem?_cons_zero, List.getElem?_cons_succ, addD, addI, iiD0]
      rw [x_law_cell_at (by omega)]
      refine ⟨n, wl, fl, dl, sl, _, rfl, bk, n7, lw, fun z hz hr => ?_⟩
      refine x_k09_law_refused hz hr ?_
      simp only [Bool.not_true, Bool.false_eq_true, ↓reduceIte, dNext]
      exact hN _ _ ⟨⟨_, rfl⟩, rfl⟩
  · rw [decide_eq_false c]
    simp only [Bool.false_xor, Bool.false_eq_true, ↓reduceIte, dNext]
    exact k09_7 K a S0 S Q E q ns n pf wl fl dl sl le bk n7 hf _ _
theorem read_k09_law (K : PySem.W.Frag) (a : CA) (ds : List D) (S : Sto) (Q : D → Sto → Prop) (E : Addr → Sto → Prop) (h : sp_k09_law a ds S Q E) : t_k09_law K a (wishOf E) (endsOf Q) (dstart N_k09_law ds) S := by
  obtain ⟨ns, rfl, hl, q⟩ := h
  have hs : sizeLine = 2 ^ 24 := rfl
  simp only [t_k09_law, N_k09_law, dstart, List.map_cons, List.map_nil, List.length_cons, List.length_nil, List.cons_append, List.nil_append, List.replicate, Nat.add_one_sub_one, Nat.reduceAdd, Nat.reduceSub, Nat.sub_self, Nat.sub_zero]
  rw [dSeq_ap]
  simp only [dAsg, dOp, dCall, dCons, dNil, dC, dVar, dgN, List.getElem?_cons_zero, List.getElem?_cons_succ, List.set_cons_zero, List.set_cons_succ]
  rw [x_law_cell_at (by decide)]
  generalize cellAt ns 0 = first
  simp only [modD, iiD, addD, addI, iiD0]
  refine ⟨by decide, ?_⟩
  obtain ⟨n, en, hn1, hn7⟩ : ∃ n : Nat, 1 + first % 7 = (n : Int) ∧ 1 ≤ n ∧ n ≤ 7 := ⟨(1 + first % 7).toNat, by omega, by omega, by omega⟩
  rw [en]
  (try dsimp only)
  rw [dSeq_ap]
  simp only [dAsg, dCall, dCons, dNil, dC, dVar, dgN, List.getElem?_cons_zero, List.getElem?_cons_succ, List.set_cons_zero, List.set_cons_succ]
  rw [x_law_cell_at (by decide)]
  refine ⟨_, n, rfl, by omega, fun wl ow lw => ?_⟩
  (try dsimp only)
  rw [dSeq_ap]
  simp only [dAsg, dCall, dCons, dNil, dC, dVar, dgN, List.getElem?_cons_zero, List.getElem?_cons_succ, List.set_cons_zero, List.set_cons_succ]
  rw [x_law_cell_at (by decide)]
  refine ⟨_, n, rfl, hn1, fun fl pf of lf hpf => ?_⟩
  (try dsimp only)
  rw [dSeq_ap]
  simp only [dAsg, dCall, dCons, dNil, dC, dVar, dgN, List.getElem?_cons_zero, List.getElem?_cons_succ, List.set_cons_zero, List.set_cons_succ]
  rw [x_law_cell_at (by decide)]
  refine ⟨_, n, rfl, hn1, by omega, fun dl pd od ld _ hpd => ?_⟩
  obtain ⟨nfd, hpd'⟩ := free_of hpd
  have le2 : SLe S (su (su S pf (.dI (fl.map eKV))) pd (.dI (dl.map eKV))) := (SLe.su hpf).trans (SLe.su hpd)
  have hf : su (su S pf (.dI (fl.map eKV))) pd (.dI (dl.map eKV)) pf = some (.dI (fl.map eKV)) := by rw [su_ne (Ne.symm nfd), su_same]
  have hd : su (su S pf (.dI (fl.map eKV))) pd (.dI (dl.map eKV)) pd = some (.dI (dl.map eKV)) := su_same
  generalize su (su S pf (.dI (fl.map eKV))) pd (.dI (dl.map eKV)) = S2 at *
  (try dsimp only)
  rw [dSeq_ap]
  simp only [dAsg, dCall, dCons, dNil, dC, dVar, dgN, List.getElem?_cons_zero, List.getElem?_cons_succ, List.set_cons_zero, List.set_cons_succ]
  rw [x_law_cell_at (by decide)]
  refine ⟨_, n, rfl, hn1, by omega, fun sl os lsl _ => ?_⟩
  (try dsimp only)
  rw [dSeq_ap]
  simp only [dAsg, dCall, dCons, dNil, dC, dVar, dgN, List.getElem?_cons_zero, List.getElem?_cons_succ, List.set_cons_zero, List.set_cons_succ]
  have bk : BookOk n wl fl dl sl := ⟨hn1, by omega, ow, of, od, os⟩
  refine ⟨n, _, pf, pd, _, wl, fl, dl, sl, rfl, rfl, hf, hd, rfl, bk, ?_⟩
  rw [body_dS]
  exact k09_6 K a S S2 Q E q ns n pf wl fl dl sl le2 bk hn7 lw hf _ _

end DL
namespace DL
open PySem L2
def top (i : Nat) : Stmt := PySem.Challenge.pw_heraldways_k09_read_or_refused.main.body.getD i (.Pass ⟨0, 0, 0, 0⟩)
abbrev s_Guild_init : Stmt := inClass (top 8) 0
abbrev s_Guild_size : Stmt := inClass (top 8) 1
abbrev s_Guild_see_house : Stmt := inClass (top 8) 2
abbrev s_Guild_see_two : Stmt := inClass (top 8) 3
abbrev s_Guild_neighbours : Stmt := inClass (top 8) 4
abbrev s_Guild_lay_way : Stmt := inClass (top 8) 6
abbrev s_Guild_like : Stmt := inClass (top 8) 8
abbrev s_Guild_liking : Stmt := inClass (top 8) 9
abbrev s_Guild_shun : Stmt := inClass (top 8) 10
abbrev s_Guild_shunned : Stmt := inClass (top 8) 11
abbrev s_Guild_see_road : Stmt := inClass (top 8) 12
abbrev s_Guild_wish : Stmt := inClass (top 8) 13
abbrev s_Guild_wishes : Stmt := inClass (top 8) 14
abbrev s_line_of : Stmt := top 11
abbrev s_shown : Stmt := top 12
abbrev s_number : Stmt := top 13
abbrev s_told_line : Stmt := top 14
abbrev s_read : Stmt := top 15
abbrev s_law_cell_at : Stmt := top 17
abbrev s_law_road_by : Stmt := top 18
abbrev s_law_ways_by : Stmt := top 19
abbrev s_law_fond_by : Stmt := top 20
abbrev s_law_dear_by : Stmt := top 21
abbrev s_law_shy_by : Stmt := top 22
abbrev s_law_line : Stmt := top 23
abbrev s_law_lines : Stmt := top 24
abbrev s_law_bad_line : Stmt := top 25
abbrev s_law_bad_first : Stmt := top 26
abbrev s_k09_law_spoiled : Stmt := top 27
abbrev s_law_other_order : Stmt := top 28
abbrev s_k09_law_refused : Stmt := top 29
abbrev s_k09_law : Stmt := top 30
structure Ad where
  c : CA
  f_Guild_init : Addr
  d_Guild_init : FuncData
  f_Guild_size : Addr
  d_Guild_size : FuncData
  f_Guild_see_house : Addr
  d_Guild_see_house : FuncData
  f_Guild_see_two : Addr
  d_Guild_see_two : FuncData
  f_Guild_neighbours : Addr
  d_Guild_neighbours : FuncData
  f_Guild_lay_way : Addr
  d_Guild_lay_way : FuncData
  f_Guild_like : Addr
  d_Guild_like : FuncData
  f_Guild_liking : Addr
  d_Guild_liking : FuncData
  f_Guild_shun : Addr
  d_Guild_shun : FuncData
  f_Guild_shunned : Addr
  d_Guild_shunned : FuncData
  f_Guild_see_road : Addr
  d_Guild_see_road : FuncData
  f_Guild_wish : Addr
  d_Guild_wish : FuncData
  f_Guild_wishes : Addr
  d_Guild_wishes : FuncData
  f_line_of : Addr
  d_line_of : FuncData
  f_shown : Addr
  d_shown : FuncData
  f_number : Addr
  d_number : FuncData
  f_told_line : Addr
  d_told_line : FuncData
  f_read : Addr
  d_read : FuncData
  f_law_cell_at : Addr
  d_law_cell_at : FuncData
  f_law_road_by : Addr
  d_law_road_by : FuncData
  f_law_ways_by : Addr
  d_law_ways_by : FuncData
  f_law_fond_by : Addr
  d_law_fond_by : FuncData
  f_law_dear_by : Addr
  d_law_dear_by : FuncData
  f_law_shy_by : Addr
  d_law_shy_by : FuncData
  f_law_line : Addr
  d_law_line : FuncData
  f_law_lines : Addr
  d_law_lines : FuncData
  f_law_bad_line : Addr
  d_law_bad_line : FuncData
  f_law_bad_first : Addr
  d_law_bad_first : FuncData
  f_k09_law_spoiled : Addr
  d_k09_law_spoiled : FuncData
  f_law_other_order : Addr
  d_law_other_order : FuncData
  f_k09_law_refused : Addr
  d_k09_law_refused : FuncData
  f_k09_law : Addr
  d_k09_law : FuncData
structure Txt (K : PySem.W.Frag) (mg : Str → Option Value) (a : Ad) : Prop where
  d_Guild_init : MethT K a.c.Guild "__init__" "Guild.__init__" s_Guild_init ["self", "size"] a.f_Guild_init a.d_Guild_init
  d_Guild_size : MethT K a.c.Guild "size" "Guild.size" s_Guild_size ["self"] a.f_Guild_size a.d_Guild_size
  d_Guild_see_house : MethT K a.c.Guild "see_house" "Guild.see_house" s_Guild_see_house ["self", "a"] a.f_Guild_see_house a.d_Guild_see_house
  d_Guild_see_two : MethT K a.c.Guild "see_two" "Guild.see_two" s_Guild_see_two ["self", "a", "b"] a.f_Guild_see_two a.d_Guild_see_two
  d_Guild_neighbours : MethT K a.c.Guild "neighbours" "Guild.neighbours" s_Guild_neighbours ["self", "a"] a.f_Guild_neighbours a.d_Guild_neighbours
  d_Guild_lay_way : MethT K a.c.Guild "lay_way" "Guild.lay_way" s_Guild_lay_way ["self", "a", "b"] a.f_Guild_lay_way a.d_Guild_lay_way
  d_Guild_like : MethT K a.c.Guild "like" "Guild.like" s_Guild_like ["self", "a", "b", "rank"] a.f_Guild_like a.d_Guild_like
  d_Guild_liking : MethT K a.c.Guild "liking" "Guild.liking" s_Guild_liking ["self", "a", "b"] a.f_Guild_liking a.d_Guild_liking
  d_Guild_shun : MethT K a.c.Guild "shun" "Guild.shun" s_Guild_shun ["self", "a", "b"] a.f_Guild_shun a.d_Guild_shun
  d_Guild_shunned : MethT K a.c.Guild "shunned" "Guild.shunned" s_Guild_shunned ["self", "a"] a.f_Guild_shunned a.d_Guild_shunned
  d_Guild_see_road : MethT K a.c.Guild "see_road" "Guild.see_road" s_Guild_see_road ["self", "road"] a.f_Guild_see_road a.d_Guild_see_road
  d_Guild_wish : MethT K a.c.Guild "wish" "Guild.wish" s_Guild_wish ["self", "road", "rank"] a.f_Guild_wish a.d_Guild_wish
  d_Guild_wishes : MethT K a.c.Guild "wishes" "Guild.wishes" s_Guild_wishes ["self"] a.f_Guild_wishes a.d_Guild_wishes
  d_line_of : DefT K mg "line_of" s_line_of ["words"] a.f_line_of a.d_line_of
  d_shown : DefT K mg "shown" s_shown ["guild"] a.f_shown a.d_shown
  d_number : DefT K mg "number" s_number ["word"] a.f_number a.d_number
  d_told_line : DefT K mg "told_line" s_told_line ["guild", "line"] a.f_told_line a.d_told_line
  d_read : DefT K mg "read" s_read ["text"] a.f_read a.d_read
  d_law_cell_at : DefT K mg "_law_cell_at" s_law_cell_at ["script", "k"] a.f_law_cell_at a.d_law_cell_at
  d_law_road_by : DefT K mg "_law_road_by" s_law_road_by ["cell", "house", "size"] a.f_law_road_by a.d_law_road_by
  d_law_ways_by : DefT K mg "_law_ways_by" s_law_ways_by ["cell", "size"] a.f_law_ways_by a.d_law_ways_by
  d_law_fond_by : DefT K mg "_law_fond_by" s_law_fond_by ["cell", "size"] a.f_law_fond_by a.d_law_fond_by
  d_law_dear_by : DefT K mg "_law_dear_by" s_law_dear_by ["cell", "size"] a.f_law_dear_by a.d_law_dear_by
  d_law_shy_by : DefT K mg "_law_shy_by" s_law_shy_by ["cell", "size"] a.f_law_shy_by a.d_law_shy_by
  d_law_line : DefT K mg "_law_line" s_law_line ["words"] a.f_law_line a.d_law_line
  d_law_lines : DefT K mg "_law_lines" s_law_lines ["ways", "fond", "dear", "shy"] a.f_law_lines a.d_law_lines
  d_law_bad_line : DefT K mg "_law_bad_line" s_law_bad_line ["cell"] a.f_law_bad_line a.d_law_bad_line
  d_law_bad_first : DefT K mg "_law_bad_first" s_law_bad_first ["cell"] a.f_law_bad_first a.d_law_bad_first
  d_k09_law_spoiled : DefT K mg "_law_spoiled" s_k09_law_spoiled ["size", "lines", "ways", "cell"] a.f_k09_law_spoiled a.d_k09_law_spoiled
  d_law_other_order : DefT K mg "_law_other_order" s_law_other_order ["lines", "fond", "cell"] a.f_law_other_order a.d_law_other_order
  d_k09_law_refused : DefT K mg "_law_refused" s_k09_law_refused ["text"] a.f_k09_law_refused a.d_k09_law_refused
  d_k09_law : DefT K mg "law" s_k09_law ["script"] a.f_k09_law a.d_k09_law
  cl_Guild : Cls K a.c.Guild
  g_Guild : mg "Guild" = some (.ref a.c.Guild)
  mk_Guild : Mk K a.c.Guild a.f_Guild_init
  na_Guild_fond : NoAttr K a.c.Guild "fond"
  na_Guild_houses : NoAttr K a.c.Guild "houses"
  na_Guild_longings : NoAttr K a.c.Guild "longings"
  na_Guild_shy : NoAttr K a.c.Guild "shy"
  na_Guild_ties : NoAttr K a.c.Guild "ties"
  c_FIGURES : ∃ t, mg "FIGURES" = some (.str "0123456789" t)
  n_ValueError : mg "ValueError" = none
  n_int : mg "int" = none
  n_isinstance : mg "isinstance" = none
  n_len : mg "len" = none
  n_list : mg "list" = none
  n_range : mg "range" = none
  n_set : mg "set" = none
  n_sorted : mg "sorted" = none
  n_str : mg "str" = none
  n_tuple : mg "tuple" = none
  x_GuildError : ExcT K mg "GuildError" a.c.GuildError
  x_NoHouse : ExcT K mg "NoHouse" a.c.NoHouse
  x_WayThere : ExcT K mg "WayThere" a.c.WayThere
  x_NoRoad : ExcT K mg "NoRoad" a.c.NoRoad
  x_BadNote : ExcT K mg "BadNote" a.c.BadNote
  ex : ExK K a.c
theorem sc_Guild_init : FnScope N_Guild_init ["self", "size"] (defScope s_Guild_init) := ⟨rfl, rfl, rfl, by decide +kernel, rfl, by decide +kernel, by decide +kernel⟩
theorem okN_Guild_init {P : Program} {w : World} {K : PySem.W.Frag} {mg : Str → Option Value} {base : Heap} {a : Ad} (T : Txt K mg a) : FnOk P w K mg base (L2N.CX P w) 1 a.f_Guild_init a.d_Guild_init ["self", "size"] (upSp K (sp_Guild_init a.c)) :=
  def_okN (t := t_Guild_init K a.c) T.d_Guild_init.F sc_Guild_init (len_Guild_init a.c) (fun cdv A outer s H E G0 W hr tk po =>
  (dss_cons (ds_if (dt_w (dw_or (dt_lt (dv 1) de_int) (dw_or1 (dt_gt (dv 1) de_int))))
    (dss_one (ds_raiseN rfl tk (T.x_NoHouse.mkN rfl)))
    dss_nil)
  (dss_cons (ds_fld T.cl_Guild T.na_Guild_houses (dv 0) (dv 1))
  (dss_cons (ds_fld T.cl_Guild T.na_Guild_ties (dv 0) (de_lc (own := [("house", 2)]) true rfl sc_Guild_init.nd (pi_range1 rfl T.n_range (da_cons (dv 1) da_nil)) lift_iR1 lift_gN wipeG_name (blkOk_by (own := [("house", 2)]) (N := N_Guild_init) (sc := defScope s_Guild_init) (by decide +kernel)) (fun _ _ _ _ _ => pg_name (i := 2) sc_Guild_init.nd rfl (Or.inl rfl)) (fun _ _ _ _ _ _ _ => dts_nil) (fun _ _ _ _ _ _ tk => (de_lst false da_nil))))
  (dss_cons (ds_fld T.cl_Guild T.na_Guild_shy (dv 0) (de_lc (own := [("house", 2)]) true rfl sc_Guild_init.nd (pi_range1 rfl T.n_range (da_cons (dv 1) da_nil)) lift_iR1 lift_gN wipeG_name (blkOk_by (own := [("house", 2)]) (N := N_Guild_init) (sc := defScope s_Guild_init) (by decide +kernel)) (fun _ _ _ _ _ => pg_name (i := 2) sc_Guild_init.nd rfl (Or.inl rfl)) (fun _ _ _ _ _ _ _ => dts_nil) (fun _ _ _ _ _ _ tk => (de_lst false da_nil))))
  (dss_cons (ds_fld T.cl_Guild T.na_Guild_fond (dv 0) de_dict0)
  (dss_one (ds_fld T.cl_Guild T.na_Guild_longings (dv 0) de_dict0))))))))
  (read_Guild_init K a.c)
theorem ok_Guild_init {P : Program} {w : World} {K : PySem.W.Frag} {mg : Str → Option Value} {base : Heap} {a : Ad} (T : Txt K mg a) : FnOk P w K mg base (L2.CX P w) 1 a.f_Guild_init a.d_Guild_init ["self", "size"] (upSp K (sp_Guild_init a.c)) := weakN (okN_Guild_init T)
theorem sc_Guild_size : FnScope N_Guild_size ["self"] (defScope s_Guild_size) := ⟨rfl, rfl, rfl, by decide +kernel, rfl, by decide +kernel, by decide +kernel⟩
theorem ok_Guild_size {P : Program} {w : World} {K : PySem.W.Frag} {mg : Str → Option Value} {base : Heap} {a : Ad} (T : Txt K mg a) : FnOk P w K mg base (L2.CX P w) 1 a.f_Guild_size a.d_Guild_size ["self"] (upSp K (sp_Guild_size a.c)) :=
  def_ok (t := t_Guild_size K a.c) T.d_Guild_size.F sc_Guild_size (len_Guild_size a.c) (fun cdv A outer s H E G0 W hr tk po =>
  (dss_one (ds_ret (de_fld T.cl_Guild T.na_Guild_houses (dv 0)))))
  (read_Guild_size K a.c)
theorem sc_Guild_see_house : FnScope N_Guild_see_house ["self", "a"] (defScope s_Guild_see_house) := ⟨rfl, rfl, rfl, by decide +kernel, rfl, by decide +kernel, by decide +kernel⟩
theorem okN_Guild_see_house {P : Program} {w : World} {K : PySem.W.Frag} {mg : Str → Option Value} {base : Heap} {a : Ad} (T : Txt K mg a) : FnOk P w K mg base (L2N.CX P w) 1 a.f_Guild_see_house a.d_Guild_see_house ["self", "a"] (upSp K (sp_Guild_see_house a.c)) :=
  def_okN (t := t_Guild_see_house K a.c) T.d_Guild_see_house.F sc_Guild_see_house (len_Guild_see_house a.c) (fun cdv A outer s H E G0 W hr tk po =>
  (dss_one (ds_if (dt_w (dw_or (dt_lt (dv 1) de_int) (dw_or1 (dt_ge (dv 1) (de_fld T.cl_Guild T.na_Guild_houses (dv 0))))))
    (dss_one (ds_raiseN rfl tk (T.x_NoHouse.mkN rfl)))
    dss_nil)))
  (read_Guild_see_house K a.c)
theorem ok_Guild_see_house {P : Program} {w : World} {K : PySem.W.Frag} {mg : Str → Option Value} {base : Heap} {a : Ad} (T : Txt K mg a) : FnOk P w K mg base (L2.CX P w) 1 a.f_Guild_see_house a.d_Guild_see_house ["self", "a"] (upSp K (sp_Guild_see_house a.c)) := weakN (okN_Guild_see_house T)
theorem sc_Guild_see_two : FnScope N_Guild_see_two ["self", "a", "b"] (defScope s_Guild_see_two) := ⟨rfl, rfl, rfl, by decide +kernel, rfl, by decide +kernel, by decide +kernel⟩
theorem okN_Guild_see_two {P : Program} {w : World} {K : PySem.W.Frag} {mg : Str → Option Value} {base : Heap} {a : Ad} (T : Txt K mg a) : FnOk P w K mg base (L2N.CX P w) 2 a.f_Guild_see_two a.d_Guild_see_two ["self", "a", "b"] (upSp K (sp_Guild_see_two a.c)) :=
  def_okN (t := t_Guild_see_two K a.c) T.d_Guild_see_two.F sc_Guild_see_two (len_Guild_see_two a.c) (fun cdv A outer s H E G0 W hr tk po =>
  (dss_cons (ds_expr (de_methN (okN_Guild_see_house T) (hr.mono (by decide)) T.cl_Guild T.d_Guild_see_house.m T.d_Guild_see_house.b tk (dv 0) (da_cons (dv 1) da_nil)))
  (dss_cons (ds_expr (de_methN (okN_Guild_see_house T) (hr.mono (by decide)) T.cl_Guild T.d_Guild_see_house.m T.d_Guild_see_house.b tk (dv 0) (da_cons (dv 2) da_nil)))
  (dss_one (ds_if (dt_eq hr (dv 1) (dv 2))
    (dss_one (ds_raiseN rfl tk (T.x_NoHouse.mkN rfl)))
    dss_nil)))))
  (read_Guild_see_two K a.c)
theorem ok_Guild_see_two {P : Program} {w : World} {K : PySem.W.Frag} {mg : Str → Option Value} {base : Heap} {a : Ad} (T : Txt K mg a) : FnOk P w K mg base (L2.CX P w) 2 a.f_Guild_see_two a.d_Guild_see_two ["self", "a", "b"] (upSp K (sp_Guild_see_two a.c)) := weakN (okN_Guild_see_two T)
theorem sc_Guild_neighbours : FnScope N_Guild_neighbours ["self", "a"] (defScope s_Guild_neighbours) := ⟨rfl, rfl, rfl, by decide +kernel, rfl, by decide +kernel, by decide +kernel⟩
theorem ok_Guild_neighbours {P : Program} {w : World} {K : PySem.W.Frag} {mg : Str → Option Value} {base : Heap} {a : Ad} (T : Txt K mg a) : FnOk P w K mg base (L2.CX P w) 2 a.f_Guild_neighbours a.d_Guild_neighbours ["self", "a"] (upSp K (sp_Guild_neighbours a.c)) :=
  def_ok (t := t_Guild_neighbours K a.c) T.d_Guild_neighbours.F sc_Guild_neighbours (len_Guild_neighbours a.c) (fun cdv A outer s H E G0 W hr tk po =>
  (dss_cons (ds_expr (de_meth (ok_Guild_see_house T) (hr.mono (by decide)) T.cl_Guild T.d_Guild_see_house.m T.d_Guild_see_house.b tk (dv 0) (da_cons (dv 1) da_nil)))
  (dss_one (ds_ret (de_list false rfl T.n_list (da_cons (de_at hr (de_fld T.cl_Guild T.na_Guild_ties (dv 0)) (dv 1)) da_nil))))))
  (read_Guild_neighbours K a.c)
theorem sc_Guild_lay_way : FnScope N_Guild_lay_way ["self", "a", "b"] (defScope s_Guild_lay_way) := ⟨rfl, rfl, rfl, by decide +kernel, rfl, by decide +kernel, by decide +kernel⟩
theorem okN_Guild_lay_way {P : Program} {w : World} {K : PySem.W.Frag} {mg : Str → Option Value} {base : Heap} {a : Ad} (T : Txt K mg a) : FnOk P w K mg base (L2N.CX P w) 3 a.f_Guild_lay_way a.d_Guild_lay_way ["self", "a", "b"] (upSp K (sp_Guild_lay_way a.c)) :=
  def_okN (t := t_Guild_lay_way K a.c) T.d_Guild_lay_way.F sc_Guild_lay_way (len_Guild_lay_way a.c) (fun cdv A outer s H E G0 W hr tk po =>
  (dss_cons (ds_expr (de_methN (okN_Guild_see_two T) (hr.mono (by decide)) T.cl_Guild T.d_Guild_see_two.m T.d_Guild_see_two.b tk (dv 0) (da_cons (dv 1) (da_cons (dv 2) da_nil))))
  (dss_cons (ds_if (dt_in hr (dv 2) (de_at hr (de_fld T.cl_Guild T.na_Guild_ties (dv 0)) (dv 1)))
    (dss_one (ds_raiseN rfl tk (T.x_WayThere.mkN rfl)))
    dss_nil)
  (dss_cons (ds_setIx hr (de_fld T.cl_Guild T.na_Guild_ties (dv 0)) (dv 1) (de_sorted false T.n_sorted (da_cons (de_add false (de_at hr (de_fld T.cl_Guild T.na_Guild_ties (dv 0)) (dv 1)) (de_lst false (da_cons (dv 2) da_nil))) da_nil)))
  (dss_one (ds_setIx hr (de_fld T.cl_Guild T.na_Guild_ties (dv 0)) (dv 2) (de_sorted false T.n_sorted (da_cons (de_add false (de_at hr (de_fld T.cl_Guild T.na_Guild_ties (dv 0)) (dv 2)) (de_lst false (da_cons (dv 1) da_nil))) da_nil))))))))
  (read_Guild_lay_way K a.c)
theorem ok_Guild_lay_way {P : Program} {w : World} {K : PySem.W.Frag} {mg : Str → Option Value} {base : Heap} {a : Ad} (T : Txt K mg a) : FnOk P w K mg base (L2.CX P w) 3 a.f_Guild_lay_way a.d_Guild_lay_way ["self", "a", "b"] (upSp K (sp_Guild_lay_way a.c)) := weakN (okN_Guild_lay_way T)
theorem sc_Guild_like : FnScope N_Guild_like ["self", "a", "b", "rank"] (defScope s_Guild_like) := ⟨rfl, rfl, rfl, by decide +kernel, rfl, by decide +kernel, by decide +kernel⟩
theorem okN_Guild_like {P : Program} {w : World} {K : PySem.W.Frag} {mg : Str → Option Value} {base : Heap} {a : Ad} (T : Txt K mg a) : FnOk P w K mg base (L2N.CX P w) 2 a.f_Guild_like a.d_Guild_like ["self", "a", "b", "rank"] (upSp K (sp_Guild_like a.c)) :=
  def_okN (t := t_Guild_like K a.c) T.d_Guild_like.F sc_Guild_like (len_Guild_like a.c) (fun cdv A outer s H E G0 W hr tk po =>
  (dss_cons (ds_expr (de_methN (okN_Guild_see_house T) (hr.mono (by decide)) T.cl_Guild T.d_Guild_see_house.m T.d_Guild_see_house.b tk (dv 0) (da_cons (dv 1) da_nil)))
  (dss_cons (ds_expr (de_methN (okN_Guild_see_house T) (hr.mono (by decide)) T.cl_Guild T.d_Guild_see_house.m T.d_Guild_see_house.b tk (dv 0) (da_cons (dv 2) da_nil)))
  (dss_one (ds_setIx hr (de_fld T.cl_Guild T.na_Guild_fond (dv 0)) (de_tup (da_cons (dv 1) (da_cons (dv 2) da_nil))) (dv 3))))))
  (read_Guild_like K a.c)
theorem ok_Guild_like {P : Program} {w : World} {K : PySem.W.Frag} {mg : Str → Option Value} {base : Heap} {a : Ad} (T : Txt K mg a) : FnOk P w K mg base (L2.CX P w) 2 a.f_Guild_like a.d_Guild_like ["self", "a", "b", "rank"] (upSp K (sp_Guild_like a.c)) := weakN (okN_Guild_like T)
theorem sc_Guild_liking : FnScope N_Guild_liking ["self", "a", "b"] (defScope s_Guild_liking) := ⟨rfl, rfl, rfl, by decide +kernel, rfl, by decide +kernel, by decide +kernel⟩
theorem ok_Guild_liking {P : Program} {w : World} {K : PySem.W.Frag} {mg : Str → Option Value} {base : Heap} {a : Ad} (T : Txt K mg a) : FnOk P w K mg base (L2.CX P w) 2 a.f_Guild_liking a.d_Guild_liking ["self", "a", "b"] (upSp K (sp_Guild_liking a.c)) :=
  def_ok (t := t_Guild_liking K a.c) T.d_Guild_liking.F sc_Guild_liking (len_Guild_liking a.c) (fun cdv A outer s H E G0 W hr tk po =>
  (dss_cons (ds_expr (de_meth (ok_Guild_see_house T) (hr.mono (by decide)) T.cl_Guild T.d_Guild_see_house.m T.d_Guild_see_house.b tk (dv 0) (da_cons (dv 1) da_nil)))
  (dss_cons (ds_expr (de_meth (ok_Guild_see_house T) (hr.mono (by decide)) T.cl_Guild T.d_Guild_see_house.m T.d_Guild_see_house.b tk (dv 0) (da_cons (dv 2) da_nil)))
  (dss_one (ds_ret (de_get2 hr (de_fld T.cl_Guild T.na_Guild_fond (dv 0)) (de_tup (da_cons (dv 1) (da_cons (dv 2) da_nil))) de_int))))))
  (read_Guild_liking K a.c)
theorem sc_Guild_shun : FnScope N_Guild_shun ["self", "a", "b"] (defScope s_Guild_shun) := ⟨rfl, rfl, rfl, by decide +kernel, rfl, by decide +kernel, by decide +kernel⟩
theorem okN_Guild_shun {P : Program} {w : World} {K : PySem.W.Frag} {mg : Str → Option Value} {base : Heap} {a : Ad} (T : Txt K mg a) : FnOk P w K mg base (L2N.CX P w) 3 a.f_Guild_shun a.d_Guild_shun ["self", "a", "b"] (upSp K (sp_Guild_shun a.c)) :=
  def_okN (t := t_Guild_shun K a.c) T.d_Guild_shun.F sc_Guild_shun (len_Guild_shun a.c) (fun cdv A outer s H E G0 W hr tk po =>
  (dss_cons (ds_expr (de_methN (okN_Guild_see_two T) (hr.mono (by decide)) T.cl_Guild T.d_Guild_see_two.m T.d_Guild_see_two.b tk (dv 0) (da_cons (dv 1) (da_cons (dv 2) da_nil))))
  (dss_one (ds_if (dt_notIn hr (dv 2) (de_at hr (de_fld T.cl_Guild T.na_Guild_shy (dv 0)) (dv 1)))
    (dss_one (ds_setIx hr (de_fld T.cl_Guild T.na_Guild_shy (dv 0)) (dv 1) (de_sorted false T.n_sorted (da_cons (de_add false (de_at hr (de_fld T.cl_Guild T.na_Guild_shy (dv 0)) (dv 1)) (de_lst false (da_cons (dv 2) da_nil))) da_nil))))
    dss_nil))))
  (read_Guild_shun K a.c)
theorem ok_Guild_shun {P : Program} {w : World} {K : PySem.W.Frag} {mg : Str → Option Value} {base : Heap} {a : Ad} (T : Txt K mg a) : FnOk P w K mg base (L2.CX P w) 3 a.f_Guild_shun a.d_Guild_shun ["self", "a", "b"] (upSp K (sp_Guild_shun a.c)) := weakN (okN_Guild_shun T)
theorem sc_Guild_shunned : FnScope N_Guild_shunned ["self", "a"] (defScope s_Guild_shunned) := ⟨rfl, rfl, rfl, by decide +kernel, rfl, by decide +kernel, by decide +kernel⟩
theorem ok_Guild_shunned {P : Program} {w : World} {K : PySem.W.Frag} {mg : Str → Option Value} {base : Heap} {a : Ad} (T : Txt K mg a) : FnOk P w K mg base (L2.CX P w) 2 a.f_Guild_shunned a.d_Guild_shunned ["self", "a"] (upSp K (sp_Guild_shunned a.c)) :=
  def_ok (t := t_Guild_shunned K a.c) T.d_Guild_shunned.F sc_Guild_shunned (len_Guild_shunned a.c) (fun cdv A outer s H E G0 W hr tk po =>
  (dss_cons (ds_expr (de_meth (ok_Guild_see_house T) (hr.mono (by decide)) T.cl_Guild T.d_Guild_see_house.m T.d_Guild_see_house.b tk (dv 0) (da_cons (dv 1) da_nil)))
  (dss_one (ds_ret (de_list false rfl T.n_list (da_cons (de_at hr (de_fld T.cl_Guild T.na_Guild_shy (dv 0)) (dv 1)) da_nil))))))
  (read_Guild_shunned K a.c)
theorem sc_Guild_see_road : FnScope N_Guild_see_road ["self", "road"] (defScope s_Guild_see_road) := ⟨rfl, rfl, rfl, by decide +kernel, rfl, by decide +kernel, by decide +kernel⟩
theorem okN_Guild_see_road {P : Program} {w : World} {K : PySem.W.Frag} {mg : Str → Option Value} {base : Heap} {a : Ad} (T : Txt K mg a) : FnOk P w K mg base (L2N.CX P w) 2 a.f_Guild_see_road a.d_Guild_see_road ["self", "road"] (upSp K (sp_Guild_see_road a.c)) :=
  def_okN (t := t_Guild_see_road K a.c) T.d_Guild_see_road.F sc_Guild_see_road (len_Guild_see_road a.c) (fun cdv A outer s H E G0 W hr tk po =>
  (dss_cons (ds_forN po rfl tk (dv 1) (pg_name (i := 2) sc_Guild_see_road.nd rfl (by first | exact Or.inl rfl | exact Or.inr rfl)) lift_gN (fun _ tk =>
    (dss_one (ds_expr (de_methN (okN_Guild_see_house T) (hr.mono (by decide)) T.cl_Guild T.d_Guild_see_house.m T.d_Guild_see_house.b tk (dv 0) (da_cons (dv 2) da_nil))))))
  (dss_one (ds_if (dt_w (dw_or (dt_lt (de_len T.n_len (da_cons (dv 1) da_nil)) de_int) (dw_or (dt_ne hr (de_at hr (dv 1) (de_neg de_int)) de_int) (dw_or1 (dt_ne hr (de_lenSet rfl T.n_len T.n_set (dv 1)) (de_len T.n_len (da_cons (dv 1) da_nil)))))))
    (dss_one (ds_raiseN rfl tk (T.x_NoRoad.mkN rfl)))
    dss_nil))))
  (read_Guild_see_road K a.c)
theorem ok_Guild_see_road {P : Program} {w : World} {K : PySem.W.Frag} {mg : Str → Option Value} {base : Heap} {a : Ad} (T : Txt K mg a) : FnOk P w K mg base (L2.CX P w) 2 a.f_Guild_see_road a.d_Guild_see_road ["self", "road"] (upSp K (sp_Guild_see_road a.c)) := weakN (okN_Guild_see_road T)
theorem sc_Guild_wish : FnScope N_Guild_wish ["self", "road", "rank"] (defScope s_Guild_wish) := ⟨rfl, rfl, rfl, by decide +kernel, rfl, by decide +kernel, by decide +kernel⟩
theorem okN_Guild_wish {P : Program} {w : World} {K : PySem.W.Frag} {mg : Str → Option Value} {base : Heap} {a : Ad} (T : Txt K mg a) : FnOk P w K mg base (L2N.CX P w) 3 a.f_Guild_wish a.d_Guild_wish ["self", "road", "rank"] (upSp K (sp_Guild_wish a.c)) :=
  def_okN (t := t_Guild_wish K a.c) T.d_Guild_wish.F sc_Guild_wish (len_Guild_wish a.c) (fun cdv A outer s H E G0 W hr tk po =>
  (dss_cons (ds_expr (de_methN (okN_Guild_see_road T) (hr.mono (by decide)) T.cl_Guild T.d_Guild_see_road.m T.d_Guild_see_road.b tk (dv 0) (da_cons (dv 1) da_nil)))
  (dss_one (ds_setIx hr (de_fld T.cl_Guild T.na_Guild_longings (dv 0)) (de_tuple T.n_tuple (da_cons (dv 1) da_nil)) (dv 2)))))
  (read_Guild_wish K a.c)
theorem ok_Guild_wish {P : Program} {w : World} {K : PySem.W.Frag} {mg : Str → Option Value} {base : Heap} {a : Ad} (T : Txt K mg a) : FnOk P w K mg base (L2.CX P w) 3 a.f_Guild_wish a.d_Guild_wish ["self", "road", "rank"] (upSp K (sp_Guild_wish a.c)) := weakN (okN_Guild_wish T)
theorem sc_Guild_wishes : FnScope N_Guild_wishes ["self"] (defScope s_Guild_wishes) := ⟨rfl, rfl, rfl, by decide +kernel, rfl, by decide +kernel, by decide +kernel⟩
theorem ok_Guild_wishes {P : Program} {w : World} {K : PySem.W.Frag} {mg : Str → Option Value} {base : Heap} {a : Ad} (T : Txt K mg a) : FnOk P w K mg base (L2.CX P w) 1 a.f_Guild_wishes a.d_Guild_wishes ["self"] (upSp K (sp_Guild_wishes a.c)) :=
  def_ok (t := t_Guild_wishes K a.c) T.d_Guild_wishes.F sc_Guild_wishes (len_Guild_wishes a.c) (fun cdv A outer s H E G0 W hr tk po =>
  (dss_one (ds_ret (de_lc (own := [("key", 1)]) false rfl sc_Guild_wishes.nd (pi_list (de_sortedT false hr T.n_sorted (da_cons (de_list false rfl T.n_list (da_cons (de_fld T.cl_Guild T.na_Guild_longings (dv 0)) da_nil)) da_nil))) lift_iL lift_gN wipeG_name (blkOk_by (own := [("key", 1)]) (N := N_Guild_wishes) (sc := defScope s_Guild_wishes) (by decide +kernel)) (fun _ _ _ _ _ => pg_name (i := 1) sc_Guild_wishes.nd rfl (Or.inl rfl)) (fun _ _ _ _ _ _ _ => dts_nil) (fun _ _ _ _ _ _ tk => (de_tup (da_cons (de_list false rfl T.n_list (da_cons (dv 1) da_nil)) (da_cons (de_at hr (de_fld T.cl_Guild T.na_Guild_longings (dv 0)) (dv 1)) da_nil))))))))
  (read_Guild_wishes K a.c)
theorem sc_line_of : FnScope N_line_of ["words"] (defScope s_line_of) := ⟨rfl, rfl, rfl, by decide +kernel, rfl, by decide +kernel, by decide +kernel⟩
theorem ok_line_of {P : Program} {w : World} {K : PySem.W.Frag} {mg : Str → Option Value} {base : Heap} {a : Ad} (T : Txt K mg a) : FnOk P w K mg base (L2.CX P w) 1 a.f_line_of a.d_line_of ["words"] (upSp K (sp_line_of a.c)) :=
  def_ok (t := t_line_of K a.c) T.d_line_of.F sc_line_of (len_line_of a.c) (fun cdv A outer s H E G0 W hr tk po =>
  (dss_one (ds_ret (de_add false (de_join de_str (de_lc (own := [("word", 1)]) false rfl sc_line_of.nd (pi_list (dv 0)) lift_iL lift_gN wipeG_name (blkOk_by (own := [("word", 1)]) (N := N_line_of) (sc := defScope s_line_of) (by decide +kernel)) (fun _ _ _ _ _ => pg_name (i := 1) sc_line_of.nd rfl (Or.inl rfl)) (fun _ _ _ _ _ _ _ => dts_nil) (fun _ _ _ _ _ _ tk => (de_str_of T.n_str (da_cons (dv 1) da_nil))))) de_str))))
  (read_line_of K a.c)
theorem sc_shown : FnScope N_shown ["guild"] (defScope s_shown) := ⟨rfl, rfl, rfl, by decide +kernel, rfl, by decide +kernel, by decide +kernel⟩
theorem ok_shown {P : Program} {w : World} {K : PySem.W.Frag} {mg : Str → Option Value} {base : Heap} {a : Ad} (T : Txt K mg a) : FnOk P w K mg base (L2.CX P w) 3 a.f_shown a.d_shown ["guild"] (upSp K (sp_shown a.c)) :=
  def_ok (t := t_shown K a.c) T.d_shown.F sc_shown (len_shown a.c) (fun cdv A outer s H E G0 W hr tk po =>
  (dss_cons (ds_set 1 sc_shown.nd (de_lst true da_nil))
  (dss_cons (ds_set 2 sc_shown.nd (de_lst true da_nil))
  (dss_cons (ds_set 3 sc_shown.nd (de_lst true da_nil))
  (dss_cons (ds_for1 po rfl tk T.n_range (da_cons (de_meth0 (ok_Guild_size T) (hr.mono (by decide)) T.cl_Guild T.d_Guild_size.m T.d_Guild_size.b tk (dv 0)) da_nil) (pg_name (i := 4) sc_shown.nd rfl (by first | exact Or.inl rfl | exact Or.inr rfl)) lift_gN (fun _ tk =>
    (dss_cons (ds_for po rfl tk (de_meth (ok_Guild_neighbours T) (hr.mono (by decide)) T.cl_Guild T.d_Guild_neighbours.m T.d_Guild_neighbours.b tk (dv 0) (da_cons (dv 4) da_nil)) (pg_name (i := 5) sc_shown.nd rfl (by first | exact Or.inl rfl | exact Or.inr rfl)) lift_gN (fun _ tk =>
      (dss_one (ds_if (dt_lt (dv 4) (dv 5))
        (dss_one (ds_expr (de_lm PySem.F.slot_list_append PySem.F.type_list_append mt_append lift_append (dv 1) (da_cons (de_call (ok_line_of T) (hr.mono (by decide)) T.d_line_of.g T.d_line_of.F.kp T.d_line_of.b tk (da_cons (de_lst false (da_cons de_str (da_cons (dv 4) (da_cons (dv 5) da_nil)))) da_nil)) da_nil))))
        dss_nil))))
    (dss_cons (ds_for1 po rfl tk T.n_range (da_cons (de_meth0 (ok_Guild_size T) (hr.mono (by decide)) T.cl_Guild T.d_Guild_size.m T.d_Guild_size.b tk (dv 0)) da_nil) (pg_name (i := 5) sc_shown.nd rfl (by first | exact Or.inl rfl | exact Or.inr rfl)) lift_gN (fun _ tk =>
      (dss_one (ds_if (dt_ne hr (de_meth (ok_Guild_liking T) (hr.mono (by decide)) T.cl_Guild T.d_Guild_liking.m T.d_Guild_liking.b tk (dv 0) (da_cons (dv 4) (da_cons (dv 5) da_nil))) de_int)
        (dss_one (ds_expr (de_lm PySem.F.slot_list_append PySem.F.type_list_append mt_append lift_append (dv 2) (da_cons (de_call (ok_line_of T) (hr.mono (by decide)) T.d_line_of.g T.d_line_of.F.kp T.d_line_of.b tk (da_cons (de_lst false (da_cons de_str (da_cons (dv 4) (da_cons (dv 5) (da_cons (de_meth (ok_Guild_liking T) (hr.mono (by decide)) T.cl_Guild T.d_Guild_liking.m T.d_Guild_liking.b tk (dv 0) (da_cons (dv 4) (da_cons (dv 5) da_nil))) da_nil))))) da_nil)) da_nil))))
        dss_nil))))
    (dss_one (ds_for po rfl tk (de_meth (ok_Guild_shunned T) (hr.mono (by decide)) T.cl_Guild T.d_Guild_shunned.m T.d_Guild_shunned.b tk (dv 0) (da_cons (dv 4) da_nil)) (pg_name (i := 5) sc_shown.nd rfl (by first | exact Or.inl rfl | exact Or.inr rfl)) lift_gN (fun _ tk =>
      (dss_one (ds_expr (de_lm PySem.F.slot_list_append PySem.F.type_list_append mt_append lift_append (dv 3) (da_cons (de_call (ok_line_of T) (hr.mono (by decide)) T.d_line_of.g T.d_line_of.F.kp T.d_line_of.b tk (da_cons (de_lst false (da_cons de_str (da_cons (dv 4) (da_cons (dv 5) da_nil)))) da_nil)) da_nil)))))))))))
  (dss_cons (ds_setLc (own := [("pair", 7)]) 6 false rfl sc_shown.nd rfl rfl (sw_true rfl rfl rfl (by decide +kernel)) (pi_list (de_meth0 (ok_Guild_wishes T) (hr.mono (by decide)) T.cl_Guild T.d_Guild_wishes.m T.d_Guild_wishes.b tk (dv 0))) lift_iL lift_gN wipeG_name (blkOk_by (own := [("pair", 7)]) (N := N_shown) (sc := defScope s_shown) (by decide +kernel)) (fun _ _ _ _ _ => pg_name (i := 7) sc_shown.nd rfl (Or.inl rfl)) (fun _ _ _ _ _ _ _ => dts_nil) (fun _ _ _ _ _ _ tk => (de_call (ok_line_of T) (hr.mono (by decide)) T.d_line_of.g T.d_line_of.F.kp T.d_line_of.b tk (da_cons (de_add false (de_lst false (da_cons de_str (da_cons (de_at hr (dv 7) de_int) da_nil))) (de_at hr (dv 7) de_int)) da_nil))))
  (dss_one (ds_ret (de_join de_str (de_add false (de_add false (de_add false (de_add false (de_lst false (da_cons (de_call (ok_line_of T) (hr.mono (by decide)) T.d_line_of.g T.d_line_of.F.kp T.d_line_of.b tk (da_cons (de_lst false (da_cons de_str (da_cons (de_meth0 (ok_Guild_size T) (hr.mono (by decide)) T.cl_Guild T.d_Guild_size.m T.d_Guild_size.b tk (dv 0)) da_nil))) da_nil)) da_nil)) (dv 1)) (dv 2)) (dv 3)) (dv 6)))))))))))
  (read_shown K a.c)
theorem sc_number : FnScope N_number ["word"] (defScope s_number) := ⟨rfl, rfl, rfl, by decide +kernel, rfl, by decide +kernel, by decide +kernel⟩
theorem okN_number {P : Program} {w : World} {K : PySem.W.Frag} {mg : Str → Option Value} {base : Heap} {a : Ad} (T : Txt K mg a) : FnOk P w K mg base (L2N.CX P w) 1 a.f_number a.d_number ["word"] (upSp K (sp_number a.c)) :=
  def_okN (t := t_number K a.c) T.d_number.F sc_number (len_number a.c) (fun cdv A outer s H E G0 W hr tk po =>
  (dss_cons (ds_set 1 sc_number.nd (dv 0))
  (dss_cons (ds_if (dt_eq hr (de_slS (dv 0) do_none (do_some de_int)) de_str)
    (dss_one (ds_set 1 sc_number.nd (de_slS (dv 0) (do_some de_int) do_none)))
    dss_nil)
  (dss_cons (ds_if (dt_w (dw_or (dt_eq hr (dv 1) de_str) (dw_or1 (dt_gt (de_len T.n_len (da_cons (dv 1) da_nil)) de_int))))
    (dss_one (ds_raiseN rfl tk (T.x_BadNote.mkN rfl)))
    dss_nil)
  (dss_cons (ds_forSN po rfl tk (dv 1) (pg_name (i := 2) sc_number.nd rfl (by first | exact Or.inl rfl | exact Or.inr rfl)) lift_gN (fun _ tk =>
    (dss_one (ds_if (dt_notIn hr (dv 2) (de_gstrE rfl T.c_FIGURES))
      (dss_one (ds_raiseN rfl tk (T.x_BadNote.mkN rfl)))
      dss_nil))))
  (dss_cons (ds_if (dt_w (dw_and (dt_eq hr (de_at hr (dv 1) de_int) de_str) (dw_and1 (dt_ne hr (dv 0) de_str))))
    (dss_one (ds_raiseN rfl tk (T.x_BadNote.mkN rfl)))
    dss_nil)
  (dss_one (ds_ret (de_int_of T.n_int (da_cons (dv 0) da_nil))))))))))
  (read_number K a.c)
theorem ok_number {P : Program} {w : World} {K : PySem.W.Frag} {mg : Str → Option Value} {base : Heap} {a : Ad} (T : Txt K mg a) : FnOk P w K mg base (L2.CX P w) 1 a.f_number a.d_number ["word"] (upSp K (sp_number a.c)) := weakN (okN_number T)
theorem sc_told_line : FnScope N_told_line ["guild", "line"] (defScope s_told_line) := ⟨rfl, rfl, rfl, by decide +kernel, rfl, by decide +kernel, by decide +kernel⟩
theorem okN_told_line {P : Program} {w : World} {K : PySem.W.Frag} {mg : Str → Option Value} {base : Heap} {a : Ad} (T : Txt K mg a) : FnOk P w K mg base (L2N.CX P w) 4 a.f_told_line a.d_told_line ["guild", "line"] (upSp K (sp_told_line a.c)) :=
  def_okN (t := t_told_line K a.c) T.d_told_line.F sc_told_line (len_told_line a.c) (fun cdv A outer s H E G0 W hr tk po =>
  (dss_cons (ds_set 2 sc_told_line.nd (de_split (dv 1) de_str))
  (dss_cons (ds_setLcR (own := [("word", 4)]) 3 false rfl rfl tk rfl sc_told_line.nd rfl rfl (sw_true rfl rfl rfl (by decide +kernel)) (pi_list (de_slL false (dv 2) (do_some de_int) do_none)) lift_iL lift_gN wipeG_name (blkOk_by (own := [("word", 4)]) (N := N_told_line) (sc := defScope s_told_line) (by decide +kernel)) (fun _ _ _ _ _ _ => pg_name (i := 4) sc_told_line.nd rfl (Or.inl rfl)) (fun _ _ _ _ _ _ _ W pa => (de_callG (okN_number T) (hr.mono (by decide)) T.d_number.g T.d_number.F.kp T.d_number.b pa (da_cons (dv 4) da_nil))))
  (dss_one (ds_if (dt_w (dw_and (dt_eq hr (de_at hr (dv 2) de_int) de_str) (dw_and1 (dt_eq hr (de_len T.n_len (da_cons (dv 3) da_nil)) de_int))))
    (dss_one (ds_expr (de_methN (okN_Guild_lay_way T) (hr.mono (by decide)) T.cl_Guild T.d_Guild_lay_way.m T.d_Guild_lay_way.b tk (dv 0) (da_cons (de_at hr (dv 3) de_int) (da_cons (de_at hr (dv 3) de_int) da_nil)))))
    (dss_one (ds_if (dt_w (dw_and (dt_eq hr (de_at hr (dv 2) de_int) de_str) (dw_and1 (dt_eq hr (de_len T.n_len (da_cons (dv 3) da_nil)) de_int))))
      (dss_one (ds_expr (de_methN (okN_Guild_like T) (hr.mono (by decide)) T.cl_Guild T.d_Guild_like.m T.d_Guild_like.b tk (dv 0) (da_cons (de_at hr (dv 3) de_int) (da_cons (de_at hr (dv 3) de_int) (da_cons (de_at hr (dv 3) de_int) da_nil))))))
      (dss_one (ds_if (dt_w (dw_and (dt_eq hr (de_at hr (dv 2) de_int) de_str) (dw_and1 (dt_eq hr (de_len T.n_len (da_cons (dv 3) da_nil)) de_int))))
        (dss_one (ds_expr (de_methN (okN_Guild_shun T) (hr.mono (by decide)) T.cl_Guild T.d_Guild_shun.m T.d_Guild_shun.b tk (dv 0) (da_cons (de_at hr (dv 3) de_int) (da_cons (de_at hr (dv 3) de_int) da_nil)))))
        (dss_one (ds_if (dt_w (dw_and (dt_eq hr (de_at hr (dv 2) de_int) de_str) (dw_and1 (dt_gt (de_len T.n_len (da_cons (dv 3) da_nil)) de_int))))
          (dss_one (ds_expr (de_methN (okN_Guild_wish T) (hr.mono (by decide)) T.cl_Guild T.d_Guild_wish.m T.d_Guild_wish.b tk (dv 0) (da_cons (de_slL false (dv 3) (do_some de_int) do_none) (da_cons (de_at hr (dv 3) de_int) da_nil)))))
          (dss_one (ds_raiseN rfl tk (T.x_BadNote.mkN rfl))))))))))))))
  (read_told_line K a.c)
theorem ok_told_line {P : Program} {w : World} {K : PySem.W.Frag} {mg : Str → Option Value} {base : Heap} {a : Ad} (T : Txt K mg a) : FnOk P w K mg base (L2.CX P w) 4 a.f_told_line a.d_told_line ["guild", "line"] (upSp K (sp_told_line a.c)) := weakN (okN_told_line T)
theorem sc_read : FnScope N_read ["text"] (defScope s_read) := ⟨rfl, rfl, rfl, by decide +kernel, rfl, by decide +kernel, by decide +kernel⟩
theorem ok_read {P : Program} {w : World} {K : PySem.W.Frag} {mg : Str → Option Value} {base : Heap} {a : Ad} (T : Txt K mg a) : FnOk P w K mg base (L2.CX P w) 5 a.f_read a.d_read ["text"] (upSp K (sp_read a.c)) :=
  def_okT (t := t_read K a.c) T.d_read.F sc_read (len_read a.c) (fun cdv A outer s H E G0 W hr tk po hpa =>
  (dss_cons (ds_set 1 sc_read.nd (de_split (dv 0) de_str))
  (dss_cons (ds_if (dt_w (dw_or (dt_lt (de_len T.n_len (da_cons (dv 1) da_nil)) de_int) (dw_or1 (dt_ne hr (de_at hr (dv 1) (de_neg de_int)) de_str))))
    (dss_one (ds_raise rfl tk (T.x_BadNote.mk' rfl)))
    dss_nil)
  (dss_cons (ds_set 2 sc_read.nd (de_split (de_at hr (dv 1) de_int) de_str))
  (dss_cons (ds_if (dt_w (dw_or (dt_ne hr (de_len T.n_len (da_cons (dv 2) da_nil)) de_int) (dw_or1 (dt_ne hr (de_at hr (dv 2) de_int) de_str))))
    (dss_one (ds_raise rfl tk (T.x_BadNote.mk' rfl)))
    dss_nil)
  (dss_cons (ds_try_raise rfl rfl ⟨rfl, by decide, .inl T.x_GuildError.g⟩ hpa tk
    (fun W pn xe tk po => (dss_cons (ds_set 3 sc_read.nd (de_makeN T.mk_Guild (okN_Guild_init T) (hr.mono (by decide)) T.g_Guild T.d_Guild_init.b tk (da_cons (de_callN (okN_number T) (hr.mono (by decide)) T.d_number.g T.d_number.F.kp T.d_number.b tk (da_cons (de_at hr (dv 2) de_int) da_nil)) da_nil)))
    (dss_one (ds_forN po rfl tk (de_slL false (dv 1) (do_some de_int) (do_some (de_neg de_int))) (pg_name (i := 4) sc_read.nd rfl (by first | exact Or.inl rfl | exact Or.inr rfl)) lift_gN (fun _ tk =>
      (dss_one (ds_expr (de_callN (okN_told_line T) (hr.mono (by decide)) T.d_told_line.g T.d_told_line.F.kp T.d_told_line.b tk (da_cons (dv 3) (da_cons (dv 4) da_nil))))))))))
     T.x_BadNote)
  (dss_one (ds_ret (dv 3)))))))))
  (read_read K a.c T.ex)
theorem sc_law_cell_at : FnScope N_law_cell_at ["script", "k"] (defScope s_law_cell_at) := ⟨rfl, rfl, rfl, by decide +kernel, rfl, by decide +kernel, by decide +kernel⟩
theorem ok_law_cell_at {P : Program} {w : World} {K : PySem.W.Frag} {mg : Str → Option Value} {base : Heap} {a : Ad} (T : Txt K mg a) : FnOk P w K mg base (L2.CX P w) 1 a.f_law_cell_at a.d_law_cell_at ["script", "k"] (upSp K (sp_law_cell_at a.c)) :=
  def_ok (t := t_law_cell_at K a.c) T.d_law_cell_at.F sc_law_cell_at (len_law_cell_at a.c) (fun cdv A outer s H E G0 W hr tk po =>
  (dss_cons (ds_if (dt_lt (dv 1) (de_len T.n_len (da_cons (dv 0) da_nil)))
    (dss_one (ds_ret (de_at hr (dv 0) (dv 1))))
    dss_nil)
  (dss_one (ds_ret de_int))))
  (read_law_cell_at K a.c)
theorem sc_law_road_by : FnScope N_law_road_by ["cell", "house", "size"] (defScope s_law_road_by) := ⟨rfl, rfl, rfl, by decide +kernel, rfl, by decide +kernel, by decide +kernel⟩
theorem ok_law_road_by {P : Program} {w : World} {K : PySem.W.Frag} {mg : Str → Option Value} {base : Heap} {a : Ad} (T : Txt K mg a) : FnOk P w K mg base (L2.CX P w) 1 a.f_law_road_by a.d_law_road_by ["cell", "house", "size"] (upSp K (sp_law_road_by a.c)) :=
  def_ok (t := t_law_road_by K a.c) T.d_law_road_by.F sc_law_road_by (len_law_road_by a.c) (fun cdv A outer s H E G0 W hr tk po =>
  (dss_cons (ds_setLc (own := [("far", 4)]) 3 true rfl sc_law_road_by.nd rfl rfl (sw_true rfl rfl rfl (by decide +kernel)) (pi_range2 rfl T.n_range (da_cons de_int (da_cons (dv 2) da_nil))) lift_iR2 lift_gN wipeG_name (blkOk_by (own := [("far", 4)]) (N := N_law_road_by) (sc := defScope s_law_road_by) (by decide +kernel)) (fun _ _ _ _ _ => pg_name (i := 4) sc_law_road_by.nd rfl (Or.inl rfl)) (fun _ _ _ _ _ _ tk => dts_one (dt_ne hr (dv 4) (dv 1))) (fun _ _ _ _ _ _ tk => (dv 4)))
  (dss_cons (ds_set 5 sc_law_road_by.nd (de_lst true (da_cons (dv 1) da_nil)))
  (dss_cons (ds_set 6 sc_law_road_by.nd (de_mod (dv 0) de_int))
  (dss_cons (ds_if (dt_eq hr (de_mod (de_fdiv (dv 0) de_int) de_int) de_int)
    (dss_one (ds_set 6 sc_law_road_by.nd (dv 2)))
    dss_nil)
  (dss_cons (ds_set 0 sc_law_road_by.nd (de_fdiv (dv 0) de_int))
  (dss_cons (ds_while po (dt_w (dw_and (dt_gt (dv 6) de_int) (dw_and1 (dt_gt (de_len T.n_len (da_cons (dv 3) da_nil)) de_int))))
    (dss_cons (ds_expr (de_lm PySem.F.slot_list_append PySem.F.type_list_append mt_append lift_append (dv 5) (da_cons (de_lm PySem.F.slot_list_pop PySem.F.type_list_pop mt_popAt lift_popAt (dv 3) (da_cons (de_mod (dv 0) (de_len T.n_len (da_cons (dv 3) da_nil))) da_nil)) da_nil)))
    (dss_cons (ds_set 0 sc_law_road_by.nd (de_fdiv (dv 0) de_int))
    (dss_one (ds_set 6 sc_law_road_by.nd (de_sub (dv 6) de_int))))))
  (dss_one (ds_ret (de_add false (dv 5) (de_lst false (da_cons de_int da_nil))))))))))))
  (read_law_road_by K a.c)
theorem sc_law_ways_by : FnScope N_law_ways_by ["cell", "size"] (defScope s_law_ways_by) := ⟨rfl, rfl, rfl, by decide +kernel, rfl, by decide +kernel, by decide +kernel⟩
theorem ok_law_ways_by {P : Program} {w : World} {K : PySem.W.Frag} {mg : Str → Option Value} {base : Heap} {a : Ad} (T : Txt K mg a) : FnOk P w K mg base (L2.CX P w) 1 a.f_law_ways_by a.d_law_ways_by ["cell", "size"] (upSp K (sp_law_ways_by a.c)) :=
  def_ok (t := t_law_ways_by K a.c) T.d_law_ways_by.F sc_law_ways_by (len_law_ways_by a.c) (fun cdv A outer s H E G0 W hr tk po =>
  (dss_cons (ds_set 2 sc_law_ways_by.nd (de_mod (de_mul (de_mod (de_mul (de_add false (dv 0) de_int) de_int) de_int) de_int) de_int))
  (dss_cons (ds_set 3 sc_law_ways_by.nd (de_lst true da_nil))
  (dss_cons (ds_set 4 sc_law_ways_by.nd de_int)
  (dss_cons (ds_for1 po rfl tk T.n_range (da_cons (dv 1) da_nil) (pg_name (i := 5) sc_law_ways_by.nd rfl (by first | exact Or.inl rfl | exact Or.inr rfl)) lift_gN (fun _ tk =>
    (dss_one (ds_for2 po rfl tk T.n_range (da_cons (de_add false (dv 5) de_int) (da_cons (dv 1) da_nil)) (pg_name (i := 6) sc_law_ways_by.nd rfl (by first | exact Or.inl rfl | exact Or.inr rfl)) lift_gN (fun _ tk =>
      (dss_cons (ds_if (dt_eq hr (de_mod (de_shr (dv 2) (de_mod (dv 4) de_int)) de_int) de_int)
        (dss_one (ds_expr (de_lm PySem.F.slot_list_append PySem.F.type_list_append mt_append lift_append (dv 3) (da_cons (de_tup (da_cons (dv 5) (da_cons (dv 6) da_nil))) da_nil))))
        dss_nil)
      (dss_one (ds_set 4 sc_law_ways_by.nd (de_add false (dv 4) de_int)))))))))
  (dss_one (ds_ret (de_frz (dv 3)))))))))
  (read_law_ways_by K a.c)
theorem sc_law_fond_by : FnScope N_law_fond_by ["cell", "size"] (defScope s_law_fond_by) := ⟨rfl, rfl, rfl, by decide +kernel, rfl, by decide +kernel, by decide +kernel⟩
theorem ok_law_fond_by {P : Program} {w : World} {K : PySem.W.Frag} {mg : Str → Option Value} {base : Heap} {a : Ad} (T : Txt K mg a) : FnOk P w K mg base (L2.CX P w) 1 a.f_law_fond_by a.d_law_fond_by ["cell", "size"] (upSp K (sp_law_fond_by a.c)) :=
  def_ok (t := t_law_fond_by K a.c) T.d_law_fond_by.F sc_law_fond_by (len_law_fond_by a.c) (fun cdv A outer s H E G0 W hr tk po =>
  (dss_cons (ds_set 2 sc_law_fond_by.nd de_dict0)
  (dss_cons (ds_for1 po rfl tk T.n_range (da_cons (de_mod (dv 0) de_int) da_nil) (pg_name (i := 3) sc_law_fond_by.nd rfl (by first | exact Or.inl rfl | exact Or.inr rfl)) lift_gN (fun _ tk =>
    (dss_cons (ds_set 0 sc_law_fond_by.nd (de_mod (de_add false (de_mul (dv 0) de_int) de_int) de_int))
    (dss_one (ds_setIx hr (dv 2) (de_tup (da_cons (de_mod (dv 0) (dv 1)) (da_cons (de_mod (de_fdiv (dv 0) de_int) (dv 1)) da_nil))) (de_sub (de_mod (de_fdiv (dv 0) de_int) de_int) de_int))))))
  (dss_one (ds_ret (de_frz (dv 2)))))))
  (read_law_fond_by K a.c)
theorem sc_law_dear_by : FnScope N_law_dear_by ["cell", "size"] (defScope s_law_dear_by) := ⟨rfl, rfl, rfl, by decide +kernel, rfl, by decide +kernel, by decide +kernel⟩
theorem ok_law_dear_by {P : Program} {w : World} {K : PySem.W.Frag} {mg : Str → Option Value} {base : Heap} {a : Ad} (T : Txt K mg a) : FnOk P w K mg base (L2.CX P w) 2 a.f_law_dear_by a.d_law_dear_by ["cell", "size"] (upSp K (sp_law_dear_by a.c)) :=
  def_ok (t := t_law_dear_by K a.c) T.d_law_dear_by.F sc_law_dear_by (len_law_dear_by a.c) (fun cdv A outer s H E G0 W hr tk po =>
  (dss_cons (ds_set 2 sc_law_dear_by.nd de_dict0)
  (dss_cons (ds_if (dt_lt (dv 1) de_int)
    (dss_one (ds_ret (de_frz (dv 2))))
    dss_nil)
  (dss_cons (ds_for1 po rfl tk T.n_range (da_cons (de_mod (dv 0) de_int) da_nil) (pg_name (i := 3) sc_law_dear_by.nd rfl (by first | exact Or.inl rfl | exact Or.inr rfl)) lift_gN (fun _ tk =>
    (dss_cons (ds_set 0 sc_law_dear_by.nd (de_mod (de_add false (de_mul (dv 0) de_int) de_int) de_int))
    (dss_cons (ds_set 4 sc_law_dear_by.nd (de_call (ok_law_road_by T) (hr.mono (by decide)) T.d_law_road_by.g T.d_law_road_by.F.kp T.d_law_road_by.b tk (da_cons (de_fdiv (dv 0) de_int) (da_cons (de_add false de_int (de_mod (dv 0) (de_sub (dv 1) de_int))) (da_cons (dv 1) da_nil)))))
    (dss_one (ds_setIx hr (dv 2) (de_tuple T.n_tuple (da_cons (dv 4) da_nil)) (de_sub (de_mod (de_fdiv (dv 0) de_int) de_int) de_int)))))))
  (dss_one (ds_ret (de_frz (dv 2))))))))
  (read_law_dear_by K a.c)
theorem sc_law_shy_by : FnScope N_law_shy_by ["cell", "size"] (defScope s_law_shy_by) := ⟨rfl, rfl, rfl, by decide +kernel, rfl, by decide +kernel, by decide +kernel⟩
theorem ok_law_shy_by {P : Program} {w : World} {K : PySem.W.Frag} {mg : Str → Option Value} {base : Heap} {a : Ad} (T : Txt K mg a) : FnOk P w K mg base (L2.CX P w) 1 a.f_law_shy_by a.d_law_shy_by ["cell", "size"] (upSp K (sp_law_shy_by a.c)) :=
  def_ok (t := t_law_shy_by K a.c) T.d_law_shy_by.F sc_law_shy_by (len_law_shy_by a.c) (fun cdv A outer s H E G0 W hr tk po =>
  (dss_cons (ds_set 2 sc_law_shy_by.nd (de_lst true da_nil))
  (dss_cons (ds_if (dt_lt (dv 1) de_int)
    (dss_one (ds_ret (de_frz (dv 2))))
    dss_nil)
  (dss_cons (ds_for1 po rfl tk T.n_range (da_cons (de_mod (dv 0) de_int) da_nil) (pg_name (i := 3) sc_law_shy_by.nd rfl (by first | exact Or.inl rfl | exact Or.inr rfl)) lift_gN (fun _ tk =>
    (dss_cons (ds_set 0 sc_law_shy_by.nd (de_mod (de_add false (de_mul (dv 0) de_int) de_int) de_int))
    (dss_cons (ds_set 4 sc_law_shy_by.nd (de_mod (dv 0) (dv 1)))
    (dss_cons (ds_set 5 sc_law_shy_by.nd (de_mod (de_add false (de_add false (dv 4) de_int) (de_mod (de_fdiv (dv 0) de_int) (de_sub (dv 1) de_int))) (dv 1)))
    (dss_one (ds_if (dt_notIn hr (de_tup (da_cons (dv 4) (da_cons (dv 5) da_nil))) (dv 2))
      (dss_one (ds_expr (de_lm PySem.F.slot_list_append PySem.F.type_list_append mt_append lift_append (dv 2) (da_cons (de_tup (da_cons (dv 4) (da_cons (dv 5) da_nil))) da_nil))))
      dss_nil)))))))
  (dss_one (ds_ret (de_frz (dv 2))))))))
  (read_law_shy_by K a.c)
theorem sc_law_line : FnScope N_law_line ["words"] (defScope s_law_line) := ⟨rfl, rfl, rfl, by decide +kernel, rfl, by decide +kernel, by decide +kernel⟩
theorem ok_law_line {P : Program} {w : World} {K : PySem.W.Frag} {mg : Str → Option Value} {base : Heap} {a : Ad} (T : Txt K mg a) : FnOk P w K mg base (L2.CX P w) 1 a.f_law_line a.d_law_line ["words"] (upSp K (sp_law_line a.c)) :=
  def_ok (t := t_law_line K a.c) T.d_law_line.F sc_law_line (len_law_line a.c) (fun cdv A outer s H E G0 W hr tk po =>
  (dss_one (ds_ret (de_add false (de_join de_str (de_lc (own := [("word", 1)]) false rfl sc_law_line.nd (pi_list (dv 0)) lift_iL lift_gN wipeG_name (blkOk_by (own := [("word", 1)]) (N := N_law_line) (sc := defScope s_law_line) (by decide +kernel)) (fun _ _ _ _ _ => pg_name (i := 1) sc_law_line.nd rfl (Or.inl rfl)) (fun _ _ _ _ _ _ _ => dts_nil) (fun _ _ _ _ _ _ tk => (de_str_of T.n_str (da_cons (dv 1) da_nil))))) de_str))))
  (read_law_line K a.c)
theorem sc_law_lines : FnScope N_law_lines ["ways", "fond", "dear", "shy"] (defScope s_law_lines) := ⟨rfl, rfl, rfl, by decide +kernel, rfl, by decide +kernel, by decide +kernel⟩
theorem ok_law_lines {P : Program} {w : World} {K : PySem.W.Frag} {mg : Str → Option Value} {base : Heap} {a : Ad} (T : Txt K mg a) : FnOk P w K mg base (L2.CX P w) 2 a.f_law_lines a.d_law_lines ["ways", "fond", "dear", "shy"] (upSp K (sp_law_lines a.c)) :=
  def_ok (t := t_law_lines K a.c) T.d_law_lines.F sc_law_lines (len_law_lines a.c) (fun cdv A outer s H E G0 W hr tk po =>
  (dss_cons (ds_setLc (own := [("a", 5), ("b", 6)]) 4 true rfl sc_law_lines.nd rfl rfl (sw_true rfl rfl rfl (by decide +kernel)) (pi_list (de_sortedT false hr T.n_sorted (da_cons (dv 0) da_nil))) lift_iL (lift_gT (is := [5, 6]) rfl) (wipeG_tup (is := [5, 6])) (blkOk_by (own := [("a", 5), ("b", 6)]) (N := N_law_lines) (sc := defScope s_law_lines) (by decide +kernel)) (fun _ _ _ _ _ => pg_tup rfl (pgs_cons (pg_name (i := 5) sc_law_lines.nd rfl (Or.inl rfl)) (pgs_cons (pg_name (i := 6) sc_law_lines.nd rfl (Or.inl rfl)) pgs_nil))) (fun _ _ _ _ _ _ _ => dts_nil) (fun _ _ _ _ _ _ tk => (de_call (ok_law_line T) (hr.mono (by decide)) T.d_law_line.g T.d_law_line.F.kp T.d_law_line.b tk (da_cons (de_lst false (da_cons de_str (da_cons (dv 5) (da_cons (dv 6) da_nil)))) da_nil))))
  (dss_cons (ds_for po rfl tk (de_sortedT false hr T.n_sorted (da_cons (de_list false rfl T.n_list (da_cons (dv 1) da_nil)) da_nil)) (pg_name (i := 7) sc_law_lines.nd rfl (by first | exact Or.inl rfl | exact Or.inr rfl)) lift_gN (fun _ tk =>
    (dss_one (ds_if (dt_ne hr (de_at hr (dv 1) (dv 7)) de_int)
      (dss_one (ds_expr (de_lm PySem.F.slot_list_append PySem.F.type_list_append mt_append lift_append (dv 4) (da_cons (de_call (ok_law_line T) (hr.mono (by decide)) T.d_law_line.g T.d_law_line.F.kp T.d_law_line.b tk (da_cons (de_lst false (da_cons de_str (da_cons (de_at hr (dv 7) de_int) (da_cons (de_at hr (dv 7) de_int) (da_cons (de_at hr (dv 1) (dv 7)) da_nil))))) da_nil)) da_nil))))
      dss_nil))))
  (dss_cons (ds_set 4 sc_law_lines.nd (de_add true (dv 4) (de_lc (own := [("a", 5), ("b", 6)]) false rfl sc_law_lines.nd (pi_list (de_sortedT false hr T.n_sorted (da_cons (dv 3) da_nil))) lift_iL (lift_gT (is := [5, 6]) rfl) (wipeG_tup (is := [5, 6])) (blkOk_by (own := [("a", 5), ("b", 6)]) (N := N_law_lines) (sc := defScope s_law_lines) (by decide +kernel)) (fun _ _ _ _ _ => pg_tup rfl (pgs_cons (pg_name (i := 5) sc_law_lines.nd rfl (Or.inl rfl)) (pgs_cons (pg_name (i := 6) sc_law_lines.nd rfl (Or.inl rfl)) pgs_nil))) (fun _ _ _ _ _ _ _ => dts_nil) (fun _ _ _ _ _ _ tk => (de_call (ok_law_line T) (hr.mono (by decide)) T.d_law_line.g T.d_law_line.F.kp T.d_law_line.b tk (da_cons (de_lst false (da_cons de_str (da_cons (dv 5) (da_cons (dv 6) da_nil)))) da_nil))))))
  (dss_one (ds_ret (de_add false (dv 4) (de_lc (own := [("key", 8)]) false rfl sc_law_lines.nd (pi_list (de_sortedT false hr T.n_sorted (da_cons (de_list false rfl T.n_list (da_cons (dv 2) da_nil)) da_nil))) lift_iL lift_gN wipeG_name (blkOk_by (own := [("key", 8)]) (N := N_law_lines) (sc := defScope s_law_lines) (by decide +kernel)) (fun _ _ _ _ _ => pg_name (i := 8) sc_law_lines.nd rfl (Or.inl rfl)) (fun _ _ _ _ _ _ _ => dts_nil) (fun _ _ _ _ _ _ tk => (de_call (ok_law_line T) (hr.mono (by decide)) T.d_law_line.g T.d_law_line.F.kp T.d_law_line.b tk (da_cons (de_add false (de_lst false (da_cons de_str (da_cons (de_at hr (dv 2) (dv 8)) da_nil))) (de_list false rfl T.n_list (da_cons (dv 8) da_nil))) da_nil)))))))))))
  (read_law_lines K a.c)
theorem sc_law_bad_line : FnScope N_law_bad_line ["cell"] (defScope s_law_bad_line) := ⟨rfl, rfl, rfl, by decide +kernel, rfl, by decide +kernel, by decide +kernel⟩
theorem ok_law_bad_line {P : Program} {w : World} {K : PySem.W.Frag} {mg : Str → Option Value} {base : Heap} {a : Ad} (T : Txt K mg a) : FnOk P w K mg base (L2.CX P w) 1 a.f_law_bad_line a.d_law_bad_line ["cell"] (upSp K (sp_law_bad_line a.c)) :=
  def_ok (t := t_law_bad_line K a.c) T.d_law_bad_line.F sc_law_bad_line (len_law_bad_line a.c) (fun cdv A outer s H E G0 W hr tk po =>
  (dss_cons (ds_set 1 sc_law_bad_line.nd (de_lst false (da_cons de_str (da_cons de_str (da_cons de_str (da_cons de_str (da_cons de_str (da_cons de_str (da_cons de_str (da_cons de_str (da_cons de_str (da_cons de_str da_nil))))))))))))
  (dss_cons (ds_set 1 sc_law_bad_line.nd (de_add false (dv 1) (de_lst false (da_cons de_str (da_cons de_str (da_cons de_str (da_cons de_str (da_cons de_str (da_cons de_str (da_cons de_str da_nil))))))))))
  (dss_cons (ds_set 1 sc_law_bad_line.nd (de_add false (dv 1) (de_lst false (da_cons de_str (da_cons de_str (da_cons (de_add false de_str (de_smul de_str de_int)) (da_cons de_str (da_cons de_str (da_cons de_str da_nil)))))))))
  (dss_cons (ds_set 1 sc_law_bad_line.nd (de_add false (dv 1) (de_lst false (da_cons de_str (da_cons de_str (da_cons de_str (da_cons de_str (da_cons de_str (da_cons de_str (da_cons de_str (da_cons de_str da_nil)))))))))))
  (dss_cons (ds_set 1 sc_law_bad_line.nd (de_add false (dv 1) (de_lst false (da_cons de_str (da_cons de_str (da_cons de_str (da_cons de_str (da_cons de_str (da_cons de_str (da_cons de_str da_nil))))))))))
  (dss_one (ds_ret (de_at hr (dv 1) (de_mod (dv 0) (de_len T.n_len (da_cons (dv 1) da_nil))))))))))))
  (read_law_bad_line K a.c)
theorem sc_law_bad_first : FnScope N_law_bad_first ["cell"] (defScope s_law_bad_first) := ⟨rfl, rfl, rfl, by decide +kernel, rfl, by decide +kernel, by decide +kernel⟩
theorem ok_law_bad_first {P : Program} {w : World} {K : PySem.W.Frag} {mg : Str → Option Value} {base : Heap} {a : Ad} (T : Txt K mg a) : FnOk P w K mg base (L2.CX P w) 1 a.f_law_bad_first a.d_law_bad_first ["cell"] (upSp K (sp_law_bad_first a.c)) :=
  def_ok (t := t_law_bad_first K a.c) T.d_law_bad_first.F sc_law_bad_first (len_law_bad_first a.c) (fun cdv A outer s H E G0 W hr tk po =>
  (dss_cons (ds_set 1 sc_law_bad_first.nd (de_lst false (da_cons de_str (da_cons de_str (da_cons de_str (da_cons de_str (da_cons de_str (da_cons de_str (da_cons de_str (da_cons de_str da_nil))))))))))
  (dss_cons (ds_set 1 sc_law_bad_first.nd (de_add false (dv 1) (de_lst false (da_cons de_str (da_cons de_str (da_cons de_str (da_cons de_str (da_cons de_str (da_cons (de_add false de_str (de_str_of T.n_str (da_cons (de_pow de_int de_int) da_nil))) da_nil)))))))))
  (dss_one (ds_ret (de_at hr (dv 1) (de_mod (dv 0) (de_len T.n_len (da_cons (dv 1) da_nil)))))))))
  (read_law_bad_first K a.c)
theorem sc_k09_law_spoiled : FnScope N_k09_law_spoiled ["size", "lines", "ways", "cell"] (defScope s_k09_law_spoiled) := ⟨rfl, rfl, rfl, by decide +kernel, rfl, by decide +kernel, by decide +kernel⟩
theorem ok_k09_law_spoiled {P : Program} {w : World} {K : PySem.W.Frag} {mg : Str → Option Value} {base : Heap} {a : Ad} (T : Txt K mg a) : FnOk P w K mg base (L2.CX P w) 2 a.f_k09_law_spoiled a.d_k09_law_spoiled ["size", "lines", "ways", "cell"] (upSp K (sp_k09_law_spoiled a.c)) :=
  def_ok (t := t_k09_law_spoiled K a.c) T.d_k09_law_spoiled.F sc_k09_law_spoiled (len_k09_law_spoiled a.c) (fun cdv A outer s H E G0 W hr tk po =>
  (dss_cons (ds_set 4 sc_k09_law_spoiled.nd (de_call (ok_law_line T) (hr.mono (by decide)) T.d_law_line.g T.d_law_line.F.kp T.d_law_line.b tk (da_cons (de_lst false (da_cons de_str (da_cons (dv 0) da_nil))) da_nil)))
  (dss_cons (ds_set 5 sc_k09_law_spoiled.nd (de_mod (de_fdiv (dv 3) de_int) (de_add false (de_len T.n_len (da_cons (dv 1) da_nil)) de_int)))
  (dss_cons (ds_set 6 sc_k09_law_spoiled.nd (de_mod (dv 3) de_int))
  (dss_cons (ds_if (dt_eq hr (dv 6) de_int)
    (dss_one (ds_ret (de_join de_str (de_add false (de_lst false (da_cons (de_add false (de_call (ok_law_bad_first T) (hr.mono (by decide)) T.d_law_bad_first.g T.d_law_bad_first.F.kp T.d_law_bad_first.b tk (da_cons (de_fdiv (dv 3) de_int) da_nil)) de_str) da_nil)) (dv 1)))))
    dss_nil)
  (dss_cons (ds_if (dt_eq hr (dv 6) de_int)
    (dss_one (ds_ret (de_slS (de_join de_str (de_add false (de_lst false (da_cons (dv 4) da_nil)) (dv 1))) do_none (do_some (de_neg de_int)))))
    dss_nil)
  (dss_cons (ds_if (dt_w (dw_and (dt_eq hr (dv 6) de_int) (dw_and1 (dt_gt (de_len T.n_len (da_cons (dv 2) da_nil)) de_int))))
    (dss_cons (ds_set 7 sc_k09_law_spoiled.nd (de_at hr (dv 2) (de_mod (de_fdiv (dv 3) de_int) (de_len T.n_len (da_cons (dv 2) da_nil)))))
    (dss_one (ds_ret (de_join de_str (de_add false (de_add false (de_lst false (da_cons (dv 4) da_nil)) (dv 1)) (de_lst false (da_cons (de_call (ok_law_line T) (hr.mono (by decide)) T.d_law_line.g T.d_law_line.F.kp T.d_law_line.b tk (da_cons (de_lst false (da_cons de_str (da_cons (de_at hr (dv 7) de_int) (da_cons (de_at hr (dv 7) de_int) da_nil)))) da_nil)) da_nil)))))))
    dss_nil)
  (dss_cons (ds_if (dt_eq hr (dv 6) de_int)
    (dss_one (ds_ret (de_at hr (de_lst false (da_cons de_str (da_cons de_str (da_cons de_str (da_cons (de_join de_str (dv 1)) da_nil))))) (de_mod (de_fdiv (dv 3) de_int) de_int))))
    dss_nil)
  (dss_cons (ds_set 8 sc_k09_law_spoiled.nd (de_add false (de_call (ok_law_bad_line T) (hr.mono (by decide)) T.d_law_bad_line.g T.d_law_bad_line.F.kp T.d_law_bad_line.b tk (da_cons (de_fdiv (de_fdiv (dv 3) de_int) de_int) da_nil)) de_str))
  (dss_one (ds_ret (de_join de_str (de_add false (de_add false (de_add false (de_lst false (da_cons (dv 4) da_nil)) (de_slL false (dv 1) do_none (do_some (dv 5)))) (de_lst false (da_cons (dv 8) da_nil))) (de_slL false (dv 1) (do_some (dv 5)) do_none))))))))))))))
  (read_k09_law_spoiled K a.c)
theorem sc_law_other_order : FnScope N_law_other_order ["lines", "fond", "cell"] (defScope s_law_other_order) := ⟨rfl, rfl, rfl, by decide +kernel, rfl, by decide +kernel, by decide +kernel⟩
theorem ok_law_other_order {P : Program} {w : World} {K : PySem.W.Frag} {mg : Str → Option Value} {base : Heap} {a : Ad} (T : Txt K mg a) : FnOk P w K mg base (L2.CX P w) 2 a.f_law_other_order a.d_law_other_order ["lines", "fond", "cell"] (upSp K (sp_law_other_order a.c)) :=
  def_ok (t := t_law_other_order K a.c) T.d_law_other_order.F sc_law_other_order (len_law_other_order a.c) (fun cdv A outer s H E G0 W hr tk po =>
  (dss_cons (ds_set 3 sc_law_other_order.nd (de_lst true da_nil))
  (dss_cons (ds_for po rfl tk (de_list false rfl T.n_list (da_cons (dv 1) da_nil)) (pg_name (i := 4) sc_law_other_order.nd rfl (by first | exact Or.inl rfl | exact Or.inr rfl)) lift_gN (fun _ tk =>
    (dss_one (ds_expr (de_lm PySem.F.slot_list_append PySem.F.type_list_append mt_append lift_append (dv 3) (da_cons (de_call (ok_law_line T) (hr.mono (by decide)) T.d_law_line.g T.d_law_line.F.kp T.d_law_line.b tk (da_cons (de_lst false (da_cons de_str (da_cons (de_at hr (dv 4) de_int) (da_cons (de_at hr (dv 4) de_int) (da_cons (de_add false de_int (de_mod (dv 2) de_int)) da_nil))))) da_nil)) da_nil))))))
  (dss_cons (ds_set 5 sc_law_other_order.nd (de_mod (dv 2) (de_add false (de_len T.n_len (da_cons (dv 0) da_nil)) de_int)))
  (dss_cons (ds_set 0 sc_law_other_order.nd (de_add false (de_slL false (dv 0) (do_some (dv 5)) do_none) (de_slL false (dv 0) do_none (do_some (dv 5)))))
  (dss_cons (ds_for po rfl tk (de_list false rfl T.n_list (da_cons (dv 1) da_nil)) (pg_name (i := 4) sc_law_other_order.nd rfl (by first | exact Or.inl rfl | exact Or.inr rfl)) lift_gN (fun _ tk =>
    (dss_one (ds_if (dt_eq hr (de_at hr (dv 1) (dv 4)) de_int)
      (dss_one (ds_expr (de_lm PySem.F.slot_list_append PySem.F.type_list_append mt_append lift_append (dv 3) (da_cons (de_call (ok_law_line T) (hr.mono (by decide)) T.d_law_line.g T.d_law_line.F.kp T.d_law_line.b tk (da_cons (de_lst false (da_cons de_str (da_cons (de_at hr (dv 4) de_int) (da_cons (de_at hr (dv 4) de_int) (da_cons de_int da_nil))))) da_nil)) da_nil))))
      dss_nil))))
  (dss_cons (ds_for po rfl tk (dv 0) (pg_name (i := 6) sc_law_other_order.nd rfl (by first | exact Or.inl rfl | exact Or.inr rfl)) lift_gN (fun _ tk =>
    (dss_cons (ds_set 7 sc_law_other_order.nd (de_split (de_slS (dv 6) do_none (do_some (de_neg de_int))) de_str))
    (dss_cons (ds_if (dt_w (dw_and (dt_eq hr (de_at hr (dv 7) de_int) de_str) (dw_and1 (dt_eq hr (de_mod (de_fdiv (dv 2) de_int) de_int) de_int))))
      (dss_one (ds_set 6 sc_law_other_order.nd (de_call (ok_law_line T) (hr.mono (by decide)) T.d_law_line.g T.d_law_line.F.kp T.d_law_line.b tk (da_cons (de_lst false (da_cons de_str (da_cons (de_at hr (dv 7) de_int) (da_cons (de_at hr (dv 7) de_int) da_nil)))) da_nil))))
      (dss_one (ds_if (dt_w (dw_and (dt_eq hr (de_at hr (dv 7) de_int) de_str) (dw_and1 (dt_eq hr (de_mod (de_fdiv (dv 2) de_int) de_int) de_int))))
        (dss_one (ds_expr (de_lm PySem.F.slot_list_append PySem.F.type_list_append mt_append lift_append (dv 3) (da_cons (de_call (ok_law_line T) (hr.mono (by decide)) T.d_law_line.g T.d_law_line.F.kp T.d_law_line.b tk (da_cons (de_add false (de_lst false (da_cons de_str (da_cons (de_add false de_int (de_mod (dv 2) de_int)) da_nil))) (de_slL false (dv 7) (do_some de_int) do_none)) da_nil)) da_nil))))
        dss_nil)))
    (dss_cons (ds_if (dt_w (dw_and (dt_ne hr (de_at hr (dv 7) de_int) de_str) (dw_and1 (dt_eq hr (de_mod (de_fdiv (dv 2) de_int) de_int) de_int))))
      (dss_one (ds_expr (de_lm PySem.F.slot_list_append PySem.F.type_list_append mt_append lift_append (dv 3) (da_cons (dv 6) da_nil))))
      dss_nil)
    (dss_one (ds_expr (de_lm PySem.F.slot_list_append PySem.F.type_list_append mt_append lift_append (dv 3) (da_cons (dv 6) da_nil)))))))))
  (dss_one (ds_ret (de_frz (dv 3)))))))))))
  (read_law_other_order K a.c)
theorem sc_k09_law_refused : FnScope N_k09_law_refused ["text"] (defScope s_k09_law_refused) := ⟨rfl, rfl, rfl, by decide +kernel, rfl, by decide +kernel, by decide +kernel⟩
theorem ok_k09_law_refused {P : Program} {w : World} {K : PySem.W.Frag} {mg : Str → Option Value} {base : Heap} {a : Ad} (T : Txt K mg a) : FnOk P w K mg base (L2.CX P w) 6 a.f_k09_law_refused a.d_k09_law_refused ["text"] (upSp K (sp_k09_law_refused a.c)) :=
  def_ok (t := t_k09_law_refused K a.c) T.d_k09_law_refused.F sc_k09_law_refused (len_k09_law_refused a.c) (fun cdv A outer s H E G0 W hr tk po =>
  (dss_cons (ds_set 1 sc_k09_law_refused.nd (de_lst false da_nil))
  (dss_cons (ds_try_as 2 rfl rfl sc_k09_law_refused.nd rfl rfl ⟨rfl, by decide, .inl T.x_GuildError.g⟩ tk
    (fun W pn xe tk po => (dss_one (ds_expr (de_call (ok_read T) (hr.mono (by decide)) T.d_read.g T.d_read.F.kp T.d_read.b tk (da_cons (dv 0) da_nil)))))
    (fun x oe C pn hz hf => (dss_cons (ds_set 1 sc_k09_law_refused.nd (de_lst false (da_cons (de_isE hz hf T.n_isinstance (da_cons (dv 2) (da_cons (de_cls rfl T.x_BadNote.g) da_nil))) (da_cons (de_isE hz hf T.n_isinstance (da_cons (dv 2) (da_cons (de_ty rfl T.n_ValueError (by decide +kernel)) da_nil))) (da_cons (de_isE hz hf T.n_isinstance (da_cons (dv 2) (da_cons (de_cls rfl T.x_NoHouse.g) da_nil))) da_nil)))))
    (dss_one (ds_set 1 sc_k09_law_refused.nd (de_add false (dv 1) (de_lst false (da_cons (de_isE hz hf T.n_isinstance (da_cons (dv 2) (da_cons (de_cls rfl T.x_WayThere.g) da_nil))) (da_cons (de_isE hz hf T.n_isinstance (da_cons (dv 2) (da_cons (de_cls rfl T.x_NoRoad.g) da_nil))) da_nil)))))))))
  (dss_one (ds_ret (de_eq hr (dv 1) (de_lst false (da_cons de_bl (da_cons de_bl (da_cons de_bl (da_cons de_bl (da_cons de_bl da_nil))))))))))))
  (read_k09_law_refused K a.c T.ex)
theorem sc_k09_law : FnScope N_k09_law ["script"] (defScope s_k09_law) := ⟨rfl, rfl, rfl, by decide +kernel, rfl, by decide +kernel, by decide +kernel⟩
theorem ok_k09_law {P : Program} {w : World} {K : PySem.W.Frag} {mg : Str → Option Value} {base : Heap} {a : Ad} (T : Txt K mg a) : FnOk P w K mg base (L2.CX P w) 7 a.f_k09_law a.d_k09_law ["script"] (upSp K (sp_k09_law a.c)) :=
  def_ok (t := t_k09_law K a.c) T.d_k09_law.F sc_k09_law (len_k09_law a.c) (fun cdv A outer s H E G0 W hr tk po =>
  (dss_cons (ds_set 1 sc_k09_law.nd (de_add false de_int (de_mod (de_call (ok_law_cell_at T) (hr.mono (by decide)) T.d_law_cell_at.g T.d_law_cell_at.F.kp T.d_law_cell_at.b tk (da_cons (dv 0) (da_cons de_int da_nil))) de_int)))
  (dss_cons (ds_set 2 sc_k09_law.nd (de_call (ok_law_ways_by T) (hr.mono (by decide)) T.d_law_ways_by.g T.d_law_ways_by.F.kp T.d_law_ways_by.b tk (da_cons (de_call (ok_law_cell_at T) (hr.mono (by decide)) T.d_law_cell_at.g T.d_law_cell_at.F.kp T.d_law_cell_at.b tk (da_cons (dv 0) (da_cons de_int da_nil))) (da_cons (dv 1) da_nil))))
  (dss_cons (ds_set 3 sc_k09_law.nd (de_call (ok_law_fond_by T) (hr.mono (by decide)) T.d_law_fond_by.g T.d_law_fond_by.F.kp T.d_law_fond_by.b tk (da_cons (de_call (ok_law_cell_at T) (hr.mono (by decide)) T.d_law_cell_at.g T.d_law_cell_at.F.kp T.d_law_cell_at.b tk (da_cons (dv 0) (da_cons de_int da_nil))) (da_cons (dv 1) da_nil))))
  (dss_cons (ds_set 4 sc_k09_law.nd (de_call (ok_law_dear_by T) (hr.mono (by decide)) T.d_law_dear_by.g T.d_law_dear_by.F.kp T.d_law_dear_by.b tk (da_cons (de_call (ok_law_cell_at T) (hr.mono (by decide)) T.d_law_cell_at.g T.d_law_cell_at.F.kp T.d_law_cell_at.b tk (da_cons (dv 0) (da_cons de_int da_nil))) (da_cons (dv 1) da_nil))))
  (dss_cons (ds_set 5 sc_k09_law.nd (de_call (ok_law_shy_by T) (hr.mono (by decide)) T.d_law_shy_by.g T.d_law_shy_by.F.kp T.d_law_shy_by.b tk (da_cons (de_call (ok_law_cell_at T) (hr.mono (by decide)) T.d_law_cell_at.g T.d_law_cell_at.F.kp T.d_law_cell_at.b tk (da_cons (dv 0) (da_cons de_int da_nil))) (da_cons (dv 1) da_nil))))
  (dss_cons (ds_set 6 sc_k09_law.nd (de_call (ok_law_lines T) (hr.mono (by decide)) T.d_law_lines.g T.d_law_lines.F.kp T.d_law_lines.b tk (da_cons (dv 2) (da_cons (dv 3) (da_cons (dv 4) (da_cons (dv 5) da_nil))))))
  (dss_cons (ds_if (dt_eq hr (de_mod (de_call (ok_law_cell_at T) (hr.mono (by decide)) T.d_law_cell_at.g T.d_law_cell_at.F.kp T.d_law_cell_at.b tk (da_cons (dv 0) (da_cons de_int da_nil))) de_int) de_int)
    (dss_cons (ds_for1 po rfl tk T.n_range (da_cons de_int da_nil) (pg_name (i := 7) sc_k09_law.nd rfl (by first | exact Or.inl rfl | exact Or.inr rfl)) lift_gN (fun _ tk =>
      (dss_one (ds_if (dt_not (dt_val (de_call (ok_k09_law_refused T) (hr.mono (by decide)) T.d_k09_law_refused.g T.d_k09_law_refused.F.kp T.d_k09_law_refused.b tk (da_cons (de_call (ok_k09_law_spoiled T) (hr.mono (by decide)) T.d_k09_law_spoiled.g T.d_k09_law_spoiled.F.kp T.d_k09_law_spoiled.b tk (da_cons (dv 1) (da_cons (dv 6) (da_cons (dv 2) (da_cons (de_call (ok_law_cell_at T) (hr.mono (by decide)) T.d_law_cell_at.g T.d_law_cell_at.F.kp T.d_law_cell_at.b tk (da_cons (dv 0) (da_cons (de_add false de_int (dv 7)) da_nil))) da_nil))))) da_nil))))
        (dss_one (ds_ret de_bl))
        dss_nil))))
    (dss_one (ds_ret de_bl)))
    dss_nil)
  (dss_cons (ds_set 8 sc_k09_law.nd (de_call (ok_law_line T) (hr.mono (by decide)) T.d_law_line.g T.d_law_line.F.kp T.d_law_line.b tk (da_cons (de_lst false (da_cons de_str (da_cons (dv 1) da_nil))) da_nil)))
  (dss_cons (ds_set 9 sc_k09_law.nd (de_join de_str (de_add false (de_lst false (da_cons (dv 8) da_nil)) (de_call (ok_law_other_order T) (hr.mono (by decide)) T.d_law_other_order.g T.d_law_other_order.F.kp T.d_law_other_order.b tk (da_cons (dv 6) (da_cons (dv 3) (da_cons (de_call (ok_law_cell_at T) (hr.mono (by decide)) T.d_law_cell_at.g T.d_law_cell_at.F.kp T.d_law_cell_at.b tk (da_cons (dv 0) (da_cons de_int da_nil))) da_nil)))))))
  (dss_one (ds_ret (de_eq hr (de_call (ok_shown T) (hr.mono (by decide)) T.d_shown.g T.d_shown.F.kp T.d_shown.b tk (da_cons (de_call (ok_read T) (hr.mono (by decide)) T.d_read.g T.d_read.F.kp T.d_read.b tk (da_cons (dv 9) da_nil)) da_nil)) (de_join de_str (de_add false (de_lst false (da_cons (dv 8) da_nil)) (dv 6))))))))))))))))
  (read_k09_law K a.c)
set_option maxHeartbeats 8000000 in
theorem all_mk {l : PySem.W.OpenLaw} {w : World} {K : PySem.W.Frag} {h : Heap} {mg : Str → Option Value} {fa : Addr} (X : K.In h) (G : h.Ns mainGlobals mg) (hfa : mg "law" = some (.ref fa))
    {C_Guild C_GuildError C_NoHouse C_WayThere C_NoRoad C_BadNote f_Guild_init f_Guild_size f_Guild_see_house f_Guild_see_two f_Guild_neighbours f_Guild_lay_way f_Guild_like f_Guild_liking f_Guild_shun f_Guild_shunned f_Guild_see_road f_Guild_wish f_Guild_wishes f_line_of f_shown f_number f_told_line f_read f_law_cell_at f_law_road_by f_law_ways_by f_law_fond_by f_law_dear_by f_law_shy_by f_law_line f_law_lines f_law_bad_line f_law_bad_first f_k09_law_spoiled f_law_other_order f_k09_law_refused f_k09_law : Addr}
    {tok_FIGURES : Tok}
    {od_Guild_init an_Guild_init od_Guild_size an_Guild_size od_Guild_see_house an_Guild_see_house od_Guild_see_two an_Guild_see_two od_Guild_neighbours an_Guild_neighbours od_Guild_lay_way an_Guild_lay_way od_Guild_like an_Guild_like od_Guild_liking an_Guild_liking od_Guild_shun an_Guild_shun od_Guild_shunned an_Guild_shunned od_Guild_see_road an_Guild_see_road od_Guild_wish an_Guild_wish od_Guild_wishes an_Guild_wishes od_line_of an_line_of od_shown an_shown od_number an_number od_told_line an_told_line od_read an_read od_law_cell_at an_law_cell_at od_law_road_by an_law_road_by od_law_ways_by an_law_ways_by od_law_fond_by an_law_fond_by od_law_dear_by an_law_dear_by od_law_shy_by an_law_shy_by od_law_line an_law_line od_law_lines an_law_lines od_law_bad_line an_law_bad_line od_law_bad_first an_law_bad_first od_k09_law_spoiled an_k09_law_spoiled od_law_other_order an_law_other_order od_k09_law_refused an_k09_law_refused od_k09_law an_k09_law : Option Addr}
    {sl_Guild_init sl_Guild_size sl_Guild_see_house sl_Guild_see_two sl_Guild_neighbours sl_Guild_lay_way sl_Guild_like sl_Guild_liking sl_Guild_shun sl_Guild_shunned sl_Guild_see_road sl_Guild_wish sl_Guild_wishes sl_line_of sl_shown sl_number sl_told_line sl_read sl_law_cell_at sl_law_road_by sl_law_ways_by sl_law_fond_by sl_law_dear_by sl_law_shy_by sl_law_line sl_law_lines sl_law_bad_line sl_law_bad_first sl_k09_law_spoiled sl_law_other_order sl_k09_law_refused sl_k09_law : Array (Option Value)}
    {oc_Guild_init kV_Guild_init dc_Guild_init pm_Guild_init cd_Guild_init ct_Guild_init oc_Guild_size kV_Guild_size dc_Guild_size pm_Guild_size cd_Guild_size ct_Guild_size oc_Guild_see_house kV_Guild_see_house dc_Guild_see_house pm_Guild_see_house cd_Guild_see_house ct_Guild_see_house oc_Guild_see_two kV_Guild_see_two dc_Guild_see_two pm_Guild_see_two cd_Guild_see_two ct_Guild_see_two oc_Guild_neighbours kV_Guild_neighbours dc_Guild_neighbours pm_Guild_neighbours cd_Guild_neighbours ct_Guild_neighbours oc_Guild_lay_way kV_Guild_lay_way dc_Guild_lay_way pm_Guild_lay_way cd_Guild_lay_way ct_Guild_lay_way oc_Guild_like kV_Guild_like dc_Guild_like pm_Guild_like cd_Guild_like ct_Guild_like oc_Guild_liking kV_Guild_liking dc_Guild_liking pm_Guild_liking cd_Guild_liking ct_Guild_liking oc_Guild_shun kV_Guild_shun dc_Guild_shun pm_Guild_shun cd_Guild_shun ct_Guild_shun oc_Guild_shunned kV_Guild_shunned dc_Guild_shunned pm_Guild_shunned cd_Guild_shunned ct_Guild_shunned oc_Guild_see_road kV_Guild_see_road dc_Guild_see_road pm_Guild_see_road cd_Guild_see_road ct_Guild_see_road oc_Guild_wish kV_Guild_wish dc_Guild_wish pm_Guild_wish cd_Guild_wish ct_Guild_wish oc_Guild_wishes kV_Guild_wishes dc_Guild_wishes pm_Guild_wishes cd_Guild_wishes ct_Guild_wishes oc_line_of kV_line_of dc_line_of pm_line_of cd_line_of ct_line_of oc_shown kV_shown dc_shown pm_shown cd_shown ct_shown oc_number kV_number dc_number pm_number cd_number ct_number oc_told_line kV_told_line dc_told_line pm_told_line cd_told_line ct_told_line oc_read kV_read dc_read pm_read cd_read ct_read oc_law_cell_at kV_law_cell_at dc_law_cell_at pm_law_cell_at cd_law_cell_at ct_law_cell_at oc_law_road_by kV_law_road_by dc_law_road_by pm_law_road_by cd_law_road_by ct_law_road_by oc_law_ways_by kV_law_ways_by dc_law_ways_by pm_law_ways_by cd_law_ways_by ct_law_ways_by oc_law_fond_by kV_law_fond_by dc_law_fond_by pm_law_fond_by cd_law_fond_by ct_law_fond_by oc_law_dear_by kV_law_dear_by dc_law_dear_by pm_law_dear_by cd_law_dear_by ct_law_dear_by oc_law_shy_by kV_law_shy_by dc_law_shy_by pm_law_shy_by cd_law_shy_by ct_law_shy_by oc_law_line kV_law_line dc_law_line pm_law_line cd_law_line ct_law_line oc_law_lines kV_law_lines dc_law_lines pm_law_lines cd_law_lines ct_law_lines oc_law_bad_line kV_law_bad_line dc_law_bad_line pm_law_bad_line cd_law_bad_line ct_law_bad_line oc_law_bad_first kV_law_bad_first dc_law_bad_first pm_law_bad_first cd_law_bad_first ct_law_bad_first oc_k09_law_spoiled kV_k09_law_spoiled dc_k09_law_spoiled pm_k09_law_spoiled cd_k09_law_spoiled ct_k09_law_spoiled oc_law_other_order kV_law_other_order dc_law_other_order pm_law_other_order cd_law_other_order ct_law_other_order oc_k09_law_refused kV_k09_law_refused dc_k09_law_refused pm_k09_law_refused cd_k09_law_refused ct_k09_law_refused oc_k09_law kV_k09_law dc_k09_law pm_k09_law cd_k09_law ct_k09_law : Value}
    (g_Guild : PySem.W.nsIn K mainGlobals "Guild" = some (some (.ref C_Guild)))
    (g_GuildError : PySem.W.nsIn K mainGlobals "GuildError" = some (some (.ref C_GuildError)))
    (g_NoHouse : PySem.W.nsIn K mainGlobals "NoHouse" = some (some (.ref C_NoHouse)))
    (g_WayThere : PySem.W.nsIn K mainGlobals "WayThere" = some (some (.ref C_WayThere)))
    (g_NoRoad : PySem.W.nsIn K mainGlobals "NoRoad" = some (some (.ref C_NoRoad)))
    (g_BadNote : PySem.W.nsIn K mainGlobals "BadNote" = some (some (.ref C_BadNote)))
    (a_Guild_init : PySem.W.findIn K (.ref C_Guild) "__init__" = some (some (.ref f_Guild_init)))
    (i_Guild_init : PySem.W.isFn K (.ref f_Guild_init) = true)
    (l_Guild_init : K.lookup f_Guild_init = some ⟨oc_Guild_init, od_Guild_init, .func (PySem.W.fnOf "__init__" "Guild.__init__" (defArgs s_Guild_init) (defBody s_Guild_init) (defScope s_Guild_init) .none kV_Guild_init dc_Guild_init pm_Guild_init an_Guild_init cd_Guild_init ct_Guild_init), sl_Guild_init⟩)
    (c_Guild_init : PySem.W.codeIn K cd_Guild_init "Guild.__init__" = true)
    (k_Guild_init : PySem.W.keepIn K (.ref f_Guild_init) = true)
    (a_Guild_size : PySem.W.findIn K (.ref C_Guild) "size" = some (some (.ref f_Guild_size)))
    (i_Guild_size : PySem.W.isFn K (.ref f_Guild_size) = true)
    (l_Guild_size : K.lookup f_Guild_size = some ⟨oc_Guild_size, od_Guild_size, .func (PySem.W.fnOf "size" "Guild.size" (defArgs s_Guild_size) (defBody s_Guild_size) (defScope s_Guild_size) .none kV_Guild_size dc_Guild_size pm_Guild_size an_Guild_size cd_Guild_size ct_Guild_size), sl_Guild_size⟩)
    (c_Guild_size : PySem.W.codeIn K cd_Guild_size "Guild.size" = true)
    (k_Guild_size : PySem.W.keepIn K (.ref f_Guild_size) = true)
    (a_Guild_see_house : PySem.W.findIn K (.ref C_Guild) "see_house" = some (some (.ref f_Guild_see_house)))
    (i_Guild_see_house : PySem.W.isFn K (.ref f_Guild_see_house) = true)
    (l_Guild_see_house : K.lookup f_Guild_see_house = some ⟨oc_Guild_see_house, od_Guild_see_house, .func (PySem.W.fnOf "see_house" "Guild.see_house" (defArgs s_Guild_see_house) (defBody s_Guild_see_house) (defScope s_Guild_see_house) .none kV_Guild_see_house dc_Guild_see_house pm_Guild_see_house an_Guild_see_house cd_Guild_see_house ct_Guild_see_house), sl_Guild_see_house⟩)
    (c_Guild_see_house : PySem.W.codeIn K cd_Guild_see_house "Guild.see_house" = true)
    (k_Guild_see_house : PySem.W.keepIn K (.ref f_Guild_see_house) = true)
    (a_Guild_see_two : PySem.W.findIn K (.ref C_Guild) "see_two" = some (some (.ref f_Guild_see_two)))
    (i_Guild_see_two : PySem.W.isFn K (.ref f_Guild_see_two) = true)
    (l_Guild_see_two : K.lookup f_Guild_see_two = some ⟨oc_Guild_see_two, od_Guild_see_two, .func (PySem.W.fnOf "see_two" "Guild.see_two" (defArgs s_Guild_see_two) (defBody s_Guild_see_two) (defScope s_Guild_see_two) .none kV_Guild_see_two dc_Guild_see_two pm_Guild_see_two an_Guild_see_two cd_Guild_see_two ct_Guild_see_two), sl_Guild_see_two⟩)
    (c_Guild_see_two : PySem.W.codeIn K cd_Guild_see_two "Guild.see_two" = true)
    (k_Guild_see_two : PySem.W.keepIn K (.ref f_Guild_see_two) = true)
    (a_Guild_neighbours : PySem.W.findIn K (.ref C_Guild) "neighbours" = some (some (.ref f_Guild_neighbours)))
    (i_Guild_neighbours : PySem.W.isFn K (.ref f_Guild_neighbours) = true)
    (l_Guild_neighbours : K.lookup f_Guild_neighbours = some ⟨oc_Guild_neighbours, od_Guild_neighbours, .func (PySem.W.fnOf "neighbours" "Guild.neighbours" (defArgs s_Guild_neighbours) (defBody s_Guild_neighbours) (defScope s_Guild_neighbours) .none kV_Guild_neighbours dc_Guild_neighbours pm_Guild_neighbours an_Guild_neighbours cd_Guild_neighbours ct_Guild_neighbours), sl_Guild_neighbours⟩)
    (c_Guild_neighbours : PySem.W.codeIn K cd_Guild_neighbours "Guild.neighbours" = true)
    (k_Guild_neighbours : PySem.W.keepIn K (.ref f_Guild_neighbours) = true)
    (a_Guild_lay_way : PySem.W.findIn K (.ref C_Guild) "lay_way" = some (some (.ref f_Guild_lay_way)))
    (i_Guild_lay_way : PySem.W.isFn K (.ref f_Guild_lay_way) = true)
    (l_Guild_lay_way : K.lookup f_Guild_lay_way = some ⟨oc_Guild_lay_way, od_Guild_lay_way, .func (PySem.W.fnOf "lay_way" "Guild.lay_way" (defArgs s_Guild_lay_way) (defBody s_Guild_lay_way) (defScope s_Guild_lay_way) .none kV_Guild_lay_way dc_Guild_lay_way pm_Guild_lay_way an_Guild_lay_way cd_Guild_lay_way ct_Guild_lay_way), sl_Guild_lay_way⟩)
    (c_Guild_lay_way : PySem.W.codeIn K cd_Guild_lay_way "Guild.lay_way" = true)
    (k_Guild_lay_way : PySem.W.keepIn K (.ref f_Guild_lay_way) = true)
    (a_Guild_like : PySem.W.findIn K (.ref C_Guild) "like" = some (some (.ref f_Guild_like)))
    (i_Guild_like : PySem.W.isFn K (.ref f_Guild_like) = true)
    (l_Guild_like : K.lookup f_Guild_like = some ⟨oc_Guild_like, od_Guild_like, .func (PySem.W.fnOf "like" "Guild.like" (defArgs s_Guild_like) (defBody s_Guild_like) (defScope s_Guild_like) .none kV_Guild_like dc_Guild_like pm_Guild_like an_Guild_like cd_Guild_like ct_Guild_like), sl_Guild_like⟩)
    (c_Guild_like : PySem.W.codeIn K cd_Guild_like "Guild.like" = true)
    (k_Guild_like : PySem.W.keepIn K (.ref f_Guild_like) = true)
    (a_Guild_liking : PySem.W.findIn K (.ref C_Guild) "liking" = some (some (.ref f_Guild_liking)))
    (i_Guild_liking : PySem.W.isFn K (.ref f_Guild_liking) = true)
    (l_Guild_liking : K.lookup f_Guild_liking = some ⟨oc_Guild_liking, od_Guild_liking, .func (PySem.W.fnOf "liking" "Guild.liking" (defArgs s_Guild_liking) (defBody s_Guild_liking) (defScope s_Guild_liking) .none kV_Guild_liking dc_Guild_liking pm_Guild_liking an_Guild_liking cd_Guild_liking ct_Guild_liking), sl_Guild_liking⟩)
    (c_Guild_liking : PySem.W.codeIn K cd_Guild_liking "Guild.liking" = true)
    (k_Guild_liking : PySem.W.keepIn K (.ref f_Guild_liking) = true)
    (a_Guild_shun : PySem.W.findIn K (.ref C_Guild) "shun" = some (some (.ref f_Guild_shun)))
    (i_Guild_shun : PySem.W.isFn K (.ref f_Guild_shun) = true)
    (l_Guild_shun : K.lookup f_Guild_shun = some ⟨oc_Guild_shun, od_Guild_shun, .func (PySem.W.fnOf "shun" "Guild.shun" (defArgs s_Guild_shun) (defBody s_Guild_shun) (defScope s_Guild_shun) .none kV_Guild_shun dc_Guild_shun pm_Guild_shun an_Guild_shun cd_Guild_shun ct_Guild_shun), sl_Guild_shun⟩)
    (c_Guild_shun : PySem.W.codeIn K cd_Guild_shun "Guild.shun" = true)
    (k_Guild_shun : PySem.W.keepIn K (.ref f_Guild_shun) = true)
    (a_Guild_shunned : PySem.W.findIn K (.ref C_Guild) "shunned" = some (some (.ref f_Guild_shunned)))
    (i_Guild_shunned : PySem.W.isFn K (.ref f_Guild_shunned) = true)
    (l_Guild_shunned : K.lookup f_Guild_shunned = some ⟨oc_Guild_shunned, od_Guild_shunned, .func (PySem.W.fnOf "shunned" "Guild.shunned" (defArgs s_Guild_shunned) (defBody s_Guild_shunned) (defScope s_Guild_shunned) .none kV_Guild_shunned dc_Guild_shunned pm_Guild_shunned an_Guild_shunned cd_Guild_shunned ct_Guild_shunned), sl_Guild_shunned⟩)
    (c_Guild_shunned : PySem.W.codeIn K cd_Guild_shunned "Guild.shunned" = true)
    (k_Guild_shunned : PySem.W.keepIn K (.ref f_Guild_shunned) = true)
    (a_Guild_see_road : PySem.W.findIn K (.ref C_Guild) "see_road" = some (some (.ref f_Guild_see_road)))
    (i_Guild_see_road : PySem.W.isFn K (.ref f_Guild_see_road) = true)
    (l_Guild_see_road : K.lookup f_Guild_see_road = some ⟨oc_Guild_see_road, od_Guild_see_road, .func (PySem.W.fnOf "see_road" "Guild.see_road" (defArgs s_Guild_see_road) (defBody s_Guild_see_road) (defScope s_Guild_see_road) .none kV_Guild_see_road dc_Guild_see_road pm_Guild_see_road an_Guild_see_road cd_Guild_see_road ct_Guild_see_road), sl_Guild_see_road⟩)
    (c_Guild_see_road : PySem.W.codeIn K cd_Guild_see_road "Guild.see_road" = true)
    (k_Guild_see_road : PySem.W.keepIn K (.ref f_Guild_see_road) = true)
    (a_Guild_wish : PySem.W.findIn K (.ref C_Guild) "wish" = some (some (.ref f_Guild_wish)))
    (i_Guild_wish : PySem.W.isFn K (.ref f_Guild_wish) = true)
    (l_Guild_wish : K.lookup f_Guild_wish = some ⟨oc_Guild_wish, od_Guild_wish, .func (PySem.W.fnOf "wish" "Guild.wish" (defArgs s_Guild_wish) (defBody s_Guild_wish) (defScope s_Guild_wish) .none kV_Guild_wish dc_Guild_wish pm_Guild_wish an_Guild_wish cd_Guild_wish ct_Guild_wish), sl_Guild_wish⟩)
    (c_Guild_wish : PySem.W.codeIn K cd_Guild_wish "Guild.wish" = true)
    (k_Guild_wish : PySem.W.keepIn K (.ref f_Guild_wish) = true)
    (a_Guild_wishes : PySem.W.findIn K (.ref C_Guild) "wishes" = some (some (.ref f_Guild_wishes)))
    (i_Guild_wishes : PySem.W.isFn K (.ref f_Guild_wishes) = true)
    (l_Guild_wishes : K.lookup f_Guild_wishes = some ⟨oc_Guild_wishes, od_Guild_wishes, .func (PySem.W.fnOf "wishes" "Guild.wishes" (defArgs s_Guild_wishes) (defBody s_Guild_wishes) (defScope s_Guild_wishes) .none kV_Guild_wishes dc_Guild_wishes pm_Guild_wishes an_Guild_wishes cd_Guild_wishes ct_Guild_wishes), sl_Guild_wishes⟩)
    (c_Guild_wishes : PySem.W.codeIn K cd_Guild_wishes "Guild.wishes" = true)
    (k_Guild_wishes : PySem.W.keepIn K (.ref f_Guild_wishes) = true)
    (a_line_of : PySem.W.nsIn K mainGlobals "line_of" = some (some (.ref f_line_of)))
    (l_line_of : K.lookup f_line_of = some ⟨oc_line_of, od_line_of, .func (PySem.W.fnOf "line_of" "line_of" (defArgs s_line_of) (defBody s_line_of) (defScope s_line_of) .none kV_line_of dc_line_of pm_line_of an_line_of cd_line_of ct_line_of), sl_line_of⟩)
    (c_line_of : PySem.W.codeIn K cd_line_of "line_of" = true)
    (k_line_of : PySem.W.keepIn K (.ref f_line_of) = true)
    (a_shown : PySem.W.nsIn K mainGlobals "shown" = some (some (.ref f_shown)))
    (l_shown : K.lookup f_shown = some ⟨oc_shown, od_shown, .func (PySem.W.fnOf "shown" "shown" (defArgs s_shown) (defBody s_shown) (defScope s_shown) .none kV_shown dc_shown pm_shown an_shown cd_shown ct_shown), sl_shown⟩)
    (c_shown : PySem.W.codeIn K cd_shown "shown" = true)
    (k_shown : PySem.W.keepIn K (.ref f_shown) = true)
    (a_number : PySem.W.nsIn K mainGlobals "number" = some (some (.ref f_number)))
    (l_number : K.lookup f_number = some ⟨oc_number, od_number, .func (PySem.W.fnOf "number" "number" (defArgs s_number) (defBody s_number) (defScope s_number) .none kV_number dc_number pm_number an_number cd_number ct_number), sl_number⟩)
    (c_number : PySem.W.codeIn K cd_number "number" = true)
    (k_number : PySem.W.keepIn K (.ref f_number) = true)
    (a_told_line : PySem.W.nsIn K mainGlobals "told_line" = some (some (.ref f_told_line)))
    (l_told_line : K.lookup f_told_line = some ⟨oc_told_line, od_told_line, .func (PySem.W.fnOf "told_line" "told_line" (defArgs s_told_line) (defBody s_told_line) (defScope s_told_line) .none kV_told_line dc_told_line pm_told_line an_told_line cd_told_line ct_told_line), sl_told_line⟩)
    (c_told_line : PySem.W.codeIn K cd_told_line "told_line" = true)
    (k_told_line : PySem.W.keepIn K (.ref f_told_line) = true)
    (a_read : PySem.W.nsIn K mainGlobals "read" = some (some (.ref f_read)))
    (l_read : K.lookup f_read = some ⟨oc_read, od_read, .func (PySem.W.fnOf "read" "read" (defArgs s_read) (defBody s_read) (defScope s_read) .none kV_read dc_read pm_read an_read cd_read ct_read), sl_read⟩)
    (c_read : PySem.W.codeIn K cd_read "read" = true)
    (k_read : PySem.W.keepIn K (.ref f_read) = true)
    (a_law_cell_at : PySem.W.nsIn K mainGlobals "_law_cell_at" = some (some (.ref f_law_cell_at)))
    (l_law_cell_at : K.lookup f_law_cell_at = some ⟨oc_law_cell_at, od_law_cell_at, .func (PySem.W.fnOf "_law_cell_at" "_law_cell_at" (defArgs s_law_cell_at) (defBody s_law_cell_at) (defScope s_law_cell_at) .none kV_law_cell_at dc_law_cell_at pm_law_cell_at an_law_cell_at cd_law_cell_at ct_law_cell_at), sl_law_cell_at⟩)
    (c_law_cell_at : PySem.W.codeIn K cd_law_cell_at "_law_cell_at" = true)
    (k_law_cell_at : PySem.W.keepIn K (.ref f_law_cell_at) = true)
    (a_law_road_by : PySem.W.nsIn K mainGlobals "_law_road_by" = some (some (.ref f_law_road_by)))
    (l_law_road_by : K.lookup f_law_road_by = some ⟨oc_law_road_by, od_law_road_by, .func (PySem.W.fnOf "_law_road_by" "_law_road_by" (defArgs s_law_road_by) (defBody s_law_road_by) (defScope s_law_road_by) .none kV_law_road_by dc_law_road_by pm_law_road_by an_law_road_by cd_law_road_by ct_law_road_by), sl_law_road_by⟩)
    (c_law_road_by : PySem.W.codeIn K cd_law_road_by "_law_road_by" = true)
    (k_law_road_by : PySem.W.keepIn K (.ref f_law_road_by) = true)
    (a_law_ways_by : PySem.W.nsIn K mainGlobals "_law_ways_by" = some (some (.ref f_law_ways_by)))
    (l_law_ways_by : K.lookup f_law_ways_by = some ⟨oc_law_ways_by, od_law_ways_by, .func (PySem.W.fnOf "_law_ways_by" "_law_ways_by" (defArgs s_law_ways_by) (defBody s_law_ways_by) (defScope s_law_ways_by) .none kV_law_ways_by dc_law_ways_by pm_law_ways_by an_law_ways_by cd_law_ways_by ct_law_ways_by), sl_law_ways_by⟩)
    (c_law_ways_by : PySem.W.codeIn K cd_law_ways_by "_law_ways_by" = true)
    (k_law_ways_by : PySem.W.keepIn K (.ref f_law_ways_by) = true)
    (a_law_fond_by : PySem.W.nsIn K mainGlobals "_law_fond_by" = some (some (.ref f_law_fond_by)))
    (l_law_fond_by : K.lookup f_law_fond_by = some ⟨oc_law_fond_by, od_law_fond_by, .func (PySem.W.fnOf "_law_fond_by" "_law_fond_by" (defArgs s_law_fond_by) (defBody s_law_fond_by) (defScope s_law_fond_by) .none kV_law_fond_by dc_law_fond_by pm_law_fond_by an_law_fond_by cd_law_fond_by ct_law_fond_by), sl_law_fond_by⟩)
    (c_law_fond_by : PySem.W.codeIn K cd_law_fond_by "_law_fond_by" = true)
    (k_law_fond_by : PySem.W.keepIn K (.ref f_law_fond_by) = true)
    (a_law_dear_by : PySem.W.nsIn K mainGlobals "_law_dear_by" = some (some (.ref f_law_dear_by)))
    (l_law_dear_by : K.lookup f_law_dear_by = some ⟨oc_law_dear_by, od_law_dear_by, .func (PySem.W.fnOf "_law_dear_by" "_law_dear_by" (defArgs s_law_dear_by) (defBody s_law_dear_by) (defScope s_law_dear_by) .none kV_law_dear_by dc_law_dear_by pm_law_dear_by an_law_dear_by cd_law_dear_by ct_law_dear_by), sl_law_dear_by⟩)
    (c_law_dear_by : PySem.W.codeIn K cd_law_dear_by "_law_dear_by" = true)
    (k_law_dear_by : PySem.W.keepIn K (.ref f_law_dear_by) = true)
    (a_law_shy_by : PySem.W.nsIn K mainGlobals "_law_shy_by" = some (some (.ref f_law_shy_by)))
    (l_law_shy_by : K.lookup f_law_shy_by = some ⟨oc_law_shy_by, od_law_shy_by, .func (PySem.W.fnOf "_law_shy_by" "_law_shy_by" (defArgs s_law_shy_by) (defBody s_law_shy_by) (defScope s_law_shy_by) .none kV_law_shy_by dc_law_shy_by pm_law_shy_by an_law_shy_by cd_law_shy_by ct_law_shy_by), sl_law_shy_by⟩)
    (c_law_shy_by : PySem.W.codeIn K cd_law_shy_by "_law_shy_by" = true)
    (k_law_shy_by : PySem.W.keepIn K (.ref f_law_shy_by) = true)
    (a_law_line : PySem.W.nsIn K mainGlobals "_law_line" = some (some (.ref f_law_line)))
    (l_law_line : K.lookup f_law_line = some ⟨oc_law_line, od_law_line, .func (PySem.W.fnOf "_law_line" "_law_line" (defArgs s_law_line) (defBody s_law_line) (defScope s_law_line) .none kV_law_line dc_law_line pm_law_line an_law_line cd_law_line ct_law_line), sl_law_line⟩)
    (c_law_line : PySem.W.codeIn K cd_law_line "_law_line" = true)
    (k_law_line : PySem.W.keepIn K (.ref f_law_line) = true)
    (a_law_lines : PySem.W.nsIn K mainGlobals "_law_lines" = some (some (.ref f_law_lines)))
    (l_law_lines : K.lookup f_law_lines = some ⟨oc_law_lines, od_law_lines, .func (PySem.W.fnOf "_law_lines" "_law_lines" (defArgs s_law_lines) (defBody s_law_lines) (defScope s_law_lines) .none kV_law_lines dc_law_lines pm_law_lines an_law_lines cd_law_lines ct_law_lines), sl_law_lines⟩)
    (c_law_lines : PySem.W.codeIn K cd_law_lines "_law_lines" = true)
    (k_law_lines : PySem.W.keepIn K (.ref f_law_lines) = true)
    (a_law_bad_line : PySem.W.nsIn K mainGlobals "_law_bad_line" = some (some (.ref f_law_bad_line)))
    (l_law_bad_line : K.lookup f_law_bad_line = some ⟨oc_law_bad_line, od_law_bad_line, .func (PySem.W.fnOf "_law_bad_line" "_law_bad_line" (defArgs s_law_bad_line) (defBody s_law_bad_line) (defScope s_law_bad_line) .none kV_law_bad_line dc_law_bad_line pm_law_bad_line an_law_bad_line cd_law_bad_line ct_law_bad_line), sl_law_bad_line⟩)
    (c_law_bad_line : PySem.W.codeIn K cd_law_bad_line "_law_bad_line" = true)
    (k_law_bad_line : PySem.W.keepIn K (.ref f_law_bad_line) = true)
    (a_law_bad_first : PySem.W.nsIn K mainGlobals "_law_bad_first" = some (some (.ref f_law_bad_first)))
    (l_law_bad_first : K.lookup f_law_bad_first = some ⟨oc_law_bad_first, od_law_bad_first, .func (PySem.W.fnOf "_law_bad_first" "_law_bad_first" (defArgs s_law_bad_first) (defBody s_law_bad_first) (defScope s_law_bad_first) .none kV_law_bad_first dc_law_bad_first pm_law_bad_first an_law_bad_first cd_law_bad_first ct_law_bad_first), sl_law_bad_first⟩)
    (c_law_bad_first : PySem.W.codeIn K cd_law_bad_first "_law_bad_first" = true)
    (k_law_bad_first : PySem.W.keepIn K (.ref f_law_bad_first) = true)
    (a_k09_law_spoiled : PySem.W.nsIn K mainGlobals "_law_spoiled" = some (some (.ref f_k09_law_spoiled)))
    (l_k09_law_spoiled : K.lookup f_k09_law_spoiled = some ⟨oc_k09_law_spoiled, od_k09_law_spoiled, .func (PySem.W.fnOf "_law_spoiled" "_law_spoiled" (defArgs s_k09_law_spoiled) (defBody s_k09_law_spoiled) (defScope s_k09_law_spoiled) .none kV_k09_law_spoiled dc_k09_law_spoiled pm_k09_law_spoiled an_k09_law_spoiled cd_k09_law_spoiled ct_k09_law_spoiled), sl_k09_law_spoiled⟩)
    (c_k09_law_spoiled : PySem.W.codeIn K cd_k09_law_spoiled "_law_spoiled" = true)
    (k_k09_law_spoiled : PySem.W.keepIn K (.ref f_k09_law_spoiled) = true)
    (a_law_other_order : PySem.W.nsIn K mainGlobals "_law_other_order" = some (some (.ref f_law_other_order)))
    (l_law_other_order : K.lookup f_law_other_order = some ⟨oc_law_other_order, od_law_other_order, .func (PySem.W.fnOf "_law_other_order" "_law_other_order" (defArgs s_law_other_order) (defBody s_law_other_order) (defScope s_law_other_order) .none kV_law_other_order dc_law_other_order pm_law_other_order an_law_other_order cd_law_other_order ct_law_other_order), sl_law_other_order⟩)
    (c_law_other_order : PySem.W.codeIn K cd_law_other_order "_law_other_order" = true)
    (k_law_other_order : PySem.W.keepIn K (.ref f_law_other_order) = true)
    (a_k09_law_refused : PySem.W.nsIn K mainGlobals "_law_refused" = some (some (.ref f_k09_law_refused)))
    (l_k09_law_refused : K.lookup f_k09_law_refused = some ⟨oc_k09_law_refused, od_k09_law_refused, .func (PySem.W.fnOf "_law_refused" "_law_refused" (defArgs s_k09_law_refused) (defBody s_k09_law_refused) (defScope s_k09_law_refused) .none kV_k09_law_refused dc_k09_law_refused pm_k09_law_refused an_k09_law_refused cd_k09_law_refused ct_k09_law_refused), sl_k09_law_refused⟩)
    (c_k09_law_refused : PySem.W.codeIn K cd_k09_law_refused "_law_refused" = true)
    (k_k09_law_refused : PySem.W.keepIn K (.ref f_k09_law_refused) = true)
    (a_k09_law : PySem.W.nsIn K mainGlobals "law" = some (some (.ref f_k09_law)))
    (l_k09_law : K.lookup f_k09_law = some ⟨oc_k09_law, od_k09_law, .func (PySem.W.fnOf "law" "law" (defArgs s_k09_law) (defBody s_k09_law) (defScope s_k09_law) .none kV_k09_law dc_k09_law pm_k09_law an_k09_law cd_k09_law ct_k09_law), sl_k09_law⟩)
    (c_k09_law : PySem.W.codeIn K cd_k09_law "law" = true)
    (k_k09_law : PySem.W.keepIn K (.ref f_k09_law) = true)
    (pg_Guild : PySem.W.plainGet K C_Guild Str.empty = true)
    (hd_Guild : PySem.W.hasDictIn K C_Guild = true)
    (po_Guild : PySem.W.plainOver K C_Guild = true)
    (sa_Guild : PySem.W.findIn K (.ref C_Guild) "__setattr__" = some (some (.builtin "object.__setattr__")))
    (mk_Guild : PySem.W.makesIn K C_Guild = true)
    (kc_Guild : PySem.W.keepIn K (.ref C_Guild) = true)
    (na_Guild_fond : PySem.W.findIn K (.ref C_Guild) "fond" = some none)
    (na_Guild_houses : PySem.W.findIn K (.ref C_Guild) "houses" = some none)
    (na_Guild_longings : PySem.W.findIn K (.ref C_Guild) "longings" = some none)
    (na_Guild_shy : PySem.W.findIn K (.ref C_Guild) "shy" = some none)
    (na_Guild_ties : PySem.W.findIn K (.ref C_Guild) "ties" = some none)
    (co_FIGURES : PySem.W.nsIn K mainGlobals "FIGURES" = some (some (.str "0123456789" tok_FIGURES)))
    (z_ValueError : PySem.W.nsIn K mainGlobals "ValueError" = some none)
    (z_int : PySem.W.nsIn K mainGlobals "int" = some none)
    (z_isinstance : PySem.W.nsIn K mainGlobals "isinstance" = some none)
    (z_len : PySem.W.nsIn K mainGlobals "len" = some none)
    (z_list : PySem.W.nsIn K mainGlobals "list" = some none)
    (z_range : PySem.W.nsIn K mainGlobals "range" = some none)
    (z_set : PySem.W.nsIn K mainGlobals "set" = some none)
    (z_sorted : PySem.W.nsIn K mainGlobals "sorted" = some none)
    (z_str : PySem.W.nsIn K mainGlobals "str" = some none)
    (z_tuple : PySem.W.nsIn K mainGlobals "tuple" = some none)
    (xi_GuildError : PySem.W.excIn K C_GuildError [.type "ValueError", .type "Exception", .type "BaseException", .type "object"] "ValueError.__new__" = true)
    (kx_GuildError : PySem.W.keepIn K (.ref C_GuildError) = true)
    (bx_GuildError : PySem.W.subIn K (.ref C_GuildError) (.type "BaseException") = some true)
    (tx_GuildError : PySem.W.typeIn K (.ref C_GuildError) = some (.type "type"))
    (xi_NoHouse : PySem.W.excIn K C_NoHouse [.type "ValueError", .type "Exception", .type "BaseException", .type "object"] "ValueError.__new__" = true)
    (kx_NoHouse : PySem.W.keepIn K (.ref C_NoHouse) = true)
    (bx_NoHouse : PySem.W.subIn K (.ref C_NoHouse) (.type "BaseException") = some true)
    (tx_NoHouse : PySem.W.typeIn K (.ref C_NoHouse) = some (.type "type"))
    (xi_WayThere : PySem.W.excIn K C_WayThere [.type "ValueError", .type "Exception", .type "BaseException", .type "object"] "ValueError.__new__" = true)
    (kx_WayThere : PySem.W.keepIn K (.ref C_WayThere) = true)
    (bx_WayThere : PySem.W.subIn K (.ref C_WayThere) (.type "BaseException") = some true)
    (tx_WayThere : PySem.W.typeIn K (.ref C_WayThere) = some (.type "type"))
    (xi_NoRoad : PySem.W.excIn K C_NoRoad [.type "ValueError", .type "Exception", .type "BaseException", .type "object"] "ValueError.__new__" = true)
    (kx_NoRoad : PySem.W.keepIn K (.ref C_NoRoad) = true)
    (bx_NoRoad : PySem.W.subIn K (.ref C_NoRoad) (.type "BaseException") = some true)
    (tx_NoRoad : PySem.W.typeIn K (.ref C_NoRoad) = some (.type "type"))
    (xi_BadNote : PySem.W.excIn K C_BadNote [.type "ValueError", .type "Exception", .type "BaseException", .type "object"] "ValueError.__new__" = true)
    (kx_BadNote : PySem.W.keepIn K (.ref C_BadNote) = true)
    (bx_BadNote : PySem.W.subIn K (.ref C_BadNote) (.type "BaseException") = some true)
    (tx_BadNote : PySem.W.typeIn K (.ref C_BadNote) = some (.type "type"))
    (q_n : PySem.W.specialIn K (.builtin "object.__class__") "__get__" = some (some (.builtin "getset_descriptor.__get__")))
    (q_t : PySem.W.takesIn K (.builtin "object.__class__") = some true)
    (q1_GuildError : PySem.W.findIn K (.ref C_GuildError) "__getattribute__" = some (some (.builtin "BaseException.__getattribute__")))
    (q2_GuildError : PySem.W.findIn K (.ref C_GuildError) "__getattr__" = some none)
    (q3_GuildError : PySem.W.hasDictIn K C_GuildError = true)
    (q4_GuildError : PySem.W.findIn K (.ref C_GuildError) "__class__" = some (some (.builtin "object.__class__")))
    (q5_GuildError : PySem.W.mroIn K C_GuildError (.type "object") = some true)
    (q1_NoHouse : PySem.W.findIn K (.ref C_NoHouse) "__getattribute__" = some (some (.builtin "BaseException.__getattribute__")))
    (q2_NoHouse : PySem.W.findIn K (.ref C_NoHouse) "__getattr__" = some none)
    (q3_NoHouse : PySem.W.hasDictIn K C_NoHouse = true)
    (q4_NoHouse : PySem.W.findIn K (.ref C_NoHouse) "__class__" = some (some (.builtin "object.__class__")))
    (q5_NoHouse : PySem.W.mroIn K C_NoHouse (.type "object") = some true)
    (q1_WayThere : PySem.W.findIn K (.ref C_WayThere) "__getattribute__" = some (some (.builtin "BaseException.__getattribute__")))
    (q2_WayThere : PySem.W.findIn K (.ref C_WayThere) "__getattr__" = some none)
    (q3_WayThere : PySem.W.hasDictIn K C_WayThere = true)
    (q4_WayThere : PySem.W.findIn K (.ref C_WayThere) "__class__" = some (some (.builtin "object.__class__")))
    (q5_WayThere : PySem.W.mroIn K C_WayThere (.type "object") = some true)
    (q1_NoRoad : PySem.W.findIn K (.ref C_NoRoad) "__getattribute__" = some (some (.builtin "BaseException.__getattribute__")))
    (q2_NoRoad : PySem.W.findIn K (.ref C_NoRoad) "__getattr__" = some none)
    (q3_NoRoad : PySem.W.hasDictIn K C_NoRoad = true)
    (q4_NoRoad : PySem.W.findIn K (.ref C_NoRoad) "__class__" = some (some (.builtin "object.__class__")))
    (q5_NoRoad : PySem.W.mroIn K C_NoRoad (.type "object") = some true)
    (q1_BadNote : PySem.W.findIn K (.ref C_BadNote) "__getattribute__" = some (some (.builtin "BaseException.__getattribute__")))
    (q2_BadNote : PySem.W.findIn K (.ref C_BadNote) "__getattr__" = some none)
    (q3_BadNote : PySem.W.hasDictIn K C_BadNote = true)
    (q4_BadNote : PySem.W.findIn K (.ref C_BadNote) "__class__" = some (some (.builtin "object.__class__")))
    (q5_BadNote : PySem.W.mroIn K C_BadNote (.type "object") = some true)
    (su_GuildError_GuildError : PySem.W.subIn K (.ref C_GuildError) (.ref C_GuildError) = some true)
    (ki_GuildError_GuildError : PySem.W.kitOne K (.ref C_GuildError) (.ref C_GuildError) = some true)
    (su_GuildError_NoHouse : PySem.W.subIn K (.ref C_GuildError) (.ref C_NoHouse) = some false)
    (ki_GuildError_NoHouse : PySem.W.kitOne K (.ref C_GuildError) (.ref C_NoHouse) = some false)
    (su_GuildError_WayThere : PySem.W.subIn K (.ref C_GuildError) (.ref C_WayThere) = some false)
    (ki_GuildError_WayThere : PySem.W.kitOne K (.ref C_GuildError) (.ref C_WayThere) = some false)
    (su_GuildError_NoRoad : PySem.W.subIn K (.ref C_GuildError) (.ref C_NoRoad) = some false)
    (ki_GuildError_NoRoad : PySem.W.kitOne K (.ref C_GuildError) (.ref C_NoRoad) = some false)
    (su_GuildError_BadNote : PySem.W.subIn K (.ref C_GuildError) (.ref C_BadNote) = some false)
    (ki_GuildError_BadNote : PySem.W.kitOne K (.ref C_GuildError) (.ref C_BadNote) = some false)
    (kv_GuildError : PySem.W.kitOne K (.ref C_GuildError) (.type "ValueError") = some true)
    (su_NoHouse_GuildError : PySem.W.subIn K (.ref C_NoHouse) (.ref C_GuildError) = some true)
    (ki_NoHouse_GuildError : PySem.W.kitOne K (.ref C_NoHouse) (.ref C_GuildError) = some true)
    (su_NoHouse_NoHouse : PySem.W.subIn K (.ref C_NoHouse) (.ref C_NoHouse) = some true)
    (ki_NoHouse_NoHouse : PySem.W.kitOne K (.ref C_NoHouse) (.ref C_NoHouse) = some true)
    (su_NoHouse_WayThere : PySem.W.subIn K (.ref C_NoHouse) (.ref C_WayThere) = some false)
    (ki_NoHouse_WayThere : PySem.W.kitOne K (.ref C_NoHouse) (.ref C_WayThere) = some false)
    (su_NoHouse_NoRoad : PySem.W.subIn K (.ref C_NoHouse) (.ref C_NoRoad) = some false)
    (ki_NoHouse_NoRoad : PySem.W.kitOne K (.ref C_NoHouse) (.ref C_NoRoad) = some false)
    (su_NoHouse_BadNote : PySem.W.subIn K (.ref C_NoHouse) (.ref C_BadNote) = some false)
    (ki_NoHouse_BadNote : PySem.W.kitOne K (.ref C_NoHouse) (.ref C_BadNote) = some false)
    (kv_NoHouse : PySem.W.kitOne K (.ref C_NoHouse) (.type "ValueError") = some true)
    (su_WayThere_GuildError : PySem.W.subIn K (.ref C_WayThere) (.ref C_GuildError) = some true)
    (ki_WayThere_GuildError : PySem.W.kitOne K (.ref C_WayThere) (.ref C_GuildError) = some true)
    (su_WayThere_NoHouse : PySem.W.subIn K (.ref C_WayThere) (.ref C_NoHouse) = some false)
    (ki_WayThere_NoHouse : PySem.W.kitOne K (.ref C_WayThere) (.ref C_NoHouse) = some false)
    (su_WayThere_WayThere : PySem.W.subIn K (.ref C_WayThere) (.ref C_WayThere) = some true)
    (ki_WayThere_WayThere : PySem.W.kitOne K (.ref C_WayThere) (.ref C_WayThere) = some true)
    (su_WayThere_NoRoad : PySem.W.subIn K (.ref C_WayThere) (.ref C_NoRoad) = some false)
    (ki_WayThere_NoRoad : PySem.W.kitOne K (.ref C_WayThere) (.ref C_NoRoad) = some false)
    (su_WayThere_BadNote : PySem.W.subIn K (.ref C_WayThere) (.ref C_BadNote) = some false)
    (ki_WayThere_BadNote : PySem.W.kitOne K (.ref C_WayThere) (.ref C_BadNote) = some false)
    (kv_WayThere : PySem.W.kitOne K (.ref C_WayThere) (.type "ValueError") = some true)
    (su_NoRoad_GuildError : PySem.W.subIn K (.ref C_NoRoad) (.ref C_GuildError) = some true)
    (ki_NoRoad_GuildError : PySem.W.kitOne K (.ref C_NoRoad) (.ref C_GuildError) = some true)
    (su_NoRoad_NoHouse : PySem.W.subIn K (.ref C_NoRoad) (.ref C_NoHouse) = some false)
    (ki_NoRoad_NoHouse : PySem.W.kitOne K (.ref C_NoRoad) (.ref C_NoHouse) = some false)
    (su_NoRoad_WayThere : PySem.W.subIn K (.ref C_NoRoad) (.ref C_WayThere) = some false)
    (ki_NoRoad_WayThere : PySem.W.kitOne K (.ref C_NoRoad) (.ref C_WayThere) = some false)
    (su_NoRoad_NoRoad : PySem.W.subIn K (.ref C_NoRoad) (.ref C_NoRoad) = some true)
    (ki_NoRoad_NoRoad : PySem.W.kitOne K (.ref C_NoRoad) (.ref C_NoRoad) = some true)
    (su_NoRoad_BadNote : PySem.W.subIn K (.ref C_NoRoad) (.ref C_BadNote) = some false)
    (ki_NoRoad_BadNote : PySem.W.kitOne K (.ref C_NoRoad) (.ref C_BadNote) = some false)
    (kv_NoRoad : PySem.W.kitOne K (.ref C_NoRoad) (.type "ValueError") = some true)
    (su_BadNote_GuildError : PySem.W.subIn K (.ref C_BadNote) (.ref C_GuildError) = some true)
    (ki_BadNote_GuildError : PySem.W.kitOne K (.ref C_BadNote) (.ref C_GuildError) = some true)
    (su_BadNote_NoHouse : PySem.W.subIn K (.ref C_BadNote) (.ref C_NoHouse) = some false)
    (ki_BadNote_NoHouse : PySem.W.kitOne K (.ref C_BadNote) (.ref C_NoHouse) = some false)
    (su_BadNote_WayThere : PySem.W.subIn K (.ref C_BadNote) (.ref C_WayThere) = some false)
    (ki_BadNote_WayThere : PySem.W.kitOne K (.ref C_BadNote) (.ref C_WayThere) = some false)
    (su_BadNote_NoRoad : PySem.W.subIn K (.ref C_BadNote) (.ref C_NoRoad) = some false)
    (ki_BadNote_NoRoad : PySem.W.kitOne K (.ref C_BadNote) (.ref C_NoRoad) = some false)
    (su_BadNote_BadNote : PySem.W.subIn K (.ref C_BadNote) (.ref C_BadNote) = some true)
    (ki_BadNote_BadNote : PySem.W.kitOne K (.ref C_BadNote) (.ref C_BadNote) = some true)
    (kv_BadNote : PySem.W.kitOne K (.ref C_BadNote) (.type "ValueError") = some true)
    : ∃ fd : FuncData, (∀ (s : Shared) (v : Value), BindsTo s fd ⟨[v], []⟩ [("script", v)]) ∧ ∀ base : Heap, K.In base → base.Ns mainGlobals mg → FnOk l.prog w K mg base (L2.CX l.prog w) 7 fa fd ["script"] (upSp K (sp_k09_law (⟨C_Guild, 0, C_GuildError, C_NoHouse, 0, C_WayThere, C_NoRoad, 0, 0, C_BadNote⟩ : CA))) := by
  have e := hfa.symm.trans (PySem.W.mg_of X G a_k09_law)
  cases e
  have F_Guild_init := fun_mk (st := s_Guild_init) l_Guild_init c_Guild_init k_Guild_init
  have b_Guild_init := F_Guild_init.binds (ps := ["self", "size"]) fun _ _ _ _ _ _ us hl => match us, hl with | [_, _], _ => rfl
  have F_Guild_size := fun_mk (st := s_Guild_size) l_Guild_size c_Guild_size k_Guild_size
  have b_Guild_size := F_Guild_size.binds (ps := ["self"]) fun _ _ _ _ _ _ us hl => match us, hl with | [_], _ => rfl
  have F_Guild_see_house := fun_mk (st := s_Guild_see_house) l_Guild_see_house c_Guild_see_house k_Guild_see_house
  have b_Guild_see_house := F_Guild_see_house.binds (ps := ["self", "a"]) fun _ _ _ _ _ _ us hl => match us, hl with | [_, _], _ => rfl
  have F_Guild_see_two := fun_mk (st := s_Guild_see_two) l_Guild_see_two c_Guild_see_two k_Guild_see_two
  have b_Guild_see_two := F_Guild_see_two.binds (ps := ["self", "a", "b"]) fun _ _ _ _ _ _ us hl => match us, hl with | [_, _, _], _ => rfl
  have F_Guild_neighbours := fun_mk (st := s_Guild_neighbours) l_Guild_neighbours c_Guild_neighbours k_Guild_neighbours
  have b_Guild_neighbours := F_Guild_neighbours.binds (ps := ["self", "a"]) fun _ _ _ _ _ _ us hl => match us, hl with | [_, _], _ => rfl
  have F_Guild_lay_way := fun_mk (st := s_Guild_lay_way) l_Guild_lay_way c_Guild_lay_way k_Guild_lay_way
  have b_Guild_lay_way := F_Guild_lay_way.binds (ps := ["self", "a", "b"]) fun _ _ _ _ _ _ us hl => match us, hl with | [_, _, _], _ => rfl
  have F_Guild_like := fun_mk (st := s_Guild_like) l_Guild_like c_Guild_like k_Guild_like
  have b_Guild_like := F_Guild_like.binds (ps := ["self", "a", "b", "rank"]) fun _ _ _ _ _ _ us hl => match us, hl with | [_, _, _, _], _ => rfl
  have F_Guild_liking := fun_mk (st := s_Guild_liking) l_Guild_liking c_Guild_liking k_Guild_liking
  have b_Guild_liking := F_Guild_liking.binds (ps := ["self", "a", "b"]) fun _ _ _ _ _ _ us hl => match us, hl with | [_, _, _], _ => rfl
  have F_Guild_shun := fun_mk (st := s_Guild_shun) l_Guild_shun c_Guild_shun k_Guild_shun
  have b_Guild_shun := F_Guild_shun.binds (ps := ["self", "a", "b"]) fun _ _ _ _ _ _ us hl => match us, hl with | [_, _, _], _ => rfl
  have F_Guild_shunned := fun_mk (st := s_Guild_shunned) l_Guild_shunned c_Guild_shunned k_Guild_shunned
  have b_Guild_shunned := F_Guild_shunned.binds (ps := ["self", "a"]) fun _ _ _ _ _ _ us hl => match us, hl with | [_, _], _ => rfl
  have F_Guild_see_road := fun_mk (st := s_Guild_see_road) l_Guild_see_road c_Guild_see_road k_Guild_see_road
  have b_Guild_see_road := F_Guild_see_road.binds (ps := ["self", "road"]) fun _ _ _ _ _ _ us hl => match us, hl with | [_, _], _ => rfl
  have F_Guild_wish := fun_mk (st := s_Guild_wish) l_Guild_wish c_Guild_wish k_Guild_wish
  have b_Guild_wish := F_Guild_wish.binds (ps := ["self", "road", "rank"]) fun _ _ _ _ _ _ us hl => match us, hl with | [_, _, _], _ => rfl
  have F_Guild_wishes := fun_mk (st := s_Guild_wishes) l_Guild_wishes c_Guild_wishes k_Guild_wishes
  have b_Guild_wishes := F_Guild_wishes.binds (ps := ["self"]) fun _ _ _ _ _ _ us hl => match us, hl with | [_], _ => rfl
  have F_line_of := fun_mk (st := s_line_of) l_line_of c_line_of k_line_of
  have b_line_of := F_line_of.binds (ps := ["words"]) fun _ _ _ _ _ _ us hl => match us, hl with | [_], _ => rfl
  have F_shown := fun_mk (st := s_shown) l_shown c_shown k_shown
  have b_shown := F_shown.binds (ps := ["guild"]) fun _ _ _ _ _ _ us hl => match us, hl with | [_], _ => rfl
  have F_number := fun_mk (st := s_number) l_number c_number k_number
  have b_number := F_number.binds (ps := ["word"]) fun _ _ _ _ _ _ us hl => match us, hl with | [_], _ => rfl
  have F_told_line := fun_mk (st := s_told_line) l_told_line c_told_line k_told_line
  have b_told_line := F_told_line.binds (ps := ["guild", "line"]) fun _ _ _ _ _ _ us hl => match us, hl with | [_, _], _ => rfl
  have F_read := fun_mk (st := s_read) l_read c_read k_read
  have b_read := F_read.binds (ps := ["text"]) fun _ _ _ _ _ _ us hl => match us, hl with | [_], _ => rfl
  have F_law_cell_at := fun_mk (st := s_law_cell_at) l_law_cell_at c_law_cell_at k_law_cell_at
  have b_law_cell_at := F_law_cell_at.binds (ps := ["script", "k"]) fun _ _ _ _ _ _ us hl => match us, hl with | [_, _], _ => rfl
  have F_law_road_by := fun_mk (st := s_law_road_by) l_law_road_by c_law_road_by k_law_road_by
  have b_law_road_by := F_law_road_by.binds (ps := ["cell", "house", "size"]) fun _ _ _ _ _ _ us hl => match us, hl with | [_, _, _], _ => rfl
  have F_law_ways_by := fun_mk (st := s_law_ways_by) l_law_ways_by c_law_ways_by k_law_ways_by
  have b_law_ways_by := F_law_ways_by.binds (ps := ["cell", "size"]) fun _ _ _ _ _ _ us hl => match us, hl with | [_, _], _ => rfl
  have F_law_fond_by := fun_mk (st := s_law_fond_by) l_law_fond_by c_law_fond_by k_law_fond_by
  have b_law_fond_by := F_law_fond_by.binds (ps := ["cell", "size"]) fun _ _ _ _ _ _ us hl => match us, hl with | [_, _], _ => rfl
  have F_law_dear_by := fun_mk (st := s_law_dear_by) l_law_dear_by c_law_dear_by k_law_dear_by
  have b_law_dear_by := F_law_dear_by.binds (ps := ["cell", "size"]) fun _ _ _ _ _ _ us hl => match us, hl with | [_, _], _ => rfl
  have F_law_shy_by := fun_mk (st := s_law_shy_by) l_law_shy_by c_law_shy_by k_law_shy_by
  have b_law_shy_by := F_law_shy_by.binds (ps := ["cell", "size"]) fun _ _ _ _ _ _ us hl => match us, hl with | [_, _], _ => rfl
  have F_law_line := fun_mk (st := s_law_line) l_law_line c_law_line k_law_line
  have b_law_line := F_law_line.binds (ps := ["words"]) fun _ _ _ _ _ _ us hl => match us, hl with | [_], _ => rfl
  have F_law_lines := fun_mk (st := s_law_lines) l_law_lines c_law_lines k_law_lines
  have b_law_lines := F_law_lines.binds (ps := ["ways", "fond", "dear", "shy"]) fun _ _ _ _ _ _ us hl => match us, hl with | [_, _, _, _], _ => rfl
  have F_law_bad_line := fun_mk (st := s_law_bad_line) l_law_bad_line c_law_bad_line k_law_bad_line
  have b_law_bad_line := F_law_bad_line.binds (ps := ["cell"]) fun _ _ _ _ _ _ us hl => match us, hl with | [_], _ => rfl
  have F_law_bad_first := fun_mk (st := s_law_bad_first) l_law_bad_first c_law_bad_first k_law_bad_first
  have b_law_bad_first := F_law_bad_first.binds (ps := ["cell"]) fun _ _ _ _ _ _ us hl => match us, hl with | [_], _ => rfl
  have F_k09_law_spoiled := fun_mk (st := s_k09_law_spoiled) l_k09_law_spoiled c_k09_law_spoiled k_k09_law_spoiled
  have b_k09_law_spoiled := F_k09_law_spoiled.binds (ps := ["size", "lines", "ways", "cell"]) fun _ _ _ _ _ _ us hl => match us, hl with | [_, _, _, _], _ => rfl
  have F_law_other_order := fun_mk (st := s_law_other_order) l_law_other_order c_law_other_order k_law_other_order
  have b_law_other_order := F_law_other_order.binds (ps := ["lines", "fond", "cell"]) fun _ _ _ _ _ _ us hl => match us, hl with | [_, _, _], _ => rfl
  have F_k09_law_refused := fun_mk (st := s_k09_law_refused) l_k09_law_refused c_k09_law_refused k_k09_law_refused
  have b_k09_law_refused := F_k09_law_refused.binds (ps := ["text"]) fun _ _ _ _ _ _ us hl => match us, hl with | [_], _ => rfl
  have F_k09_law := fun_mk (st := s_k09_law) l_k09_law c_k09_law k_k09_law
  have b_k09_law := F_k09_law.binds (ps := ["script"]) fun _ _ _ _ _ _ us hl => match us, hl with | [_], _ => rfl
  have T : Txt K mg (⟨⟨C_Guild, 0, C_GuildError, C_NoHouse, 0, C_WayThere, C_NoRoad, 0, 0, C_BadNote⟩, f_Guild_init, PySem.W.fnOf "__init__" "Guild.__init__" (defArgs s_Guild_init) (defBody s_Guild_init) (defScope s_Guild_init) .none kV_Guild_init dc_Guild_init pm_Guild_init an_Guild_init cd_Guild_init ct_Guild_init, f_Guild_size, PySem.W.fnOf "size" "Guild.size" (defArgs s_Guild_size) (defBody s_Guild_size) (defScope s_Guild_size) .none kV_Guild_size dc_Guild_size pm_Guild_size an_Guild_size cd_Guild_size ct_Guild_size, f_Guild_see_house, PySem.W.fnOf "see_house" "Guild.see_house" (defArgs s_Guild_see_house) (defBody s_Guild_see_house) (defScope s_Guild_see_house) .none kV_Guild_see_house dc_Guild_see_house pm_Guild_see_house an_Guild_see_house cd_Guild_see_house ct_Guild_see_house, f_Guild_see_two, PySem.W.fnOf "see_two" "Guild.see_two" (defArgs s_Guild_see_two) (defBody s_Guild_see_two) (defScope s_Guild_see_two) .none kV_Guild_see_two dc_Guild_see_two pm_Guild_see_two an_Guild_see_two cd_Guild_see_two ct_Guild_see_two, f_Guild_neighbours, PySem.W.fnOf "neighbours" "Guild.neighbours" (defArgs s_Guild_neighbours) (defBody s_Guild_neighbours) (defScope s_Guild_neighbours) .none kV_Guild_neighbours dc_Guild_neighbours pm_Guild_neighbours an_Guild_neighbours cd_Guild_neighbours ct_Guild_neighbours, f_Guild_lay_way, PySem.W.fnOf "lay_way" "Guild.lay_way" (defArgs s_Guild_lay_way) (defBody s_Guild_lay_way) (defScope s_Guild_lay_way) .none kV_Guild_lay_way dc_Guild_lay_way pm_Guild_lay_way an_Guild_lay_way cd_Guild_lay_way ct_Guild_lay_way, f_Guild_like, PySem.W.fnOf "like" "Guild.like" (defArgs s_Guild_like) (defBody s_Guild_like) (defScope s_Guild_like) .none kV_Guild_like dc_Guild_like pm_Guild_like an_Guild_like cd_Guild_like ct_Guild_like, f_Guild_liking, PySem.W.fnOf "liking" "Guild.liking" (defArgs s_Guild_liking) (defBody s_Guild_liking) (defScope s_Guild_liking) .none kV_Guild_liking dc_Guild_liking pm_Guild_liking an_Guild_liking cd_Guild_liking ct_Guild_liking, f_Guild_shun, PySem.W.fnOf "shun" "Guild.shun" (defArgs s_Guild_shun) (defBody s_Guild_shun) (defScope s_Guild_shun) .none kV_Guild_shun dc_Guild_shun pm_Guild_shun an_Guild_shun cd_Guild_shun ct_Guild_shun, f_Guild_shunned, PySem.W.fnOf "shunned" "Guild.shunned" (defArgs s_Guild_shunned) (defBody s_Guild_shunned) (defScope s_Guild_shunned) .none kV_Guild_shunned dc_Guild_shunned pm_Guild_shunned an_Guild_shunned cd_Guild_shunned ct_Guild_shunned, f_Guild_see_road, PySem.W.fnOf "see_road" "Guild.see_road" (defArgs s_Guild_see_road) (defBody s_Guild_see_road) (defScope s_Guild_see_road) .none kV_Guild_see_road dc_Guild_see_road pm_Guild_see_road an_Guild_see_road cd_Guild_see_road ct_Guild_see_road, f_Guild_wish, PySem.W.fnOf "wish" "Guild.wish" (defArgs s_Guild_wish) (defBody s_Guild_wish) (defScope s_Guild_wish) .none kV_Guild_wish dc_Guild_wish pm_Guild_wish an_Guild_wish cd_Guild_wish ct_Guild_wish, f_Guild_wishes, PySem.W.fnOf "wishes" "Guild.wishes" (defArgs s_Guild_wishes) (defBody s_Guild_wishes) (defScope s_Guild_wishes) .none kV_Guild_wishes dc_Guild_wishes pm_Guild_wishes an_Guild_wishes cd_Guild_wishes ct_Guild_wishes, f_line_of, PySem.W.fnOf "line_of" "line_of" (defArgs s_line_of) (defBody s_line_of) (defScope s_line_of) .none kV_line_of dc_line_of pm_line_of an_line_of cd_line_of ct_line_of, f_shown, PySem.W.fnOf "shown" "shown" (defArgs s_shown) (defBody s_shown) (defScope s_shown) .none kV_shown dc_shown pm_shown an_shown cd_shown ct_shown, f_number, PySem.W.fnOf "number" "number" (defArgs s_number) (defBody s_number) (defScope s_number) .none kV_number dc_number pm_number an_number cd_number ct_number, f_told_line, PySem.W.fnOf "told_line" "told_line" (defArgs s_told_line) (defBody s_told_line) (defScope s_told_line) .none kV_told_line dc_told_line pm_told_line an_told_line cd_told_line ct_told_line, f_read, PySem.W.fnOf "read" "read" (defArgs s_read) (defBody s_read) (defScope s_read) .none kV_read dc_read pm_read an_read cd_read ct_read, f_law_cell_at, PySem.W.fnOf "_law_cell_at" "_law_cell_at" (defArgs s_law_cell_at) (defBody s_law_cell_at) (defScope s_law_cell_at) .none kV_law_cell_at dc_law_cell_at pm_law_cell_at an_law_cell_at cd_law_cell_at ct_law_cell_at, f_law_road_by, PySem.W.fnOf "_law_road_by" "_law_road_by" (defArgs s_law_road_by) (defBody s_law_road_by) (defScope s_law_road_by) .none kV_law_road_by dc_law_road_by pm_law_road_by an_law_road_by cd_law_road_by ct_law_road_by, f_law_ways_by, PySem.W.fnOf "_law_ways_by" "_law_ways_by" (defArgs s_law_ways_by) (defBody s_law_ways_by) (defScope s_law_ways_by) .none kV_law_ways_by dc_law_ways_by pm_law_ways_by an_law_ways_by cd_law_ways_by ct_law_ways_by, f_law_fond_by, PySem.W.fnOf "_law_fond_by" "_law_fond_by" (defArgs s_law_fond_by) (defBody s_law_fond_by) (defScope s_law_fond_by) .none kV_law_fond_by dc_law_fond_by pm_law_fond_by an_law_fond_by cd_law_fond_by ct_law_fond_by, f_law_dear_by, PySem.W.fnOf "_law_dear_by" "_law_dear_by" (defArgs s_law_dear_by) (defBody s_law_dear_by) (defScope s_law_dear_by) .none kV_law_dear_by dc_law_dear_by pm_law_dear_by an_law_dear_by cd_law_dear_by ct_law_dear_by, f_law_shy_by, PySem.W.fnOf "_law_shy_by" "_law_shy_by" (defArgs s_law_shy_by) (defBody s_law_shy_by) (defScope s_law_shy_by) .none kV_law_shy_by dc_law_shy_by pm_law_shy_by an_law_shy_by cd_law_shy_by ct_law_shy_by, f_law_line, PySem.W.fnOf "_law_line" "_law_line" (defArgs s_law_line) (defBody s_law_line) (defScope s_law_line) .none kV_law_line dc_law_line pm_law_line an_law_line cd_law_line ct_law_line, f_law_lines, PySem.W.fnOf "_law_lines" "_law_lines" (defArgs s_law_lines) (defBody s_law_lines) (defScope s_law_lines) .none kV_law_lines dc_law_lines pm_law_lines an_law_lines cd_law_lines ct_law_lines, f_law_bad_line, PySem.W.fnOf "_law_bad_line" "_law_bad_line" (defArgs s_law_bad_line) (defBody s_law_bad_line) (defScope s_law_bad_line) .none kV_law_bad_line dc_law_bad_line pm_law_bad_line an_law_bad_line cd_law_bad_line ct_law_bad_line, f_law_bad_first, PySem.W.fnOf "_law_bad_first" "_law_bad_first" (defArgs s_law_bad_first) (defBody s_law_bad_first) (defScope s_law_bad_first) .none kV_law_bad_first dc_law_bad_first pm_law_bad_first an_law_bad_first cd_law_bad_first ct_law_bad_first, f_k09_law_spoiled, PySem.W.fnOf "_law_spoiled" "_law_spoiled" (defArgs s_k09_law_spoiled) (defBody s_k09_law_spoiled) (defScope s_k09_law_spoiled) .none kV_k09_law_spoiled dc_k09_law_spoiled pm_k09_law_spoiled an_k09_law_spoiled cd_k09_law_spoiled ct_k09_law_spoiled, f_law_other_order, PySem.W.fnOf "_law_other_order" "_law_other_order" (defArgs s_law_other_order) (defBody s_law_other_order) (defScope s_law_other_order) .none kV_law_other_order dc_law_other_order pm_law_other_order an_law_other_order cd_law_other_order ct_law_other_order, f_k09_law_refused, PySem.W.fnOf "_law_refused" "_law_refused" (defArgs s_k09_law_refused) (defBody s_k09_law_refused) (defScope s_k09_law_refused) .none kV_k09_law_refused dc_k09_law_refused pm_k09_law_refused an_k09_law_refused cd_k09_law_refused ct_k09_law_refused, fa, PySem.W.fnOf "law" "law" (defArgs s_k09_law) (defBody s_k09_law) (defScope s_k09_law) .none kV_k09_law dc_k09_law pm_k09_law an_k09_law cd_k09_law ct_k09_law⟩ : Ad) :=
    { d_Guild_init := ⟨F_Guild_init, ⟨a_Guild_init, i_Guild_init, k_Guild_init⟩, b_Guild_init⟩,
      d_Guild_size := ⟨F_Guild_size, ⟨a_Guild_size, i_Guild_size, k_Guild_size⟩, b_Guild_size⟩,
      d_Guild_see_house := ⟨F_Guild_see_house, ⟨a_Guild_see_house, i_Guild_see_house, k_Guild_see_house⟩, b_Guild_see_house⟩,
      d_Guild_see_two := ⟨F_Guild_see_two, ⟨a_Guild_see_two, i_Guild_see_two, k_Guild_see_two⟩, b_Guild_see_two⟩,
      d_Guild_neighbours := ⟨F_Guild_neighbours, ⟨a_Guild_neighbours, i_Guild_neighbours, k_Guild_neighbours⟩, b_Guild_neighbours⟩,
      d_Guild_lay_way := ⟨F_Guild_lay_way, ⟨a_Guild_lay_way, i_Guild_lay_way, k_Guild_lay_way⟩, b_Guild_lay_way⟩,
      d_Guild_like := ⟨F_Guild_like, ⟨a_Guild_like, i_Guild_like, k_Guild_like⟩, b_Guild_like⟩,
      d_Guild_liking := ⟨F_Guild_liking, ⟨a_Guild_liking, i_Guild_liking, k_Guild_liking⟩, b_Guild_liking⟩,
      d_Guild_shun := ⟨F_Guild_shun, ⟨a_Guild_shun, i_Guild_shun, k_Guild_shun⟩, b_Guild_shun⟩,
      d_Guild_shunned := ⟨F_Guild_shunned, ⟨a_Guild_shunned, i_Guild_shunned, k_Guild_shunned⟩, b_Guild_shunned⟩,
      d_Guild_see_road := ⟨F_Guild_see_road, ⟨a_Guild_see_road, i_Guild_see_road, k_Guild_see_road⟩, b_Guild_see_road⟩,
      d_Guild_wish := ⟨F_Guild_wish, ⟨a_Guild_wish, i_Guild_wish, k_Guild_wish⟩, b_Guild_wish⟩,
      d_Guild_wishes := ⟨F_Guild_wishes, ⟨a_Guild_wishes, i_Guild_wishes, k_Guild_wishes⟩, b_Guild_wishes⟩,
      d_line_of := ⟨F_line_of, PySem.W.mg_of X G a_line_of, b_line_of⟩,
      d_shown := ⟨F_shown, PySem.W.mg_of X G a_shown, b_shown⟩,
      d_number := ⟨F_number, PySem.W.mg_of X G a_number, b_number⟩,
      d_told_line := ⟨F_told_line, PySem.W.mg_of X G a_told_line, b_told_line⟩,
      d_read := ⟨F_read, PySem.W.mg_of X G a_read, b_read⟩,
      d_law_cell_at := ⟨F_law_cell_at, PySem.W.mg_of X G a_law_cell_at, b_law_cell_at⟩,
      d_law_road_by := ⟨F_law_road_by, PySem.W.mg_of X G a_law_road_by, b_law_road_by⟩,
      d_law_ways_by := ⟨F_law_ways_by, PySem.W.mg_of X G a_law_ways_by, b_law_ways_by⟩,
      d_law_fond_by := ⟨F_law_fond_by, PySem.W.mg_of X G a_law_fond_by, b_law_fond_by⟩,
      d_law_dear_by := ⟨F_law_dear_by, PySem.W.mg_of X G a_law_dear_by, b_law_dear_by⟩,
      d_law_shy_by := ⟨F_law_shy_by, PySem.W.mg_of X G a_law_shy_by, b_law_shy_by⟩,
      d_law_line := ⟨F_law_line, PySem.W.mg_of X G a_law_line, b_law_line⟩,
      d_law_lines := ⟨F_law_lines, PySem.W.mg_of X G a_law_lines, b_law_lines⟩,
      d_law_bad_line := ⟨F_law_bad_line, PySem.W.mg_of X G a_law_bad_line, b_law_bad_line⟩,
      d_law_bad_first := ⟨F_law_bad_first, PySem.W.mg_of X G a_law_bad_first, b_law_bad_first⟩,
      d_k09_law_spoiled := ⟨F_k09_law_spoiled, PySem.W.mg_of X G a_k09_law_spoiled, b_k09_law_spoiled⟩,
      d_law_other_order := ⟨F_law_other_order, PySem.W.mg_of X G a_law_other_order, b_law_other_order⟩,
      d_k09_law_refused := ⟨F_k09_law_refused, PySem.W.mg_of X G a_k09_law_refused, b_k09_law_refused⟩,
      d_k09_law := ⟨F_k09_law, PySem.W.mg_of X G a_k09_law, b_k09_law⟩,
      cl_Guild := ⟨pg_Guild, hd_Guild, po_Guild, sa_Guild⟩,
      g_Guild := PySem.W.mg_of X G g_Guild,
      mk_Guild := ⟨mk_Guild, a_Guild_init, i_Guild_init, kc_Guild⟩,
      na_Guild_fond := na_Guild_fond,
      na_Guild_houses := na_Guild_houses,
      na_Guild_longings := na_Guild_longings,
      na_Guild_shy := na_Guild_shy,
      na_Guild_ties := na_Guild_ties,
      c_FIGURES := ⟨_, PySem.W.mg_of X G co_FIGURES⟩,
      n_ValueError := PySem.W.mg_none_of X G z_ValueError,
      n_int := PySem.W.mg_none_of X G z_int,
      n_isinstance := PySem.W.mg_none_of X G z_isinstance,
      n_len := PySem.W.mg_none_of X G z_len,
      n_list := PySem.W.mg_none_of X G z_list,
      n_range := PySem.W.mg_none_of X G z_range,
      n_set := PySem.W.mg_none_of X G z_set,
      n_sorted := PySem.W.mg_none_of X G z_sorted,
      n_str := PySem.W.mg_none_of X G z_str,
      n_tuple := PySem.W.mg_none_of X G z_tuple,
      x_GuildError := ⟨PySem.W.mg_of X G g_GuildError, xi_GuildError, kx_GuildError, bx_GuildError, tx_GuildError⟩,
      x_NoHouse := ⟨PySem.W.mg_of X G g_NoHouse, xi_NoHouse, kx_NoHouse, bx_NoHouse, tx_NoHouse⟩,
      x_WayThere := ⟨PySem.W.mg_of X G g_WayThere, xi_WayThere, kx_WayThere, bx_WayThere, tx_WayThere⟩,
      x_NoRoad := ⟨PySem.W.mg_of X G g_NoRoad, xi_NoRoad, kx_NoRoad, bx_NoRoad, tx_NoRoad⟩,
      x_BadNote := ⟨PySem.W.mg_of X G g_BadNote, xi_BadNote, kx_BadNote, bx_BadNote, tx_BadNote⟩,
      ex := ⟨trivial, ⟨q1_GuildError, q2_GuildError, bx_GuildError, q3_GuildError, q4_GuildError, q_n, q_t, q5_GuildError⟩, PySem.W.exm_ref bx_GuildError q3_GuildError tx_GuildError su_GuildError_GuildError, ki_GuildError_GuildError, PySem.W.exm_ref bx_NoHouse q3_NoHouse tx_NoHouse su_GuildError_NoHouse, ki_GuildError_NoHouse, PySem.W.exm_ref bx_WayThere q3_WayThere tx_WayThere su_GuildError_WayThere, ki_GuildError_WayThere, PySem.W.exm_ref bx_NoRoad q3_NoRoad tx_NoRoad su_GuildError_NoRoad, ki_GuildError_NoRoad, PySem.W.exm_ref bx_BadNote q3_BadNote tx_BadNote su_GuildError_BadNote, ki_GuildError_BadNote, kv_GuildError, ⟨q1_NoHouse, q2_NoHouse, bx_NoHouse, q3_NoHouse, q4_NoHouse, q_n, q_t, q5_NoHouse⟩, PySem.W.exm_ref bx_GuildError q3_GuildError tx_GuildError su_NoHouse_GuildError, ki_NoHouse_GuildError, PySem.W.exm_ref bx_NoHouse q3_NoHouse tx_NoHouse su_NoHouse_NoHouse, ki_NoHouse_NoHouse, PySem.W.exm_ref bx_WayThere q3_WayThere tx_WayThere su_NoHouse_WayThere, ki_NoHouse_WayThere, PySem.W.exm_ref bx_NoRoad q3_NoRoad tx_NoRoad su_NoHouse_NoRoad, ki_NoHouse_NoRoad, PySem.W.exm_ref bx_BadNote q3_BadNote tx_BadNote su_NoHouse_BadNote, ki_NoHouse_BadNote, kv_NoHouse, ⟨q1_WayThere, q2_WayThere, bx_WayThere, q3_WayThere, q4_WayThere, q_n, q_t, q5_WayThere⟩, PySem.W.exm_ref bx_GuildError q3_GuildError tx_GuildError su_WayThere_GuildError, ki_WayThere_GuildError, PySem.W.exm_ref bx_NoHouse q3_NoHouse tx_NoHouse su_WayThere_NoHouse, ki_WayThere_NoHouse, PySem.W.exm_ref bx_WayThere q3_WayThere tx_WayThere su_WayThere_WayThere, ki_WayThere_WayThere, PySem.W.exm_ref bx_NoRoad q3_NoRoad tx_NoRoad su_WayThere_NoRoad, ki_WayThere_NoRoad, PySem.W.exm_ref bx_BadNote q3_BadNote tx_BadNote su_WayThere_BadNote, ki_WayThere_BadNote, kv_WayThere, ⟨q1_NoRoad, q2_NoRoad, bx_NoRoad, q3_NoRoad, q4_NoRoad, q_n, q_t, q5_NoRoad⟩, PySem.W.exm_ref bx_GuildError q3_GuildError tx_GuildError su_NoRoad_GuildError, ki_NoRoad_GuildError, PySem.W.exm_ref bx_NoHouse q3_NoHouse tx_NoHouse su_NoRoad_NoHouse, ki_NoRoad_NoHouse, PySem.W.exm_ref bx_WayThere q3_WayThere tx_WayThere su_NoRoad_WayThere, ki_NoRoad_WayThere, PySem.W.exm_ref bx_NoRoad q3_NoRoad tx_NoRoad su_NoRoad_NoRoad, ki_NoRoad_NoRoad, PySem.W.exm_ref bx_BadNote q3_BadNote tx_BadNote su_NoRoad_BadNote, ki_NoRoad_BadNote, kv_NoRoad, ⟨q1_BadNote, q2_BadNote, bx_BadNote, q3_BadNote, q4_BadNote, q_n, q_t, q5_BadNote⟩, PySem.W.exm_ref bx_GuildError q3_GuildError tx_GuildError su_BadNote_GuildError, ki_BadNote_GuildError, PySem.W.exm_ref bx_NoHouse q3_NoHouse tx_NoHouse su_BadNote_NoHouse, ki_BadNote_NoHouse, PySem.W.exm_ref bx_WayThere q3_WayThere tx_WayThere su_BadNote_WayThere, ki_BadNote_WayThere, PySem.W.exm_ref bx_NoRoad q3_NoRoad tx_NoRoad su_BadNote_NoRoad, ki_BadNote_NoRoad, PySem.W.exm_ref bx_BadNote q3_BadNote tx_BadNote su_BadNote_BadNote, ki_BadNote_BadNote, kv_BadNote⟩ }
  exact ⟨PySem.W.fnOf "law" "law" (defArgs s_k09_law) (defBody s_k09_law) (defScope s_k09_law) .none kV_k09_law dc_k09_law pm_k09_law an_k09_law cd_k09_law ct_k09_law, fun s v => .of_eq rfl, fun base _ _ => ok_k09_law T⟩
theorem law_walk {l : PySem.W.OpenLaw} {q : Program} {loose : List Str} {XP : (Str → Option Value) → Heap → Prop} {YP : World → Heap → Prop} {d : DefRec} {K : Params → PySem.W.Frag} (hn : l.most = some 63) (hdf : d.params.defaults = [])
    (hY : ∀ (w : World) (h : Heap), YP w h → (K w.params).In h)
    (F : ∀ (w : World) (mg : Str → Option Value) (fa : Addr) (h : Heap), (K w.params).In h → h.Ns mainGlobals mg → mg d.name = some (.ref fa) →
      ∃ (c : CA) (fd : FuncData), (∀ (s : Shared) (u : Value), BindsTo s fd ⟨[u], []⟩ [("script", u)]) ∧ ∀ base : Heap, (K w.params).In base → base.Ns mainGlobals mg → FnOk l.prog w (K w.params) mg base (L2.CX l.prog w) 7 fa fd ["script"] (upSp (K w.params) (sp_k09_law c))) :
    PySem.W.WalkO q loose XP YP l.row.toRowW d [] (fun f vs => PySem.call f vs) :=
  L2.walk_of (n := 63) (k := 7) (x := "script") (CX := fun w => L2.CX l.prog w) (sp := fun w => spTop (K w.params)) hn (by decide) hdf ⟨rfl, by decide, by decide⟩ hY
    (fun w mg fa h KX G hmg => by
      obtain ⟨c, fd, hb, hF⟩ := F w mg fa h KX G hmg
      exact ⟨fd, hb, fun base hk hg => (hF base hk hg).imp fun vs H Q E h => top_up (len_k09_law c) (fun ns hl => top_k09_law c ns hl) vs H Q E h⟩)
    (fun _ _ a ns hl _ hS => ⟨a, ns, rfl, hS, hl, fun _ => rfl⟩) fun w H s e s' ⟨_, _, _, _, _, _, _, _, _, _, _, _, z⟩ => z
end DL
open PySem PySem.W PyProof.Rows
set_option maxRecDepth 100000 in
set_option maxHeartbeats 0 in
theorem PySem.Challenge.cw_heraldways_k09_read_or_refused_holds : PySem.Challenge.rw_heraldways_k09_read_or_refused.Holds := by
  w_on; o_law; k_head; (case hw => w_witness2)
  k_fill
  refine DL.law_walk (l := PySem.Challenge.rw_heraldways_k09_read_or_refused) rfl rfl (fun w h Y => PySem.W.kIn_of Y) ?F
  case F =>
    intro w mg fa h KX G hmg
    refine' ⟨_, DL.all_mk KX G hmg ?g_Guild ?g_GuildError ?g_NoHouse ?g_WayThere ?g_NoRoad ?g_BadNote ?a_Guild_init ?i_Guild_init ?l_Guild_init ?c_Guild_init ?k_Guild_init ?a_Guild_size ?i_Guild_size ?l_Guild_size ?c_Guild_size ?k_Guild_size ?a_Guild_see_house ?i_Guild_see_house ?l_Guild_see_house ?c_Guild_see_house ?k_Guild_see_house ?a_Guild_see_two ?i_Guild_see_two ?l_Guild_see_two ?c_Guild_see_two ?k_Guild_see_two ?a_Guild_neighbours ?i_Guild_neighbours ?l_Guild_neighbours ?c_Guild_neighbours ?k_Guild_neighbours ?a_Guild_lay_way ?i_Guild_lay_way ?l_Guild_lay_way ?c_Guild_lay_way ?k_Guild_lay_way ?a_Guild_like ?i_Guild_like ?l_Guild_like ?c_Guild_like ?k_Guild_like ?a_Guild_liking ?i_Guild_liking ?l_Guild_liking ?c_Guild_liking ?k_Guild_liking ?a_Guild_shun ?i_Guild_shun ?l_Guild_shun ?c_Guild_shun ?k_Guild_shun ?a_Guild_shunned ?i_Guild_shunned ?l_Guild_shunned ?c_Guild_shunned ?k_Guild_shunned ?a_Guild_see_road ?i_Guild_see_road ?l_Guild_see_road ?c_Guild_see_road ?k_Guild_see_road ?a_Guild_wish ?i_Guild_wish ?l_Guild_wish ?c_Guild_wish ?k_Guild_wish ?a_Guild_wishes ?i_Guild_wishes ?l_Guild_wishes ?c_Guild_wishes ?k_Guild_wishes ?a_line_of ?l_line_of ?c_line_of ?k_line_of ?a_shown ?l_shown ?c_shown ?k_shown ?a_number ?l_number ?c_number ?k_number ?a_told_line ?l_told_line ?c_told_line ?k_told_line ?a_read ?l_read ?c_read ?k_read ?a_law_cell_at ?l_law_cell_at ?c_law_cell_at ?k_law_cell_at ?a_law_road_by ?l_law_road_by ?c_law_road_by ?k_law_road_by ?a_law_ways_by ?l_law_ways_by ?c_law_ways_by ?k_law_ways_by ?a_law_fond_by ?l_law_fond_by ?c_law_fond_by ?k_law_fond_by ?a_law_dear_by ?l_law_dear_by ?c_law_dear_by ?k_law_dear_by ?a_law_shy_by ?l_law_shy_by ?c_law_shy_by ?k_law_shy_by ?a_law_line ?l_law_line ?c_law_line ?k_law_line ?a_law_lines ?l_law_lines ?c_law_lines ?k_law_lines ?a_law_bad_line ?l_law_bad_line ?c_law_bad_line ?k_law_bad_line ?a_law_bad_first ?l_law_bad_first ?c_law_bad_first ?k_law_bad_first ?a_k09_law_spoiled ?l_k09_law_spoiled ?c_k09_law_spoiled ?k_k09_law_spoiled ?a_law_other_order ?l_law_other_order ?c_law_other_order ?k_law_other_order ?a_k09_law_refused ?l_k09_law_refused ?c_k09_law_refused ?k_k09_law_refused ?a_k09_law ?l_k09_law ?c_k09_law ?k_k09_law ?pg_Guild ?hd_Guild ?po_Guild ?sa_Guild ?mk_Guild ?kc_Guild ?na_Guild_fond ?na_Guild_houses ?na_Guild_longings ?na_Guild_shy ?na_Guild_ties ?co_FIGURES ?z_ValueError ?z_int ?z_isinstance ?z_len ?z_list ?z_range ?z_set ?z_sorted ?z_str ?z_tuple ?xi_GuildError ?kx_GuildError ?bx_GuildError ?tx_GuildError ?xi_NoHouse ?kx_NoHouse ?bx_NoHouse ?tx_NoHouse ?xi_WayThere ?kx_WayThere ?bx_WayThere ?tx_WayThere ?xi_NoRoad ?kx_NoRoad ?bx_NoRoad ?tx_NoRoad ?xi_BadNote ?kx_BadNote ?bx_BadNote ?tx_BadNote ?q_n ?q_t ?q1_GuildError ?q2_GuildError ?q3_GuildError ?q4_GuildError ?q5_GuildError ?q1_NoHouse ?q2_NoHouse ?q3_NoHouse ?q4_NoHouse ?q5_NoHouse ?q1_WayThere ?q2_WayThere ?q3_WayThere ?q4_WayThere ?q5_WayThere ?q1_NoRoad ?q2_NoRoad ?q3_NoRoad ?q4_NoRoad ?q5_NoRoad ?q1_BadNote ?q2_BadNote ?q3_BadNote ?q4_BadNote ?q5_BadNote ?su_GuildError_GuildError ?ki_GuildError_GuildError ?su_GuildError_NoHouse ?ki_GuildError_NoHouse ?su_GuildError_WayThere ?ki_GuildError_WayThere ?su_GuildError_NoRoad ?ki_GuildError_NoRoad ?su_GuildError_BadNote ?ki_GuildError_BadNote ?kv_GuildError ?su_NoHouse_GuildError ?ki_NoHouse_GuildError ?su_NoHouse_NoHouse ?ki_NoHouse_NoHouse ?su_NoHouse_WayThere ?ki_NoHouse_WayThere ?su_NoHouse_NoRoad ?ki_NoHouse_NoRoad ?su_NoHouse_BadNote ?ki_NoHouse_BadNote ?kv_NoHouse ?su_WayThere_GuildError ?ki_WayThere_GuildError ?su_WayThere_NoHouse ?ki_WayThere_NoHouse ?su_WayThere_WayThere ?ki_WayThere_WayThere ?su_WayThere_NoRoad ?ki_WayThere_NoRoad ?su_WayThere_BadNote ?ki_WayThere_BadNote ?kv_WayThere ?su_NoRoad_GuildError ?ki_NoRoad_GuildError ?su_NoRoad_NoHouse ?ki_NoRoad_NoHouse ?su_NoRoad_WayThere ?ki_NoRoad_WayThere ?su_NoRoad_NoRoad ?ki_NoRoad_NoRoad ?su_NoRoad_BadNote ?ki_NoRoad_BadNote ?kv_NoRoad ?su_BadNote_GuildError ?ki_BadNote_GuildError ?su_BadNote_NoHouse ?ki_BadNote_NoHouse ?su_BadNote_WayThere ?ki_BadNote_WayThere ?su_BadNote_NoRoad ?ki_BadNote_NoRoad ?su_BadNote_BadNote ?ki_BadNote_BadNote ?kv_BadNote⟩
    (case g_Guild => k_is)
    (case g_GuildError => k_is)
    (case g_NoHouse => k_is)
    (case g_WayThere => k_is)
    (case g_NoRoad => k_is)
    (case g_BadNote => k_is)
    (case a_Guild_init => k_is)
    (case i_Guild_init => k_is)
    (case l_Guild_init => k_is)
    (case c_Guild_init => k_is)
    (case k_Guild_init => k_is)
    (case a_Guild_size => k_is)
    (case i_Guild_size => k_is)
    (case l_Guild_size => k_is)
    (case c_Guild_size => k_is)
    (case k_Guild_size => k_is)
    (case a_Guild_see_house => k_is)
    (case i_Guild_see_house => k_is)
    (case l_Guild_see_house => k_is)
    (case c_Guild_see_house => k_is)
    (case k_Guild_see_house => k_is)
    (case a_Guild_see_two => k_is)
    (case i_Guild_see_two => k_is)
    (case l_Guild_see_two => k_is)
    (case c_Guild_see_two => k_is)
    (case k_Guild_see_two => k_is)
    (case a_Guild_neighbours => k_is)
    (case i_Guild_neighbours => k_is)
    (case l_Guild_neighbours => k_is)
    (case c_Guild_neighbours => k_is)
    (case k_Guild_neighbours => k_is)
    (case a_Guild_lay_way => k_is)
    (case i_Guild_lay_way => k_is)
    (case l_Guild_lay_way => k_is)
    (case c_Guild_lay_way => k_is)
    (case k_Guild_lay_way => k_is)
    (case a_Guild_like => k_is)
    (case i_Guild_like => k_is)
    (case l_Guild_like => k_is)
    (case c_Guild_like => k_is)
    (case k_Guild_like => k_is)
    (case a_Guild_liking => k_is)
    (case i_Guild_liking => k_is)
    (case l_Guild_liking => k_is)
    (case c_Guild_liking => k_is)
    (case k_Guild_liking => k_is)
    (case a_Guild_shun => k_is)
    (case i_Guild_shun => k_is)
    (case l_Guild_shun => k_is)
    (case c_Guild_shun => k_is)
    (case k_Guild_shun => k_is)
    (case a_Guild_shunned => k_is)
    (case i_Guild_shunned => k_is)
    (case l_Guild_shunned => k_is)
    (case c_Guild_shunned => k_is)
    (case k_Guild_shunned => k_is)
    (case a_Guild_see_road => k_is)
    (case i_Guild_see_road => k_is)
    (case l_Guild_see_road => k_is)
    (case c_Guild_see_road => k_is)
    (case k_Guild_see_road => k_is)
    (case a_Guild_wish => k_is)
    (case i_Guild_wish => k_is)
    (case l_Guild_wish => k_is)
    (case c_Guild_wish => k_is)
    (case k_Guild_wish => k_is)
    (case a_Guild_wishes => k_is)
    (case i_Guild_wishes => k_is)
    (case l_Guild_wishes => k_is)
    (case c_Guild_wishes => k_is)
    (case k_Guild_wishes => k_is)
    (case a_line_of => k_is)
    (case l_line_of => k_is)
    (case c_line_of => k_is)
    (case k_line_of => k_is)
    (case a_shown => k_is)
    (case l_shown => k_is)
    (case c_shown => k_is)
    (case k_shown => k_is)
    (case a_number => k_is)
    (case l_number => k_is)
    (case c_number => k_is)
    (case k_number => k_is)
    (case a_told_line => k_is)
    (case l_told_line => k_is)
    (case c_told_line => k_is)
    (case k_told_line => k_is)
    (case a_read => k_is)
    (case l_read => k_is)
    (case c_read => k_is)
    (case k_read => k_is)
    (case a_law_cell_at => k_is)
    (case l_law_cell_at => k_is)
    (case c_law_cell_at => k_is)
    (case k_law_cell_at => k_is)
    (case a_law_road_by => k_is)
    (case l_law_road_by => k_is)
    (case c_law_road_by => k_is)
    (case k_law_road_by => k_is)
    (case a_law_ways_by => k_is)
    (case l_law_ways_by => k_is)
    (case c_law_ways_by => k_is)
    (case k_law_ways_by => k_is)
    (case a_law_fond_by => k_is)
    (case l_law_fond_by => k_is)
    (case c_law_fond_by => k_is)
    (case k_law_fond_by => k_is)
    (case a_law_dear_by => k_is)
    (case l_law_dear_by => k_is)
    (case c_law_dear_by => k_is)
    (case k_law_dear_by => k_is)
    (case a_law_shy_by => k_is)
    (case l_law_shy_by => k_is)
    (case c_law_shy_by => k_is)
    (case k_law_shy_by => k_is)
    (case a_law_line => k_is)
    (case l_law_line => k_is)
    (case c_law_line => k_is)
    (case k_law_line => k_is)
    (case a_law_lines => k_is)
    (case l_law_lines => k_is)
    (case c_law_lines => k_is)
    (case k_law_lines => k_is)
    (case a_law_bad_line => k_is)
    (case l_law_bad_line => k_is)
    (case c_law_bad_line => k_is)
    (case k_law_bad_line => k_is)
    (case a_law_bad_first => k_is)
    (case l_law_bad_first => k_is)
    (case c_law_bad_first => k_is)
    (case k_law_bad_first => k_is)
    (case a_k09_law_spoiled => k_is)
    (case l_k09_law_spoiled => k_is)
    (case c_k09_law_spoiled => k_is)
    (case k_k09_law_spoiled => k_is)
    (case a_law_other_order => k_is)
    (case l_law_other_order => k_is)
    (case c_law_other_order => k_is)
    (case k_law_other_order => k_is)
    (case a_k09_law_refused => k_is)
    (case l_k09_law_refused => k_is)
    (case c_k09_law_refused => k_is)
    (case k_k09_law_refused => k_is)
    (case a_k09_law => k_is)
    (case l_k09_law => k_is)
    (case c_k09_law => k_is)
    (case k_k09_law => k_is)
    (case pg_Guild => k_is)
    (case hd_Guild => k_is)
    (case po_Guild => k_is)
    (case sa_Guild => k_is)
    (case mk_Guild => k_is)
    (case kc_Guild => k_is)
    (case na_Guild_fond => k_is)
    (case na_Guild_houses => k_is)
    (case na_Guild_longings => k_is)
    (case na_Guild_shy => k_is)
    (case na_Guild_ties => k_is)
    (case co_FIGURES => k_is)
    (case z_ValueError => k_is)
    (case z_int => k_is)
    (case z_isinstance => k_is)
    (case z_len => k_is)
    (case z_list => k_is)
    (case z_range => k_is)
    (case z_set => k_is)
    (case z_sorted => k_is)
    (case z_str => k_is)
    (case z_tuple => k_is)
    (case xi_GuildError => k_exc)
    (case kx_GuildError => k_is)
    (case bx_GuildError => k_is)
    (case tx_GuildError => k_is)
    (case xi_NoHouse => k_exc)
    (case kx_NoHouse => k_is)
    (case bx_NoHouse => k_is)
    (case tx_NoHouse => k_is)
    (case xi_WayThere => k_exc)
    (case kx_WayThere => k_is)
    (case bx_WayThere => k_is)
    (case tx_WayThere => k_is)
    (case xi_NoRoad => k_exc)
    (case kx_NoRoad => k_is)
    (case bx_NoRoad => k_is)
    (case tx_NoRoad => k_is)
    (case xi_BadNote => k_exc)
    (case kx_BadNote => k_is)
    (case bx_BadNote => k_is)
    (case tx_BadNote => k_is)
    (case q_n => k_is)
    (case q_t => k_is)
    (case q1_GuildError => k_is)
    (case q2_GuildError => k_is)
    (case q3_GuildError => k_is)
    (case q4_GuildError => k_is)
    (case q5_GuildError => k_is)
    (case q1_NoHouse => k_is)
    (case q2_NoHouse => k_is)
    (case q3_NoHouse => k_is)
    (case q4_NoHouse => k_is)
    (case q5_NoHouse => k_is)
    (case q1_WayThere => k_is)
    (case q2_WayThere => k_is)
    (case q3_WayThere => k_is)
    (case q4_WayThere => k_is)
    (case q5_WayThere => k_is)
    (case q1_NoRoad => k_is)
    (case q2_NoRoad => k_is)
    (case q3_NoRoad => k_is)
    (case q4_NoRoad => k_is)
    (case q5_NoRoad => k_is)
    (case q1_BadNote => k_is)
    (case q2_BadNote => k_is)
    (case q3_BadNote => k_is)
    (case q4_BadNote => k_is)
    (case q5_BadNote => k_is)
    (case su_GuildError_GuildError => first | rfl | k_is)
    (case ki_GuildError_GuildError => first | rfl | k_is)
    (case su_GuildError_NoHouse => first | rfl | k_is)
    (case ki_GuildError_NoHouse => first | rfl | k_is)
    (case su_GuildError_WayThere => first | rfl | k_is)
    (case ki_GuildError_WayThere => first | rfl | k_is)
    (case su_GuildError_NoRoad => first | rfl | k_is)
    (case ki_GuildError_NoRoad => first | rfl | k_is)
    (case su_GuildError_BadNote => first | rfl | k_is)
    (case ki_GuildError_BadNote => first | rfl | k_is)
    (case kv_GuildError => first | rfl | k_is)
    (case su_NoHouse_GuildError => first | rfl | k_is)
    (case ki_NoHouse_GuildError => first | rfl | k_is)
    (case su_NoHouse_NoHouse => first | rfl | k_is)
    (case ki_NoHouse_NoHouse => first | rfl | k_is)
    (case su_NoHouse_WayThere => first | rfl | k_is)
    (case ki_NoHouse_WayThere => first | rfl | k_is)
    (case su_NoHouse_NoRoad => first | rfl | k_is)
    (case ki_NoHouse_NoRoad => first | rfl | k_is)
    (case su_NoHouse_BadNote => first | rfl | k_is)
    (case ki_NoHouse_BadNote => first | rfl | k_is)
    (case kv_NoHouse => first | rfl | k_is)
    (case su_WayThere_GuildError => first | rfl | k_is)
    (case ki_WayThere_GuildError => first | rfl | k_is)
    (case su_WayThere_NoHouse => first | rfl | k_is)
    (case ki_WayThere_NoHouse => first | rfl | k_is)
    (case su_WayThere_WayThere => first | rfl | k_is)
    (case ki_WayThere_WayThere => first | rfl | k_is)
    (case su_WayThere_NoRoad => first | rfl | k_is)
    (case ki_WayThere_NoRoad => first | rfl | k_is)
    (case su_WayThere_BadNote => first | rfl | k_is)
    (case ki_WayThere_BadNote => first | rfl | k_is)
    (case kv_WayThere => first | rfl | k_is)
    (case su_NoRoad_GuildError => first | rfl | k_is)
    (case ki_NoRoad_GuildError => first | rfl | k_is)
    (case su_NoRoad_NoHouse => first | rfl | k_is)
    (case ki_NoRoad_NoHouse => first | rfl | k_is)
    (case su_NoRoad_WayThere => first | rfl | k_is)
    (case ki_NoRoad_WayThere => first | rfl | k_is)
    (case su_NoRoad_NoRoad => first | rfl | k_is)
    (case ki_NoRoad_NoRoad => first | rfl | k_is)
    (case su_NoRoad_BadNote => first | rfl | k_is)
    (case ki_NoRoad_BadNote => first | rfl | k_is)
    (case kv_NoRoad => first | rfl | k_is)
    (case su_BadNote_GuildError => first | rfl | k_is)
    (case ki_BadNote_GuildError => first | rfl | k_is)
    (case su_BadNote_NoHouse => first | rfl | k_is)
    (case ki_BadNote_NoHouse => first | rfl | k_is)
    (case su_BadNote_WayThere => first | rfl | k_is)
    (case ki_BadNote_WayThere => first | rfl | k_is)
    (case su_BadNote_NoRoad => first | rfl | k_is)
    (case ki_BadNote_NoRoad => first | rfl | k_is)
    (case su_BadNote_BadNote => first | rfl | k_is)
    (case ki_BadNote_BadNote => first | rfl | k_is)
    (case kv_BadNote => first | rfl | k_is)
