import PyProof.Rows.All
import Wide.All
import OpenK.AllK
import Wide.FinOn
import HandS.ForMost
import HandS.Walk
import HandS.Exc
import HandS.TryOnly
import HandS.ExcOwn
import HandS.WordsExc
import HandS.CallSlots
import HandS.Wide
import HandS.IsInst
import HandS.RaiseMore
import HandS.TupAny
import HandS.Deep
import HandS.StrMore
import HandS.ReplaceLit
import HandS.More
import HandS.Defaults
import HandS.Head0
import HandS.Head1
import HandS.Head2
import HandS.HeadEnd
import HandS.HeadHook1
import HandS.HeadHook2
import HandS.HeadHook3
import HandS.HeadHook4
import HandS.EndBits
import KE.IntTextLaws
import HandS.ReplaceList
import PyProof.Rows.StrCase
import PySem.Challenge.RW_tryweir_k72_whole_events_written_and_rea
set_option Elab.async false
set_option linter.all false
set_option maxRecDepth 100000
set_option maxHeartbeats 0
/-! The deep layer: values as trees, over the hand layer. Part 1: data, relations, judgements. -/
namespace DL
open PySem L2

/-- a value seen as a tree; ref: a thing that changes, by its place -/
inductive D where
  | non | bl (b : Bool) | int (i : Int) | str (s : Str) | tup (l : List D) | lst (l : List D) | ref (a : Addr) | scr (l : List D)
  deriving Inhabited

mutual
inductive RV (K : PySem.W.Frag) (F : Hp) : D → V → Prop
  | non : RV K F .non .non
  | bl (b : Bool) : RV K F (.bl b) (.bl b)
  | int (i : Int) : RV K F (.int i) (.int i)
  | str (s : Str) : RV K F (.str s) (.str s)
  | ref (a : Addr) : RV K F (.ref a) (.ref a)
  | tup {a : Addr} {vs : List V} {ds : List D} : SqT K F a vs → RVs K F ds vs → RV K F (.tup ds) (.ref a)
  | lst {a : Addr} {vs : List V} {ds : List D} : F a = some (.lst vs) → RVs K F ds vs → RV K F (.lst ds) (.ref a)
  | scr {a : Addr} {vs : List V} {ds : List D} : SqL K F a vs → RVs K F ds vs → RV K F (.scr ds) (.ref a)
inductive RVs (K : PySem.W.Frag) (F : Hp) : List D → List V → Prop
  | nil : RVs K F [] []
  | cons {d : D} {v : V} {ds : List D} {vs : List V} : RV K F d v → RVs K F ds vs → RVs K F (d :: ds) (v :: vs)
end

theorem rd_mono {F F' : Hp} {a : Addr} {u : HO} (s : Same F F') (h : Rd F a u) : Rd F' a u := by
  rcases h with h | ⟨o, h⟩
  · exact .inl (s _ _ h)
  · exact .inr ⟨o, s _ _ h⟩
theorem sqT_mono {K : PySem.W.Frag} {F F' : Hp} {a : Addr} {vs : List V} (s : Same F F') (h : SqT K F a vs) : SqT K F' a vs := by
  rcases h with h | h
  · exact .inl (rd_mono s h)
  · exact .inr h
theorem sqL_mono {K : PySem.W.Frag} {F F' : Hp} {a : Addr} {vs : List V} (s : Same F F') (h : SqL K F a vs) : SqL K F' a vs := by
  rcases h with h | h
  · exact .inl (rd_mono s h)
  · exact .inr h
section
variable {K : PySem.W.Frag} {F F' : Hp}
mutual
theorem RV.mono (s : Same F F') : ∀ (d : D) (v : V), RV K F d v → RV K F' d v
  | .non, _, h => by cases h; exact .non
  | .bl b, _, h => by cases h; exact .bl b
  | .int i, _, h => by cases h; exact .int i
  | .str x, _, h => by cases h; exact .str x
  | .ref a, _, h => by cases h; exact .ref a
  | .tup ds, _, h => by
    cases h with
    | tup q r => exact .tup (sqT_mono s q) (RVs.mono s ds _ r)
  | .lst ds, _, h => by
    cases h with
    | lst q r => exact .lst (s _ _ q) (RVs.mono s ds _ r)
  | .scr ds, _, h => by
    cases h with
    | scr q r => exact .scr (sqL_mono s q) (RVs.mono s ds _ r)
theorem RVs.mono (s : Same F F') : ∀ (ds : List D) (vs : List V), RVs K F ds vs → RVs K F' ds vs
  | [], _, h => by cases h; exact .nil
  | d :: ds, _, h => by
    cases h with
    | cons a b => exact .cons (RV.mono s d _ a) (RVs.mono s ds _ b)
end
theorem RV.mo {d : D} {v : V} (h : RV K F d v) (s : Same F F') : RV K F' d v := RV.mono s d v h
theorem RVs.mo {ds : List D} {vs : List V} (h : RVs K F ds vs) (s : Same F F') : RVs K F' ds vs := RVs.mono s ds vs h
theorem RVs.len : ∀ {ds : List D} {vs : List V}, RVs K F ds vs → ds.length = vs.length
  | [], _, h => by cases h; rfl
  | d :: ds, _, h => by
    cases h with
    | cons a b => simp [RVs.len b]
theorem RVs.get : ∀ {ds : List D} {vs : List V} {i : Nat} {d : D}, RVs K F ds vs → ds[i]? = some d → ∃ v, vs[i]? = some v ∧ RV K F d v
  | [], _, _, _, h, e => by simp at e
  | x :: ds, _, 0, d, h, e => by
    cases h with
    | cons a b => simp at e; subst e; exact ⟨_, rfl, a⟩
  | x :: ds, _, i + 1, d, h, e => by
    cases h with
    | cons a b =>
      obtain ⟨v, h1, h2⟩ := RVs.get (i := i) b (by simpa using e)
      exact ⟨v, by simpa using h1, h2⟩
theorem RVs.get' : ∀ {ds : List D} {vs : List V} {i : Nat} {v : V}, RVs K F ds vs → vs[i]? = some v → ∃ d, ds[i]? = some d ∧ RV K F d v
  | [], _, _, _, h, e => by cases h; simp at e
  | x :: ds, _, 0, d, h, e => by
    cases h with
    | cons a b => simp at e; subst e; exact ⟨_, rfl, a⟩
  | x :: ds, _, i + 1, d, h, e => by
    cases h with
    | cons a b =>
      obtain ⟨v, h1, h2⟩ := RVs.get' (i := i) b (by simpa using e)
      exact ⟨v, by simpa using h1, h2⟩
theorem RVs.app : ∀ {ds es : List D} {vs us : List V}, RVs K F ds vs → RVs K F es us → RVs K F (ds ++ es) (vs ++ us)
  | [], _, _, _, h, g => by cases h; exact g
  | d :: ds, _, _, _, h, g => by
    cases h with
    | cons a b => exact .cons a (RVs.app b g)
theorem RVs.one {d : D} {v : V} (h : RV K F d v) : RVs K F [d] [v] := .cons h .nil
theorem RVs.set : ∀ {ds : List D} {vs : List V} (i : Nat) {d : D} {v : V}, RVs K F ds vs → RV K F d v → RVs K F (ds.set i d) (vs.set i v)
  | [], _, _, _, _, h, g => by cases h; exact .nil
  | x :: ds, _, 0, _, _, h, g => by
    cases h with
    | cons a b => exact .cons g b
  | x :: ds, _, i + 1, _, _, h, g => by
    cases h with
    | cons a b => exact .cons a (RVs.set i b g)
theorem RVs.take : ∀ {ds : List D} {vs : List V} (n : Nat), RVs K F ds vs → RVs K F (ds.take n) (vs.take n)
  | [], _, n, h => by cases h; simp; exact .nil
  | x :: ds, _, 0, h => by simp; exact .nil
  | x :: ds, _, n + 1, h => by
    cases h with
    | cons a b => exact .cons a (RVs.take n b)
theorem RVs.drop : ∀ {ds : List D} {vs : List V} (n : Nat), RVs K F ds vs → RVs K F (ds.drop n) (vs.drop n)
  | [], _, n, h => by cases h; simp; exact .nil
  | x :: ds, _, 0, h => h
  | x :: ds, _, n + 1, h => by
    cases h with
    | cons a b => exact RVs.drop n b
theorem RVs.rev : ∀ {ds : List D} {vs : List V}, RVs K F ds vs → RVs K F ds.reverse vs.reverse
  | [], _, h => by cases h; exact .nil
  | x :: ds, _, h => by
    cases h with
    | cons a b => simp only [List.reverse_cons]; exact (RVs.rev b).app (.one a)
theorem RVs.erase : ∀ {ds : List D} {vs : List V} (i : Nat), RVs K F ds vs → RVs K F (ds.eraseIdx i) (vs.eraseIdx i)
  | [], _, _, h => by cases h; exact .nil
  | x :: ds, _, 0, h => by cases h with | cons a b => exact b
  | x :: ds, _, i + 1, h => by cases h with | cons a b => exact .cons a (RVs.erase i b)
theorem RVs.dropLast {ds : List D} {vs : List V} (h : RVs K F ds vs) : RVs K F ds.dropLast vs.dropLast := by
  rw [List.dropLast_eq_take, List.dropLast_eq_take, h.len]
  exact h.take _
theorem RVs.ints : ∀ (ns : List Int), RVs K F (ns.map D.int) (ns.map V.int)
  | [] => .nil
  | n :: ns => .cons (.int n) (RVs.ints ns)
theorem RVs.ints' : ∀ {ns : List Int} {vs : List V}, RVs K F (ns.map D.int) vs → vs = ns.map V.int
  | [], _, h => by cases h; rfl
  | n :: ns, _, h => by
    cases h with
    | cons a b => cases a; rw [RVs.ints' b]; rfl
theorem RVs.bls' : ∀ {ns : List Bool} {vs : List V}, RVs K F (ns.map D.bl) vs → vs = ns.map V.bl
  | [], _, h => by cases h; rfl
  | n :: ns, _, h => by
    cases h with
    | cons a b => cases a; rw [RVs.bls' b]; rfl
theorem RVs.strs' : ∀ {ns : List Str} {vs : List V}, RVs K F (ns.map D.str) vs → vs = ns.map V.str
  | [], _, h => by cases h; rfl
  | n :: ns, _, h => by
    cases h with
    | cons a b => cases a; rw [RVs.strs' b]; rfl
end

/-- what changes, by its place -/
inductive MO where
  | lst (ds : List D) | ins (C : Addr) (fs : List (Str × D)) | dk (kvs : List (Key × D))
abbrev MH := Addr → Option MO
def updM (M : MH) (a : Addr) (o : MO) : MH := fun b => if b = a then some o else M b
def delM (M : MH) (a : Addr) : MH := fun b => if b = a then none else M b
theorem updM_same {M : MH} {a : Addr} {o : MO} : updM M a o a = some o := if_pos rfl
theorem updM_ne {M : MH} {a b : Addr} {o : MO} (h : b ≠ a) : updM M a o b = M b := if_neg h
theorem delM_same {M : MH} {a : Addr} : delM M a a = none := if_pos rfl
theorem delM_ne {M : MH} {a b : Addr} (h : b ≠ a) : delM M a b = M b := if_neg h
theorem updM_updM {M : MH} {a : Addr} {o u : MO} : updM (updM M a o) a u = updM M a u := by
  funext b; unfold updM; split <;> rfl
theorem delM_updM {M : MH} {a : Addr} {o : MO} (h : M a = none) : delM (updM M a o) a = M := by
  funext b; unfold delM updM; split
  · rename_i e; rw [e, h]
  · rfl
theorem delM_updM' {M : MH} {a : Addr} {o : MO} : delM (updM M a o) a = delM M a := by
  funext b; unfold delM updM; split <;> rfl
theorem updM_comm {M : MH} {a b : Addr} {o u : MO} (h : a ≠ b) : updM (updM M a o) b u = updM (updM M b u) a o := by
  funext c; unfold updM
  by_cases h1 : c = b
  · subst h1; rw [if_pos rfl, if_neg (Ne.symm h), if_pos rfl]
  · rw [if_neg h1]; by_cases h2 : c = a
    · subst h2; rw [if_pos rfl, if_pos rfl]
    · rw [if_neg h2, if_neg h2, if_neg h1]
theorem updM_id {M : MH} {a : Addr} {o : MO} (h : M a = some o) : updM M a o = M := by
  funext b; unfold updM; split
  · rename_i e; rw [e, h]
  · rfl
def SubM (M M' : MH) : Prop := ∀ a o, M a = some o → M' a = some o
theorem SubM.refl (M : MH) : SubM M M := fun _ _ h => h
theorem SubM.del (M : MH) (a : Addr) : SubM (delM M a) M := fun b o h => by
  unfold delM at h
  split at h
  · cases h
  · exact h

abbrev RFs (K : PySem.W.Frag) (F : Hp) (fs : List (Str × D)) (gs : List (Str × V)) : Prop := Paired (fun p q => p.1 = q.1 ∧ RV K F p.2 q.2) fs gs
abbrev RKs (K : PySem.W.Frag) (F : Hp) (fs : List (Key × D)) (gs : List (Key × V)) : Prop := Paired (fun p q => p.1 = q.1 ∧ RV K F p.2 q.2) fs gs
theorem RFs.mo {α : Type} {K : PySem.W.Frag} {F F' : Hp} {fs : List (α × D)} {gs : List (α × V)} (h : Paired (fun p q => p.1 = q.1 ∧ RV K F p.2 q.2) fs gs) (s : Same F F') : Paired (fun p q => p.1 = q.1 ∧ RV K F' p.2 q.2) fs gs :=
  Paired.mapP h fun _ _ z => ⟨z.1, z.2.mo s⟩

def RM (K : PySem.W.Frag) (F H : Hp) (a : Addr) : MO → Prop
  | .lst ds => ∃ vs, H a = some (.lst vs) ∧ RVs K F ds vs
  | .ins C fs => ∃ dx gs, H a = some (.ins C dx gs) ∧ RFs K F fs gs
  | .dk kvs => ∃ gs, H a = some (.dK gs) ∧ RKs K F kvs gs
theorem RM.some {K : PySem.W.Frag} {F H : Hp} {a : Addr} : ∀ {o : MO}, RM K F H a o → ∃ u, H a = Option.some u
  | .lst _, ⟨_, h, _⟩ => ⟨_, h⟩
  | .ins _ _, ⟨_, _, h, _⟩ => ⟨_, h⟩
  | .dk _, ⟨_, h, _⟩ => ⟨_, h⟩
theorem RM.mo {K : PySem.W.Frag} {F F' H H' : Hp} {a : Addr} (s : Same F F') (e : H' a = H a) : ∀ {o : MO}, RM K F H a o → RM K F' H' a o
  | .lst _, ⟨vs, h, r⟩ => ⟨vs, e.trans h, r.mo s⟩
  | .ins _ _, ⟨dx, gs, h, r⟩ => ⟨dx, gs, e.trans h, RFs.mo r s⟩
  | .dk _, ⟨gs, h, r⟩ => ⟨gs, e.trans h, RFs.mo r s⟩

/-- the abstract heap H holds: F, what stands still; G, what others hold; M, what changes -/
structure WW (K : PySem.W.Frag) (F G : Hp) (M : MH) (H : Hp) : Prop where
  fr : Same F H
  gr : Same G H
  gf : ∀ a o, G a = some o → F a = none
  mu : ∀ a mo, M a = some mo → F a = none ∧ G a = none ∧ RM K F H a mo

section
variable {K : PySem.W.Frag} {F G H : Hp} {M : MH} {p : Addr}
theorem WW.freeF (w : WW K F G M H) (h : H p = none) : F p = none := w.fr.free h
theorem WW.freeG (w : WW K F G M H) (h : H p = none) : G p = none := w.gr.free h
theorem WW.freeM (w : WW K F G M H) (h : H p = none) : M p = none := by
  cases e : M p with
  | none => rfl
  | some o =>
    obtain ⟨_, _, r⟩ := w.mu p o e
    obtain ⟨u, z⟩ := r.some
    rw [h] at z; cases z
theorem same_upd {F : Hp} {p : Addr} {o : HO} (h : F p = none) : Same F (upd F p o) := fun b u e => by rw [upd_ne (ne_of_none e h)]; exact e
/-- a new thing that stands still -/
theorem WW.new (w : WW K F G M H) (h : H p = none) (o : HO) : WW K (upd F p o) G M (upd H p o) where
  fr := fun b u e => by
    by_cases hb : b = p
    · subst hb; rw [upd_same] at e ⊢; exact e
    · rw [upd_ne hb] at e ⊢; exact w.fr b u e
  gr := fun b u e => by rw [upd_ne (ne_of_none (w.gr b u e) h)]; exact w.gr b u e
  gf := fun b u e => by rw [upd_ne (ne_of_none (w.gr b u e) h)]; exact w.gf b u e
  mu := fun b mo e => by
    obtain ⟨h1, h2, r⟩ := w.mu b mo e
    obtain ⟨u, hu⟩ := r.some
    have ne := ne_of_none hu h
    exact ⟨by rw [upd_ne ne]; exact h1, h2, r.mo (same_upd (w.freeF h)) (upd_ne ne)⟩
/-- a new thing that changes -/
theorem WW.newM (w : WW K F G M H) (h : H p = none) (o : HO) (mo : MO) (r : RM K F (upd H p o) p mo) : WW K F G (updM M p mo) (upd H p o) where
  fr := fun b u e => by rw [upd_ne (ne_of_none (w.fr b u e) h)]; exact w.fr b u e
  gr := fun b u e => by rw [upd_ne (ne_of_none (w.gr b u e) h)]; exact w.gr b u e
  gf := w.gf
  mu := fun b mo' e => by
    by_cases hb : b = p
    · subst hb; rw [updM_same] at e; cases e; exact ⟨w.freeF h, w.freeG h, r⟩
    · rw [updM_ne hb] at e
      obtain ⟨h1, h2, r'⟩ := w.mu b mo' e
      exact ⟨h1, h2, r'.mo (Same.refl F) (upd_ne hb)⟩
/-- it changes -/
theorem WW.set (w : WW K F G M H) {mo₀ : MO} (hm : M p = some mo₀) (o : HO) (mo : MO) (r : RM K F (upd H p o) p mo) : WW K F G (updM M p mo) (upd H p o) where
  fr := fun b u e => by
    have ne : b ≠ p := fun z => by subst z; rw [(w.mu _ _ hm).1] at e; cases e
    rw [upd_ne ne]; exact w.fr b u e
  gr := fun b u e => by
    have ne : b ≠ p := fun z => by subst z; rw [(w.mu _ _ hm).2.1] at e; cases e
    rw [upd_ne ne]; exact w.gr b u e
  gf := w.gf
  mu := fun b mo' e => by
    by_cases hb : b = p
    · subst hb; rw [updM_same] at e; cases e; exact ⟨(w.mu _ _ hm).1, (w.mu _ _ hm).2.1, r⟩
    · rw [updM_ne hb] at e
      obtain ⟨h1, h2, r'⟩ := w.mu b mo' e
      exact ⟨h1, h2, r'.mo (Same.refl F) (upd_ne hb)⟩
/-- it stands still from here on -/
theorem WW.freeze (w : WW K F G M H) {ds : List D} (hm : M p = some (.lst ds)) : ∃ vs, Same F (upd F p (.lst vs)) ∧ WW K (upd F p (.lst vs)) G (delM M p) H ∧ RV K (upd F p (.lst vs)) (.lst ds) (.ref p) := by
  obtain ⟨h1, h2, vs, hv, r⟩ := w.mu p _ hm
  have s : Same F (upd F p (.lst vs)) := same_upd h1
  refine ⟨vs, s, ⟨fun b u e => ?_, w.gr, fun b u e => ?_, fun b mo e => ?_⟩, .lst upd_same (r.mo s)⟩
  · by_cases hb : b = p
    · subst hb; rw [upd_same] at e; cases e; exact hv
    · rw [upd_ne hb] at e; exact w.fr b u e
  · have ne : b ≠ p := fun z => by subst z; rw [h2] at e; cases e
    rw [upd_ne ne]; exact w.gf b u e
  · have ne : b ≠ p := fun z => by subst z; rw [delM_same] at e; cases e
    rw [delM_ne ne] at e
    obtain ⟨q1, q2, q3⟩ := w.mu b mo e
    exact ⟨by rw [upd_ne ne]; exact q1, q2, q3.mo s rfl⟩
theorem WW.drop (w : WW K F G M H) {M' : MH} (s : SubM M' M) : WW K F G M' H := ⟨w.fr, w.gr, w.gf, fun a mo e => w.mu a mo (s a mo e)⟩
end

abbrev DSt := List (Option D)
abbrev DK := D → MH → Prop
abbrev DX := Value → Option (List (Str × D)) → MH → Prop
abbrev DWX := Value → Option (List (Str × D)) → DSt → MH → Prop
abbrev DTE := DWX → DSt → MH → DK → Prop
abbrev DTT := DWX → DSt → MH → (Bool → MH → Prop) → Prop
abbrev DTA := DWX → DSt → MH → (List D → MH → Prop) → Prop
structure DEnds where
  nx : DSt → MH → Prop
  rt : DK
  bk : DSt → MH → Prop := fun _ _ => False
  ct : DSt → MH → Prop := fun _ _ => False
abbrev DTS := DWX → DEnds → DSt → MH → Prop

def RS (K : PySem.W.Frag) (F : Hp) (ρ : DSt) (σ : L2.St) : Prop := ρ.length = σ.length ∧ ∀ (i : Nat) (d : D), ρ[i]? = some (some d) → ∃ v, σ[i]? = some (some v) ∧ RV K F d v
theorem RS.mo {K : PySem.W.Frag} {F F' : Hp} {ρ : DSt} {σ : L2.St} (h : RS K F ρ σ) (s : Same F F') : RS K F' ρ σ :=
  ⟨h.1, fun i d e => let ⟨v, a, b⟩ := h.2 i d e; ⟨v, a, b.mo s⟩⟩
theorem RS.set {K : PySem.W.Frag} {F : Hp} {ρ : DSt} {σ : L2.St} (h : RS K F ρ σ) {d : D} {v : V} (r : RV K F d v) (i : Nat) : RS K F (ρ.set i (some d)) (σ.set i (some v)) := by
  refine ⟨by simp [h.1], fun j e q => ?_⟩
  by_cases hj : i = j
  · subst hj
    by_cases hi : i < ρ.length
    · rw [List.getElem?_set_self hi] at q; cases q
      exact ⟨v, List.getElem?_set_self (h.1 ▸ hi), r⟩
    · rw [List.getElem?_eq_none (by simpa using hi)] at q; cases q
  · rw [List.getElem?_set_ne hj] at q
    obtain ⟨u, a, b⟩ := h.2 j e q
    exact ⟨u, by rw [List.getElem?_set_ne hj]; exact a, b⟩
def wipeD (ρ : DSt) : List Nat → DSt
  | [] => ρ
  | v :: vs => (wipeD ρ vs).set v none
theorem RS.wipe {K : PySem.W.Frag} {F : Hp} {ρ : DSt} {σ : L2.St} (h : RS K F ρ σ) : ∀ vs : List Nat, RS K F (wipeD ρ vs) (wipe σ vs)
  | [] => h
  | v :: vs => by
    have ih := RS.wipe h vs
    refine ⟨by simp [wipeD, L2.wipe, ih.1], fun j e q => ?_⟩
    unfold wipeD at q
    unfold L2.wipe
    by_cases hj : v = j
    · subst hj
      by_cases hv : v < (wipeD ρ vs).length
      · rw [List.getElem?_set_self hv] at q; cases q
      · rw [List.getElem?_eq_none (by simpa using hv)] at q; cases q
    · rw [List.getElem?_set_ne hj] at q ⊢
      exact ih.2 j e q

def RX (K : PySem.W.Frag) (F : Hp) (fx : Option (List (Str × D))) (da : Option Addr) : Prop := ∀ fs, fx = some fs → ∃ d gs, da = some d ∧ F d = some (.xd gs) ∧ RFs K F fs gs
/-- a wish of the trees is one of the hand layer's -/
def LW (K : PySem.W.Frag) (F G : Hp) (dW : DWX) (W : WX) : Prop := ∀ cls fx ρ M σ F' H da, dW cls fx ρ M → Same F F' → RS K F' ρ σ → WW K F' G M H → RX K F' fx da → W cls da σ H
theorem LW.mo {K : PySem.W.Frag} {F F1 G : Hp} {dW : DWX} {W : WX} (h : LW K F G dW W) (s : Same F F1) : LW K F1 G dW W := fun cls fx ρ M σ F' H da a b => h cls fx ρ M σ F' H da a (s.trans b)
def LQ (K : PySem.W.Frag) (F G : Hp) (dQ : DK) (Q : VK) : Prop := ∀ d M v F' H, dQ d M → Same F F' → WW K F' G M H → RV K F' d v → Q v H
theorem LQ.mo {K : PySem.W.Frag} {F F1 G : Hp} {dQ : DK} {Q : VK} (h : LQ K F G dQ Q) (s : Same F F1) : LQ K F1 G dQ Q := fun d M v F' H a b => h d M v F' H a (s.trans b)
def LB (K : PySem.W.Frag) (F G : Hp) (dQ : Bool → MH → Prop) (Q : Bool → Hp → Prop) : Prop := ∀ b M F' H, dQ b M → Same F F' → WW K F' G M H → Q b H
theorem LB.mo {K : PySem.W.Frag} {F F1 G : Hp} {dQ : Bool → MH → Prop} {Q : Bool → Hp → Prop} (h : LB K F G dQ Q) (s : Same F F1) : LB K F1 G dQ Q := fun d M F' H a b => h d M F' H a (s.trans b)
def LQs (K : PySem.W.Frag) (F G : Hp) (dQ : List D → MH → Prop) (Q : List V → Hp → Prop) : Prop := ∀ ds M vs F' H, dQ ds M → Same F F' → WW K F' G M H → RVs K F' ds vs → Q vs H
theorem LQs.mo {K : PySem.W.Frag} {F F1 G : Hp} {dQ : List D → MH → Prop} {Q : List V → Hp → Prop} (h : LQs K F G dQ Q) (s : Same F F1) : LQs K F1 G dQ Q := fun d M v F' H a b => h d M v F' H a (s.trans b)
def LN (K : PySem.W.Frag) (F G : Hp) (dN : DSt → MH → Prop) (N : L2.St → Hp → Prop) : Prop := ∀ ρ M σ F' H, dN ρ M → Same F F' → RS K F' ρ σ → WW K F' G M H → N σ H
theorem LN.mo {K : PySem.W.Frag} {F F1 G : Hp} {dN : DSt → MH → Prop} {N : L2.St → Hp → Prop} (h : LN K F G dN N) (s : Same F F1) : LN K F1 G dN N := fun d M v F' H a b => h d M v F' H a (s.trans b)
structure LD (K : PySem.W.Frag) (F G : Hp) (dd : DEnds) (D : Ends) : Prop where
  nx : LN K F G dd.nx D.nx
  rt : LQ K F G dd.rt D.rt
  bk : LN K F G dd.bk D.bk
  ct : LN K F G dd.ct D.ct
theorem LD.mo {K : PySem.W.Frag} {F F1 G : Hp} {dd : DEnds} {D : Ends} (h : LD K F G dd D) (s : Same F F1) : LD K F1 G dd D := ⟨h.nx.mo s, h.rt.mo s, h.bk.mo s, h.ct.mo s⟩

/-- a point of the run, seen both ways -/
structure Pt (K : PySem.W.Frag) (W : WX) (F G : Hp) (ρ : DSt) (M : MH) (dW : DWX) (σ : L2.St) (H : Hp) : Prop where
  rs : RS K F ρ σ
  ww : WW K F G M H
  lw : LW K F G dW W
theorem Pt.step {K : PySem.W.Frag} {W : WX} {F G : Hp} {ρ : DSt} {M : MH} {dW : DWX} {σ : L2.St} {H : Hp} (P : Pt K W F G ρ M dW σ H) {F' : Hp} {M' : MH} {H' : Hp} (s : Same F F') (w : WW K F' G M' H') : Pt K W F' G ρ M' dW σ H' := ⟨P.rs.mo s, w, P.lw.mo s⟩

def LE (K : PySem.W.Frag) (W : WX) (dt : DTE) : TE := fun σ H Q => ∃ ρ F G M dW dQ, Pt K W F G ρ M dW σ H ∧ dt dW ρ M dQ ∧ LQ K F G dQ Q
def LT (K : PySem.W.Frag) (W : WX) (dt : DTT) : TT := fun σ H Q => ∃ ρ F G M dW dQ, Pt K W F G ρ M dW σ H ∧ dt dW ρ M dQ ∧ LB K F G dQ Q
def LA (K : PySem.W.Frag) (W : WX) (dt : DTA) : TA := fun σ H Q => ∃ ρ F G M dW dQ, Pt K W F G ρ M dW σ H ∧ dt dW ρ M dQ ∧ LQs K F G dQ Q
def LS (K : PySem.W.Frag) (W : WX) (dt : DTS) : TS := fun D σ H => ∃ ρ F G M dW dd, Pt K W F G ρ M dW σ H ∧ dt dW dd ρ M ∧ LD K F G dd D

structure DE (X : Cx) (W : WX) (e : Expr) (dt : DTE) : Prop where
  pe : PE X e (LE X.K W dt)
structure DT (X : Cx) (W : WX) (e : Expr) (dt : DTT) : Prop where
  pt : PT X e (LT X.K W dt)
structure DW (X : Cx) (W : WX) (e : Expr) (dt : DTT) : Prop where
  pw : PW X e (LT X.K W dt)
structure DA (X : Cx) (W : WX) (es : List Expr) (dt : DTA) : Prop where
  pa : PA X es (LA X.K W dt)
structure DS (X : Cx) (W : WX) (st : Stmt) (dt : DTS) : Prop where
  ps : PS X st (LS X.K W dt)
structure DSs (X : Cx) (W : WX) (st : List Stmt) (dt : DTS) : Prop where
  pss : PSs X st (LS X.K W dt)

theorem pe_imp {X : Cx} {e : Expr} {t t' : TE} (h : PE X e t) (i : ∀ σ H Q, t' σ H Q → t σ H Q) : PE X e t' := ⟨fun pins s σ H Q I q => h.run pins s σ H Q I (i σ H Q q)⟩
theorem pt_imp {X : Cx} {e : Expr} {t t' : TT} (h : PT X e t) (i : ∀ σ H Q, t' σ H Q → t σ H Q) : PT X e t' := ⟨fun pins s σ H Q I q => h.run pins s σ H Q I (i σ H Q q)⟩
theorem pw_imp {X : Cx} {e : Expr} {t t' : TT} (h : PW X e t) (i : ∀ σ H Q, t' σ H Q → t σ H Q) : PW X e t' := ⟨fun w pins s σ H Q I q => h.run w pins s σ H Q I (i σ H Q q)⟩
theorem pa_imp {X : Cx} {e : List Expr} {t t' : TA} (h : PA X e t) (i : ∀ σ H Q, t' σ H Q → t σ H Q) : PA X e t' := ⟨fun pos pins s σ H Q I q => h.run pos pins s σ H Q I (i σ H Q q)⟩
theorem ps_imp {X : Cx} {e : Stmt} {t t' : TS} (h : PS X e t) (i : ∀ D σ H, t' D σ H → t D σ H) : PS X e t' := ⟨fun pins s σ H D I q => h.run pins s σ H D I (i D σ H q)⟩
theorem pss_imp {X : Cx} {e : List Stmt} {t t' : TS} (h : PSs X e t) (i : ∀ D σ H, t' D σ H → t D σ H) : PSs X e t' := ⟨fun pins s σ H D I q => h.run pins s σ H D I (i D σ H q)⟩
end DL

/-! The deep layer, part 2: expressions, tests, arguments. -/
namespace DL
open PySem L2

section
variable {X : Cx} {W : WX} {K : PySem.W.Frag} {F G H : Hp} {M : MH}

theorem de_of {e : Expr} {t : TE} {dt : DTE} (h : PE X e t) (i : ∀ ρ F G M dW dQ σ H Q, Pt X.K W F G ρ M dW σ H → dt dW ρ M dQ → LQ X.K F G dQ Q → t σ H Q) : DE X W e dt :=
  ⟨pe_imp h fun σ H Q ⟨ρ, F, G, M, dW, dQ, P, h, q⟩ => i ρ F G M dW dQ σ H Q P h q⟩
theorem dt_of {e : Expr} {t : TT} {dt : DTT} (h : PT X e t) (i : ∀ ρ F G M dW dQ σ H Q, Pt X.K W F G ρ M dW σ H → dt dW ρ M dQ → LB X.K F G dQ Q → t σ H Q) : DT X W e dt :=
  ⟨pt_imp h fun σ H Q ⟨ρ, F, G, M, dW, dQ, P, h, q⟩ => i ρ F G M dW dQ σ H Q P h q⟩
theorem dw_of {e : Expr} {t : TT} {dt : DTT} (h : PW X e t) (i : ∀ ρ F G M dW dQ σ H Q, Pt X.K W F G ρ M dW σ H → dt dW ρ M dQ → LB X.K F G dQ Q → t σ H Q) : DW X W e dt :=
  ⟨pw_imp h fun σ H Q ⟨ρ, F, G, M, dW, dQ, P, h, q⟩ => i ρ F G M dW dQ σ H Q P h q⟩
theorem da_of {e : List Expr} {t : TA} {dt : DTA} (h : PA X e t) (i : ∀ ρ F G M dW dQ σ H Q, Pt X.K W F G ρ M dW σ H → dt dW ρ M dQ → LQs X.K F G dQ Q → t σ H Q) : DA X W e dt :=
  ⟨pa_imp h fun σ H Q ⟨ρ, F, G, M, dW, dQ, P, h, q⟩ => i ρ F G M dW dQ σ H Q P h q⟩

/-! ### names, constants -/
def dVar (i : Nat) : DTE := fun _ ρ M Q => match ρ[i]? with
  | some (some d) => Q d M
  | _ => False
def dC (d : D) : DTE := fun _ _ M Q => Q d M
theorem de_var (i : Nat) {x : Str} {pos : Pos} (hN : X.N[i]? = some x := by rfl) (hv : Vis X.env.scope x := by first | exact Or.inl rfl | exact Or.inr (Or.inl rfl) | exact Or.inr (Or.inr rfl)) (hd : (x == ("__debug__" : Str)) = false := by decide)
    (hcd : (x == ("__classdict__" : Str)) = false := by decide) : DE X W (.Name x pos) (dVar i) :=
  de_of (pe_var hN hv hd hcd) fun ρ F G M dW dQ σ H Q P h q => by
    unfold dVar at h
    split at h
    · rename_i d e
      obtain ⟨v, a, b⟩ := P.rs.2 i d e
      exact ⟨v, a, q d M v F H h (Same.refl F) P.ww b⟩
    · exact h.elim
theorem de_int {i j pos} : DE X W (.Constant (.int i) j pos) (dC (.int i)) := de_of pe_int fun ρ F G M dW dQ σ H Q P h q => q _ M _ F H h (Same.refl F) P.ww (.int i)
theorem de_bl {i j pos} : DE X W (.Constant (.bool i) j pos) (dC (.bl i)) := de_of pe_bl fun ρ F G M dW dQ σ H Q P h q => q _ M _ F H h (Same.refl F) P.ww (.bl i)
theorem de_non {j pos} : DE X W (.Constant .none j pos) (dC .non) := de_of pe_non fun ρ F G M dW dQ σ H Q P h q => q _ M _ F H h (Same.refl F) P.ww .non
theorem de_str {i j pos} : DE X W (.Constant (.str i) j pos) (dC (.str i)) := de_of pe_str fun ρ F G M dW dQ σ H Q P h q => q _ M _ F H h (Same.refl F) P.ww (.str i)
/-- a module's constant -/
def KC (K : PySem.W.Frag) (d : D) (u : Value) : Prop := ∃ v : V, RelV v u ∧ ∀ F, RV K F d v
theorem de_glob {x : Str} {d : D} {u : Value} {pos : Pos} (hg : Gl X x) (hm : X.mg x = some u) (r : KC X.K d u) (hd : (x == ("__debug__" : Str)) = false := by decide) : DE X W (.Name x pos) (dC d) := by
  obtain ⟨v, a, b⟩ := r
  exact de_of (pe_glob hg hm a hd) fun ρ F G M dW dQ σ H Q P h q => q _ M _ F H h (Same.refl F) P.ww (b F)

/-! ### two operands -/
def dOp (dr : D → D → MH → DK → Prop) (da db : DTE) : DTE := fun W ρ M Q => da W ρ M fun d1 M1 => db W ρ M1 fun d2 M2 => dr d1 d2 M2 Q
def LkR2 (K : PySem.W.Frag) (r : R2) (dr : D → D → MH → DK → Prop) : Prop := ∀ F G M H d1 d2 v1 v2 dQ Q, WW K F G M H → RV K F d1 v1 → RV K F d2 v2 → dr d1 d2 M dQ → LQ K F G dQ Q → r v1 v2 H Q
variable {a b c : Expr} {da db dc : DTE} {pos : Pos}
theorem op_run {r : R2} {dr : D → D → MH → DK → Prop} (lk : LkR2 K r dr) {da db : DTE} {ρ : DSt} {dW : DWX} {dQ : DK} {σ : L2.St} {Q : VK} (P : Pt K W F G ρ M dW σ H) (h : dOp dr da db dW ρ M dQ) (q : LQ K F G dQ Q) : tOp r (LE K W da) (LE K W db) σ H Q :=
  ⟨ρ, F, G, M, dW, _, P, h, fun d1 M1 v1 F1 H1 h1 s1 w1 r1 => ⟨ρ, F1, G, M1, dW, _, P.step s1 w1, h1, fun d2 M2 v2 F2 H2 h2 s2 w2 r2 =>
    lk F2 G M2 H2 d1 d2 v1 v2 _ _ w2 (r1.mo s2) r2 h2 (q.mo (s1.trans s2))⟩⟩
theorem de_op {op : Operator} {r : R2} {dr : D → D → MH → DK → Prop} (ho : OpR X (binaryOp op) r) (lk : LkR2 X.K r dr) (ha : DE X W a da) (hb : DE X W b db) : DE X W (.BinOp a op b pos) (dOp dr da db) :=
  de_of (pe_op ho ha.pe hb.pe) fun ρ F G M dW dQ σ H Q P h q => op_run lk P h q
theorem de_cmp {op : CmpOp} {r : R2} {dr : D → D → MH → DK → Prop} (ho : OpR X (compareOp op) r) (lk : LkR2 X.K r dr) (ha : DE X W a da) (hb : DE X W b db) (hm : behindInMarks op b = false) : DE X W (.Compare a [op] [b] pos) (dOp dr da db) :=
  de_of (pe_cmpR ho ha.pe hb.pe hm) fun ρ F G M dW dQ σ H Q P h q => op_run lk P h q
/-- an expression that is True or False, as a test -/
def dTest (da : DTE) : DTT := fun W ρ M Q => da W ρ M fun d M1 => match d with
  | .bl k => Q k M1
  | _ => False
theorem dt_cmp {op : CmpOp} {r : R2} {dr : D → D → MH → DK → Prop} (ho : OpR X (compareOp op) r) (lk : LkR2 X.K r dr) (ha : DE X W a da) (hb : DE X W b db) (hm : behindInMarks op b = false) : DT X W (.Compare a [op] [b] pos) (dTest (dOp dr da db)) :=
  dt_of (pt_cmpR ho ha.pe hb.pe hm) fun ρ F G M dW dQ σ H Q P h q => op_run (dQ := fun d M1 => match d with | .bl k => dQ k M1 | _ => False) lk P h fun d M' v F' H' hd s w r => by
    cases r with
    | bl k => exact ⟨k, rfl, q _ _ _ _ hd s w⟩
    | _ => exact hd.elim
theorem dt_val (ha : DE X W a da) (he : ∀ whole, isTrue a X.env whole = (do let v ← whole; standAt a.pos; holding [v] (truthy v)) := by intro _; rfl) : DT X W a (dTest da) :=
  dt_of (pt_val ha.pe he) fun ρ F G M dW dQ σ H Q P h q => ⟨ρ, F, G, M, dW, _, P, h, fun d M' v F' H' hd s w r => by
    cases r with
    | bl k => exact ⟨k, rfl, q _ _ _ _ hd s w⟩
    | _ => exact hd.elim⟩

def drI0 (g : Int → Int → D) : D → D → MH → DK → Prop := fun d1 d2 M Q => match d1, d2 with
  | .int i, .int j => Q (g i j) M
  | _, _ => False
def drI (C : Int → Int → Prop) (g : Int → Int → D) : D → D → MH → DK → Prop := fun d1 d2 M Q => match d1, d2 with
  | .int i, .int j => C i j ∧ Q (g i j) M
  | _, _ => False
theorem lk_int (f : Int → Int → Int) : LkR2 K (rI0 fun i j => .int (f i j)) (drI0 fun i j => .int (f i j)) := by
  intro F G M H d1 d2 v1 v2 dQ Q w r1 r2 h q
  cases r1 <;> cases r2 <;> first | exact h.elim | exact ⟨_, _, rfl, rfl, q _ _ _ _ _ h (Same.refl F) w (.int _)⟩
theorem lk_intb (f : Int → Int → Bool) : LkR2 K (rI0 fun i j => .bl (f i j)) (drI0 fun i j => .bl (f i j)) := by
  intro F G M H d1 d2 v1 v2 dQ Q w r1 r2 h q
  cases r1 <;> cases r2 <;> first | exact h.elim | exact ⟨_, _, rfl, rfl, q _ _ _ _ _ h (Same.refl F) w (.bl _)⟩
theorem lk_intC (C : Int → Int → Prop) (f : Int → Int → Int) : LkR2 K (rI C fun i j => .int (f i j)) (drI C fun i j => .int (f i j)) := by
  intro F G M H d1 d2 v1 v2 dQ Q w r1 r2 h q
  cases r1 <;> cases r2 <;> first | exact h.elim | exact ⟨_, _, rfl, rfl, h.1, q _ _ _ _ _ h.2 (Same.refl F) w (.int _)⟩
def drS (C : Str → Str → Prop) (g : Str → Str → D) : D → D → MH → DK → Prop := fun d1 d2 M Q => match d1, d2 with
  | .str i, .str j => C i j ∧ Q (g i j) M
  | _, _ => False
abbrev dAdd : DTE → DTE → DTE := dOp (drI0 fun i j => .int (i + j))
abbrev dSub : DTE → DTE → DTE := dOp (drI0 fun i j => .int (i - j))
abbrev dMul : DTE → DTE → DTE := dOp (drI CMulW fun i j => .int (i * j))
abbrev dFdiv : DTE → DTE → DTE := dOp (drI CDivW fun i j => .int (i / j))
abbrev dMod : DTE → DTE → DTE := dOp (drI (fun _ j => 0 < j) fun i j => .int (i % j))
abbrev dPow : DTE → DTE → DTE := dOp (drI CPow fun i j => .int (i ^ j.toNat))
abbrev dLt : DTE → DTE → DTE := dOp (drI0 fun i j => .bl (decide (i < j)))
abbrev dLe : DTE → DTE → DTE := dOp (drI0 fun i j => .bl (decide (i ≤ j)))
abbrev dGt : DTE → DTE → DTE := dOp (drI0 fun i j => .bl (decide (j < i)))
abbrev dGe : DTE → DTE → DTE := dOp (drI0 fun i j => .bl (decide (j ≤ i)))
abbrev dCatS : DTE → DTE → DTE := dOp (drS (fun i j => i.length + j.length ≤ 16777216) fun i j => .str (i ++ j))
theorem de_add (ha : DE X W a da) (hb : DE X W b db) : DE X W (.BinOp a .Add b pos) (dAdd da db) := de_op op_add (lk_int _) ha hb
theorem de_sub (ha : DE X W a da) (hb : DE X W b db) : DE X W (.BinOp a .Sub b pos) (dSub da db) := de_op op_sub (lk_int _) ha hb
theorem de_mul (ha : DE X W a da) (hb : DE X W b db) : DE X W (.BinOp a .Mult b pos) (dMul da db) := de_op op_mulW (lk_intC _ _) ha hb
theorem de_fdiv (ha : DE X W a da) (hb : DE X W b db) : DE X W (.BinOp a .FloorDiv b pos) (dFdiv da db) := de_op op_fdivW (lk_intC _ _) ha hb
theorem de_mod (ha : DE X W a da) (hb : DE X W b db) : DE X W (.BinOp a .Mod b pos) (dMod da db) := de_op op_mod (lk_intC _ _) ha hb
theorem de_pow (ha : DE X W a da) (hb : DE X W b db) : DE X W (.BinOp a .Pow b pos) (dPow da db) := de_op op_pow (lk_intC _ _) ha hb
theorem de_lt (ha : DE X W a da) (hb : DE X W b db) : DE X W (.Compare a [.Lt] [b] pos) (dLt da db) := de_cmp op_lt (lk_intb _) ha hb (nomark _)
theorem de_le (ha : DE X W a da) (hb : DE X W b db) : DE X W (.Compare a [.LtE] [b] pos) (dLe da db) := de_cmp op_le (lk_intb _) ha hb (nomark _)
theorem de_gt (ha : DE X W a da) (hb : DE X W b db) : DE X W (.Compare a [.Gt] [b] pos) (dGt da db) := de_cmp op_gt (lk_intb _) ha hb (nomark _)
theorem de_ge (ha : DE X W a da) (hb : DE X W b db) : DE X W (.Compare a [.GtE] [b] pos) (dGe da db) := de_cmp op_ge (lk_intb _) ha hb (nomark _)
theorem dt_lt (ha : DE X W a da) (hb : DE X W b db) : DT X W (.Compare a [.Lt] [b] pos) (dTest (dLt da db)) := dt_cmp op_lt (lk_intb _) ha hb (nomark _)
theorem dt_le (ha : DE X W a da) (hb : DE X W b db) : DT X W (.Compare a [.LtE] [b] pos) (dTest (dLe da db)) := dt_cmp op_le (lk_intb _) ha hb (nomark _)
theorem dt_gt (ha : DE X W a da) (hb : DE X W b db) : DT X W (.Compare a [.Gt] [b] pos) (dTest (dGt da db)) := dt_cmp op_gt (lk_intb _) ha hb (nomark _)
theorem dt_ge (ha : DE X W a da) (hb : DE X W b db) : DT X W (.Compare a [.GtE] [b] pos) (dTest (dGe da db)) := dt_cmp op_ge (lk_intb _) ha hb (nomark _)
theorem line_eq : (16777216 : Nat) = sizeLine := by decide
theorem lk_catS : LkR2 K (fun x y H Q => ∃ i j, x = .str i ∧ y = .str j ∧ i.length + j.length ≤ sizeLine ∧ Q (.str (i ++ j)) H) (drS (fun i j => i.length + j.length ≤ 16777216) fun i j => .str (i ++ j)) := by
  intro F G M H d1 d2 v1 v2 dQ Q w r1 r2 h q
  cases r1 <;> cases r2 <;> first | exact h.elim | exact ⟨_, _, rfl, rfl, by rw [← line_eq]; exact h.1, q _ _ _ _ _ h.2 (Same.refl F) w (.str _)⟩
theorem de_catS (ha : DE X W a da) (hb : DE X W b db) : DE X W (.BinOp a .Add b pos) (dCatS da db) := de_op op_add_str lk_catS ha hb

/-! ### is None -/
def isNonD : D → Bool
  | .non => true
  | _ => false
def dIsN (da : DTE) : DTE := fun W ρ M Q => da W ρ M fun d M1 => Q (.bl (isNonD d)) M1
def dNotN (da : DTE) : DTE := fun W ρ M Q => da W ρ M fun d M1 => Q (.bl (!isNonD d)) M1
theorem non_iff {d : D} {v : V} (r : RV K F d v) : decide (v = .non) = isNonD d := by cases r <;> rfl
theorem de_isN {j p2} (ha : DE X W a da) : DE X W (.Compare a [.Is] [.Constant .none j p2] pos) (dIsN da) :=
  de_of (pe_cmp (pc_isN ha.pe)) fun ρ F G M dW dQ σ H Q P h q => ⟨ρ, F, G, M, dW, _, P, h, fun d M' v F' H' hd s w r => by show Q (.bl (decide (v = .non))) H'; rw [non_iff r]; exact q _ _ _ _ _ hd s w (.bl _)⟩
theorem de_notN {j p2} (ha : DE X W a da) : DE X W (.Compare a [.IsNot] [.Constant .none j p2] pos) (dNotN da) :=
  de_of (pe_cmp (pc_notN ha.pe)) fun ρ F G M dW dQ σ H Q P h q => ⟨ρ, F, G, M, dW, _, P, h, fun d M' v F' H' hd s w r => by show Q (.bl (!decide (v = .non))) H'; rw [non_iff r]; exact q _ _ _ _ _ hd s w (.bl _)⟩
theorem dt_isN {j p2} (ha : DE X W a da) : DT X W (.Compare a [.Is] [.Constant .none j p2] pos) (dTest (dIsN da)) :=
  dt_of (pt_cmp (pc_isN ha.pe)) fun ρ F G M dW dQ σ H Q P h q => ⟨ρ, F, G, M, dW, _, P, h, fun d M' v F' H' hd s w r => ⟨isNonD d, by rw [non_iff r], q _ _ _ _ hd s w⟩⟩
theorem dt_notN {j p2} (ha : DE X W a da) : DT X W (.Compare a [.IsNot] [.Constant .none j p2] pos) (dTest (dNotN da)) :=
  dt_of (pt_cmp (pc_notN ha.pe)) fun ρ F G M dW dQ σ H Q P h q => ⟨ρ, F, G, M, dW, _, P, h, fun d M' v F' H' hd s w r => ⟨!isNonD d, by rw [non_iff r], q _ _ _ _ hd s w⟩⟩

/-! ### and, or, not -/
def dAnd (t u : DTT) : DTT := fun W ρ M Q => t W ρ M fun c M1 => if c = true then u W ρ M1 Q else Q false M1
def dOr (t u : DTT) : DTT := fun W ρ M Q => t W ρ M fun c M1 => if c = true then Q true M1 else u W ρ M1 Q
def dNot (t : DTT) : DTT := fun W ρ M Q => t W ρ M fun c M1 => Q (!c) M1
variable {rest : List Expr} {ta tb : DTT}
theorem dw_and1 (ha : DT X W a ta) : DW X W (.BoolOp .And [a] pos) ta := dw_of (pw_and1 ha.pt) fun ρ F G M dW dQ σ H Q P h q => ⟨ρ, F, G, M, dW, dQ, P, h, q⟩
theorem dw_or1 (ha : DT X W a ta) : DW X W (.BoolOp .Or [a] pos) ta := dw_of (pw_or1 ha.pt) fun ρ F G M dW dQ σ H Q P h q => ⟨ρ, F, G, M, dW, dQ, P, h, q⟩
theorem dw_and (ha : DT X W a ta) (hb : DW X W (.BoolOp .And (b :: rest) pos) tb) : DW X W (.BoolOp .And (a :: b :: rest) pos) (dAnd ta tb) :=
  dw_of (pw_and ha.pt hb.pw) fun ρ F G M dW dQ σ H Q P h q => ⟨ρ, F, G, M, dW, _, P, h, fun k M' F' H' hd s w => by
    cases k with
    | true => rw [if_pos rfl] at hd ⊢; exact ⟨ρ, F', G, M', dW, dQ, P.step s w, hd, q.mo s⟩
    | false => rw [if_neg Bool.false_ne_true] at hd ⊢; exact q _ _ _ _ hd s w⟩
theorem dw_or (ha : DT X W a ta) (hb : DW X W (.BoolOp .Or (b :: rest) pos) tb) : DW X W (.BoolOp .Or (a :: b :: rest) pos) (dOr ta tb) :=
  dw_of (pw_or ha.pt hb.pw) fun ρ F G M dW dQ σ H Q P h q => ⟨ρ, F, G, M, dW, _, P, h, fun k M' F' H' hd s w => by
    cases k with
    | false => rw [if_neg Bool.false_ne_true] at hd ⊢; exact ⟨ρ, F', G, M', dW, dQ, P.step s w, hd, q.mo s⟩
    | true => rw [if_pos rfl] at hd ⊢; exact q _ _ _ _ hd s w⟩
theorem DW.dt (h : DW X W a ta) : DT X W a ta := dt_of h.pw.pt fun ρ F G M dW dQ σ H Q P h q => ⟨ρ, F, G, M, dW, dQ, P, h, q⟩
theorem dt_not (ha : DT X W a ta) : DT X W (.UnaryOp .Not a pos) (dNot ta) :=
  dt_of (pt_not ha.pt) fun ρ F G M dW dQ σ H Q P h q => ⟨ρ, F, G, M, dW, _, P, h, fun k M' F' H' hd s w => q _ _ _ _ hd s w⟩
/-- as values -/
def dAndV (ta tb : DTE) : DTE := fun W ρ M Q => ta W ρ M fun d M1 => match d with
  | .bl c => if c = true then tb W ρ M1 Q else Q (.bl false) M1
  | _ => False
def dOrV (ta tb : DTE) : DTE := fun W ρ M Q => ta W ρ M fun d M1 => match d with
  | .bl c => if c = true then Q (.bl true) M1 else tb W ρ M1 Q
  | _ => False
def dNotV (ta : DTE) : DTE := fun W ρ M Q => ta W ρ M fun d M1 => match d with
  | .bl c => Q (.bl (!c)) M1
  | _ => False
theorem de_one {op} (ha : DE X W a da) : DE X W (.BoolOp op [a] pos) da := de_of (pe_one ha.pe) fun ρ F G M dW dQ σ H Q P h q => ⟨ρ, F, G, M, dW, dQ, P, h, q⟩
theorem de_and (ha : DE X W a da) (hb : DE X W (.BoolOp .And (b :: rest) pos) db) : DE X W (.BoolOp .And (a :: b :: rest) pos) (dAndV da db) :=
  de_of (pe_and ha.pe hb.pe) fun ρ F G M dW dQ σ H Q P h q => ⟨ρ, F, G, M, dW, _, P, h, fun d M' v F' H' hd s w r => by
    cases r with
    | bl k =>
      refine ⟨k, rfl, ?_⟩
      cases k with
      | true => simp only [if_true] at hd ⊢; exact ⟨ρ, F', G, M', dW, dQ, P.step s w, hd, q.mo s⟩
      | false => simp only [Bool.false_eq_true, if_false] at hd ⊢; exact q _ _ _ _ _ hd s w (.bl _)
    | _ => exact hd.elim⟩
theorem de_or (ha : DE X W a da) (hb : DE X W (.BoolOp .Or (b :: rest) pos) db) : DE X W (.BoolOp .Or (a :: b :: rest) pos) (dOrV da db) :=
  de_of (pe_or ha.pe hb.pe) fun ρ F G M dW dQ σ H Q P h q => ⟨ρ, F, G, M, dW, _, P, h, fun d M' v F' H' hd s w r => by
    cases r with
    | bl k =>
      refine ⟨k, rfl, ?_⟩
      cases k with
      | true => simp only [if_true] at hd ⊢; exact q _ _ _ _ _ hd s w (.bl _)
      | false => simp only [Bool.false_eq_true, if_false] at hd ⊢; exact ⟨ρ, F', G, M', dW, dQ, P.step s w, hd, q.mo s⟩
    | _ => exact hd.elim⟩
theorem de_not (ha : DE X W a da) : DE X W (.UnaryOp .Not a pos) (dNotV da) :=
  de_of (pe_not ha.pe) fun ρ F G M dW dQ σ H Q P h q => ⟨ρ, F, G, M, dW, _, P, h, fun d M' v F' H' hd s w r => by
    cases r with
    | bl k => exact ⟨k, rfl, q _ _ _ _ _ hd s w (.bl _)⟩
    | _ => exact hd.elim⟩
def dIf (t : DTT) (ta tb : DTE) : DTE := fun W ρ M Q => t W ρ M fun c M1 => if c = true then ta W ρ M1 Q else tb W ρ M1 Q
theorem de_ifExp (hc : DT X W c ta) (ha : DE X W a da) (hb : DE X W b db) : DE X W (.IfExp c a b pos) (dIf ta da db) :=
  de_of (pe_ifExp hc.pt ha.pe hb.pe) fun ρ F G M dW dQ σ H Q P h q => ⟨ρ, F, G, M, dW, _, P, h, fun k M' F' H' hd s w => by
    cases k with
    | true => rw [if_pos rfl] at hd ⊢; exact ⟨ρ, F', G, M', dW, dQ, P.step s w, hd, q.mo s⟩
    | false => rw [if_neg Bool.false_ne_true] at hd ⊢; exact ⟨ρ, F', G, M', dW, dQ, P.step s w, hd, q.mo s⟩⟩
/-- a < b < c -/
def dChain (dr dr' : D → D → MH → DK → Prop) (da db dc : DTE) : DTE := fun W ρ M Q => da W ρ M fun x M1 => db W ρ M1 fun y M2 => dr x y M2 fun z M3 => match z with
  | .bl k => if k = true then dc W ρ M3 fun u M4 => dr' y u M4 Q else Q (.bl false) M3
  | _ => False
theorem chain_run {r r' : R2} {dr dr' : D → D → MH → DK → Prop} (lk : LkR2 K r dr) (lk' : LkR2 K r' dr') {da db dc : DTE} {ρ : DSt} {dW : DWX} {dQ : DK} {σ : L2.St} {Q : VK} (P : Pt K W F G ρ M dW σ H) (h : dChain dr dr' da db dc dW ρ M dQ) (q : LQ K F G dQ Q) :
    tChain r r' (LE K W da) (LE K W db) (LE K W dc) σ H Q :=
  ⟨ρ, F, G, M, dW, _, P, h, fun d1 M1 v1 F1 H1 h1 s1 w1 r1 => ⟨ρ, F1, G, M1, dW, _, P.step s1 w1, h1, fun d2 M2 v2 F2 H2 h2 s2 w2 r2 =>
    lk F2 G M2 H2 d1 d2 v1 v2 _ _ w2 (r1.mo s2) r2 h2 fun d3 M3 v3 F3 H3 h3 s3 w3 r3 => by
      have s03 := (s1.trans s2).trans s3
      cases r3 with
      | bl k =>
        refine ⟨k, rfl, ?_⟩
        cases k with
        | true =>
          simp only [if_true] at h3 ⊢
          exact ⟨ρ, F3, G, M3, dW, _, P.step s03 w3, h3, fun d4 M4 v4 F4 H4 h4 s4 w4 r4 => lk' F4 G M4 H4 d2 d4 v2 v4 _ _ w4 (r2.mo (s3.trans s4)) r4 h4 (q.mo (s03.trans s4))⟩
        | false => simp only [Bool.false_eq_true, if_false] at h3 ⊢; exact q _ _ _ _ _ h3 s03 w3 (.bl _)
      | _ => exact h3.elim⟩⟩
theorem de_chain {op op' : CmpOp} {r r' : R2} {dr dr' : D → D → MH → DK → Prop} (ho : OpR X (compareOp op) r) (ho' : OpR X (compareOp op') r') (lk : LkR2 X.K r dr) (lk' : LkR2 X.K r' dr') (ha : DE X W a da) (hb : DE X W b db) (hc : DE X W c dc)
    (hm : lastMarks [op, op'] [b, c] = false := by with_unfolding_all rfl) : DE X W (.Compare a [op, op'] [b, c] pos) (dChain dr dr' da db dc) :=
  de_of (pe_chain ho ho' ha.pe hb.pe hc.pe hm) fun ρ F G M dW dQ σ H Q P h q => chain_run lk lk' P h q
theorem dt_chain {op op' : CmpOp} {r r' : R2} {dr dr' : D → D → MH → DK → Prop} (ho : OpR X (compareOp op) r) (ho' : OpR X (compareOp op') r') (lk : LkR2 X.K r dr) (lk' : LkR2 X.K r' dr') (ha : DE X W a da) (hb : DE X W b db) (hc : DE X W c dc)
    (hm : lastMarks [op, op'] [b, c] = false := by with_unfolding_all rfl) : DT X W (.Compare a [op, op'] [b, c] pos) (dTest (dChain dr dr' da db dc)) :=
  dt_of (pt_chain ho ho' ha.pe hb.pe hc.pe hm) fun ρ F G M dW dQ σ H Q P h q => chain_run (dQ := fun d M1 => match d with | .bl k => dQ k M1 | _ => False) lk lk' P h fun d M' v F' H' hd s w r => by
    cases r with
    | bl k => exact ⟨k, rfl, q _ _ _ _ hd s w⟩
    | _ => exact hd.elim
end
end DL

/-! The deep layer, part 3: displays, sequences, built-ins. -/
namespace DL
open PySem L2

section
variable {K : PySem.W.Frag} {F G H : Hp} {M : MH}
/-- the items of a list that is read -/
def lstOf (M : MH) : D → Option (List D)
  | .lst ds => some ds
  | .scr ds => some ds
  | .ref a => match M a with
    | some (.lst ds) => some ds
    | _ => none
  | _ => none
def seqOf (M : MH) : D → Option (List D)
  | .tup ds => some ds
  | d => lstOf M d
theorem lst_view {d : D} {v : V} {ds : List D} (w : WW K F G M H) (r : RV K F d v) (e : lstOf M d = some ds) : ∃ a vs, v = .ref a ∧ SqL K H a vs ∧ RVs K F ds vs := by
  cases r with
  | lst q rs => cases e; exact ⟨_, _, rfl, SqL.of (w.fr _ _ q), rs⟩
  | scr q rs => cases e; exact ⟨_, _, rfl, sqL_mono w.fr q, rs⟩
  | ref a =>
    have e' : (match M a with | some (.lst ds) => some ds | _ => none) = some ds := e
    have hm : M a = some (.lst ds) := by
      split at e'
      · rename_i hm; cases e'; exact hm
      · cases e'
    obtain ⟨_, _, vs, hv, rs⟩ := w.mu _ _ hm
    exact ⟨_, vs, rfl, SqL.of hv, rs⟩
  | _ => cases e
/-- a list that stands in the heap by itself -/
def ownOf (M : MH) : D → Option (List D)
  | .lst ds => some ds
  | .ref a => match M a with
    | some (.lst ds) => some ds
    | _ => none
  | _ => none
theorem own_view {d : D} {v : V} {ds : List D} (w : WW K F G M H) (r : RV K F d v) (e : ownOf M d = some ds) : ∃ a vs, v = .ref a ∧ H a = some (.lst vs) ∧ RVs K F ds vs := by
  cases r with
  | lst q rs => cases e; exact ⟨_, _, rfl, w.fr _ _ q, rs⟩
  | ref a =>
    have e' : (match M a with | some (.lst ds) => some ds | _ => none) = some ds := e
    have hm : M a = some (.lst ds) := by
      split at e'
      · rename_i hm; cases e'; exact hm
      · cases e'
    obtain ⟨_, _, vs, hv, rs⟩ := w.mu _ _ hm
    exact ⟨_, vs, rfl, hv, rs⟩
  | _ => cases e
theorem tup_view {ds : List D} {v : V} (w : WW K F G M H) (r : RV K F (.tup ds) v) : ∃ a vs, v = .ref a ∧ SqT K H a vs ∧ RVs K F ds vs := by
  cases r with
  | tup q rs => exact ⟨_, _, rfl, sqT_mono w.fr q, rs⟩
theorem seq_view {d : D} {v : V} {ds : List D} (w : WW K F G M H) (r : RV K F d v) (e : seqOf M d = some ds) : ∃ a vs, v = .ref a ∧ (SqL K H a vs ∨ SqT K H a vs) ∧ RVs K F ds vs := by
  cases d with
  | tup l =>
    cases e
    obtain ⟨a, vs, h1, h2, h3⟩ := tup_view w r
    exact ⟨a, vs, h1, .inr h2, h3⟩
  | _ =>
    obtain ⟨a, vs, h1, h2, h3⟩ := lst_view w r e
    exact ⟨a, vs, h1, .inl h2, h3⟩
end

section
variable {X : Cx} {W : WX} {K : PySem.W.Frag} {F G H : Hp} {M : MH} {e o : Expr} {es : List Expr} {de do' : DTE} {dt : DTA} {pos : Pos}

/-! ### arguments, displays -/
def dNil : DTA := fun _ _ M Q => Q [] M
def dCons (de : DTE) (dr : DTA) : DTA := fun W ρ M Q => de W ρ M fun d M1 => dr W ρ M1 fun ds M2 => Q (d :: ds) M2
theorem da_nil : DA X W [] dNil := da_of pa_nil fun ρ F G M dW dQ σ H Q P h q => q _ _ _ F H h (Same.refl F) P.ww .nil
theorem da_cons (ha : DE X W e de) (hr : DA X W es dt) (hs : starEach (e :: es) X.env = (false, eval e X.env) :: starEach es X.env := by rfl) : DA X W (e :: es) (dCons de dt) :=
  da_of (pa_cons ha.pe hr.pa hs) fun ρ F G M dW dQ σ H Q P h q => ⟨ρ, F, G, M, dW, _, P, h, fun d1 M1 v1 F1 H1 h1 s1 w1 r1 => ⟨ρ, F1, G, M1, dW, _, P.step s1 w1, h1, fun ds M2 vs F2 H2 h2 s2 w2 r2 =>
    q _ _ _ _ _ h2 (s1.trans s2) w2 (.cons (r1.mo s2) r2)⟩⟩
def dTup (dt : DTA) : DTE := fun W ρ M Q => dt W ρ M fun ds M1 => ds.length ≤ 16777216 ∧ Q (.tup ds) M1
def dLst (dt : DTA) : DTE := fun W ρ M Q => dt W ρ M fun ds M1 => ds.length ≤ 16777216 ∧ Q (.lst ds) M1
def dLstM (dt : DTA) : DTE := fun W ρ M Q => dt W ρ M fun ds M1 => ds.length ≤ 16777216 ∧ ∀ p, M1 p = none → Q (.ref p) (updM M1 p (.lst ds))
theorem LQ.newT {dQ : DK} {Q : VK} (q : LQ K F G dQ Q) {ds : List D} {vs : List V} (w : WW K F G M H) (r : RVs K F ds vs) (h : dQ (.tup ds) M) {p : Addr} (hp : H p = none) : Q (.ref p) (upd H p (.tup vs)) :=
  q _ _ _ _ _ h (same_upd (w.freeF hp)) (w.new hp _) (.tup (SqT.of upd_same) (r.mo (same_upd (w.freeF hp))))
theorem LQ.newL {dQ : DK} {Q : VK} (q : LQ K F G dQ Q) {ds : List D} {vs : List V} (w : WW K F G M H) (r : RVs K F ds vs) (h : dQ (.lst ds) M) {p : Addr} (hp : H p = none) : Q (.ref p) (upd H p (.lst vs)) :=
  q _ _ _ _ _ h (same_upd (w.freeF hp)) (w.new hp _) (.lst upd_same (r.mo (same_upd (w.freeF hp))))
theorem LQ.newLM {dQ : DK} {Q : VK} (q : LQ K F G dQ Q) {ds : List D} {vs : List V} (w : WW K F G M H) (r : RVs K F ds vs) (h : ∀ p, M p = none → dQ (.ref p) (updM M p (.lst ds))) {p : Addr} (hp : H p = none) : Q (.ref p) (upd H p (.lst vs)) :=
  q _ _ _ _ _ (h p (w.freeM hp)) (Same.refl F) (w.newM hp _ (.lst ds) ⟨vs, upd_same, r⟩) (.ref p)
theorem de_tup {x1} (h : DA X W es dt) : DE X W (.Tuple es x1 pos) (dTup dt) :=
  de_of (pe_tup h.pa) fun ρ F G M dW dQ σ H Q P h q => ⟨ρ, F, G, M, dW, _, P, h, fun ds M1 vs F1 H1 h1 s1 w1 r1 => ⟨by rw [← r1.len, ← line_eq]; exact h1.1, fun p hp => (q.mo s1).newT w1 r1 h1.2 hp⟩⟩
theorem de_lst (h : DA X W es dt) : DE X W (.List es pos) (dLst dt) :=
  de_of (pe_lst h.pa) fun ρ F G M dW dQ σ H Q P h q => ⟨ρ, F, G, M, dW, _, P, h, fun ds M1 vs F1 H1 h1 s1 w1 r1 => ⟨by rw [← r1.len, ← line_eq]; exact h1.1, fun p hp => (q.mo s1).newL w1 r1 h1.2 hp⟩⟩
theorem de_lstM (h : DA X W es dt) : DE X W (.List es pos) (dLstM dt) :=
  de_of (pe_lst h.pa) fun ρ F G M dW dQ σ H Q P h q => ⟨ρ, F, G, M, dW, _, P, h, fun ds M1 vs F1 H1 h1 s1 w1 r1 => ⟨by rw [← r1.len, ← line_eq]; exact h1.1, fun p hp => (q.mo s1).newLM w1 r1 h1.2 hp⟩⟩
/-- a name whose list stands still from here on -/
def dFrz (da : DTE) : DTE := fun W ρ M Q => da W ρ M fun d M1 => match d with
  | .ref a => match M1 a with
    | some (.lst ds) => Q (.lst ds) (delM M1 a)
    | _ => False
  | _ => False
theorem de_frz (h : DE X W e de) : DE X W e (dFrz de) :=
  de_of h.pe fun ρ F G M dW dQ σ H Q P h q => ⟨ρ, F, G, M, dW, _, P, h, fun d M1 v F1 H1 h1 s1 w1 r1 => by
    cases r1 with
    | ref a =>
      simp only at h1
      split at h1
      · rename_i ds hm
        obtain ⟨vs, s2, w2, r2⟩ := w1.freeze hm
        exact q _ _ _ _ _ h1 (s1.trans s2) w2 r2
      · exact h1.elim
    | _ => exact h1.elim⟩

/-! ### items -/
def dIx (da db : DTE) : DTE := dOp (fun d1 d2 M Q => match d2 with
  | .int i => match seqOf M d1 with
    | some ds => match atI ds i with
      | some d => Q d M
      | none => False
    | none => False
  | _ => False) da db
/-- by a written number from 0 on -/
def dIxC (k : Nat) (da : DTE) : DTE := fun W ρ M Q => da W ρ M fun d M1 => match d with
  | .str z => match z.cps.toList[k]? with
    | some c => z.length ≤ 16777216 ∧ Q (.str ⟨#[c]⟩) M1
    | none => False
  | d => match seqOf M1 d with
    | some ds => match ds[k]? with
      | some d => Q d M1
      | none => False
    | none => False
theorem atI_rv {ds : List D} {vs : List V} (r : RVs K F ds vs) {i : Int} {d : D} (e : atI ds i = some d) : ∃ v, atI vs i = some v ∧ RV K F d v := by
  unfold atI at e ⊢
  rw [← r.len]
  cases h : ixN ds.length i with
  | none => rw [h] at e; cases e
  | some j =>
    rw [h] at e
    exact r.get e
theorem de_ix {a b : Expr} {da db : DTE} (ha : DE X W a da) (hb : DE X W b db) (hs : PlainIx b := by exact fun _ _ => rfl) : DE X W (.Subscript a b pos) (dIx da db) :=
  de_of (pe_ix ix_seq ha.pe hb.pe hs) fun ρ F G M dW dQ σ H Q P h q => op_run (fun F G M H d1 d2 v1 v2 dQ Q w r1 r2 h q => by
    cases r2 with
    | int i =>
      simp only at h
      split at h
      · rename_i ds es
        split at h
        · rename_i d ed
          obtain ⟨a, vs, rfl, hq, rs⟩ := seq_view w r1 es
          obtain ⟨v, h1, h2⟩ := atI_rv rs ed
          have fin : Q v H := q _ _ _ _ _ h (Same.refl F) w h2
          rcases hq with hq | hq
          · exact .inl ⟨a, vs, i, v, rfl, rfl, hq, h1, fin⟩
          · exact .inr (.inl ⟨a, vs, i, v, rfl, rfl, hq, h1, fin⟩)
        · exact h.elim
      · exact h.elim
    | _ => exact h.elim) P h q
theorem de_ixC {a : Expr} {da : DTE} {k : Nat} {j p2} (ha : DE X W a da) (hs : PlainIx (.Constant (.int (k : Int)) j p2) := by exact fun _ _ => rfl) : DE X W (.Subscript a (.Constant (.int (k : Int)) j p2) pos) (dIxC k da) :=
  de_of (pe_ix ix_seq ha.pe pe_int hs) fun ρ F G M dW dQ σ H Q P h q => ⟨ρ, F, G, M, dW, _, P, h, fun d1 M1 v1 F1 H1 h1 s1 w1 r1 => by
    split at h1
    · split at h1
      · rename_i c ec
        cases r1
        exact .inr (.inr ⟨_, k, c, rfl, rfl, by rw [← line_eq]; exact h1.1, atI_nat ec, q _ _ _ _ _ h1.2 s1 w1 (.str _)⟩)
      · exact h1.elim
    · split at h1
      case h_2 => exact h1.elim
      rename_i ds es
      split at h1
      · rename_i d ed
        obtain ⟨a, vs, rfl, hq, rs⟩ := seq_view w1 r1 es
        obtain ⟨v, q1, q2⟩ := rs.get ed
        have fin : Q v H1 := q _ _ _ _ _ h1 s1 w1 q2
        rcases hq with hq | hq
        · exact .inl ⟨a, vs, k, v, rfl, rfl, hq, atI_nat q1, fin⟩
        · exact .inr (.inl ⟨a, vs, k, v, rfl, rfl, hq, atI_nat q1, fin⟩)
      · exact h1.elim⟩
/-- one sign of a text -/
def dIxS (da db : DTE) : DTE := dOp (fun d1 d2 M Q => match d1, d2 with
  | .str z, .int i => match atI z.cps.toList i with
    | some c => z.length ≤ 16777216 ∧ Q (.str ⟨#[c]⟩) M
    | none => False
  | _, _ => False) da db
theorem de_ixS {a b : Expr} {da db : DTE} (ha : DE X W a da) (hb : DE X W b db) (hs : PlainIx b := by exact fun _ _ => rfl) : DE X W (.Subscript a b pos) (dIxS da db) :=
  de_of (pe_ix ix_str ha.pe hb.pe hs) fun ρ F G M dW dQ σ H Q P h q => op_run (fun F G M H d1 d2 v1 v2 dQ Q w r1 r2 h q => by
    cases r1 <;> cases r2 <;> try (exact h.elim)
    simp only at h
    split at h
    · rename_i c ec
      exact ⟨_, _, c, rfl, rfl, by rw [← line_eq]; exact h.1, ec, q _ _ _ _ _ h.2 (Same.refl F) w (.str _)⟩
    · exact h.elim) P h q

/-! ### parts -/
abbrev DTO := DWX → DSt → MH → (Option Int → MH → Prop) → Prop
def LO (K : PySem.W.Frag) (W : WX) (dt : DTO) : TO := fun σ H Q => ∃ ρ F G M dW dQ, Pt K W F G ρ M dW σ H ∧ dt dW ρ M dQ ∧ ∀ i M F' H', dQ i M → Same F F' → WW K F' G M H' → Q i H'
structure DO (X : Cx) (W : WX) (e : Option Expr) (dt : DTO) : Prop where
  po : PO X e (LO X.K W dt)
def dNoPart : DTO := fun _ _ M Q => Q none M
def dPart (da : DTE) : DTO := fun W ρ M Q => da W ρ M fun d M1 => match d with
  | .int i => Q (some i) M1
  | _ => False
theorem po_imp {X : Cx} {e : Option Expr} {t t' : TO} (h : PO X e t) (i : ∀ σ H Q, t' σ H Q → t σ H Q) : PO X e t' := by
  obtain ⟨run⟩ := h
  exact ⟨fun pins s σ H Q I q => run pins s σ H Q I (i σ H Q q)⟩
theorem do_none : DO X W none dNoPart := ⟨po_imp po_none fun σ H Q ⟨ρ, F, G, M, dW, dQ, P, h, q⟩ => q none M F H h (Same.refl F) P.ww⟩
theorem do_some (h : DE X W e de) : DO X W (some e) (dPart de) := ⟨po_imp (po_some h.pe) fun σ H Q ⟨ρ, F, G, M, dW, dQ, P, h, q⟩ => ⟨ρ, F, G, M, dW, _, P, h, fun d M1 v F1 H1 h1 s1 w1 r1 => by
    cases r1 with
    | int i => exact ⟨i, rfl, q _ _ _ _ h1 s1 w1⟩
    | _ => exact h1.elim⟩⟩
def cutD {α : Type} (xs : List α) (lo hi : Option Int) : List α := (xs.drop (HT.sIx xs.length 0 lo)).take (HT.sIx xs.length xs.length hi - HT.sIx xs.length 0 lo)
def dSl (dr : D → Option Int → Option Int → MH → DK → Prop) (de : DTE) (dl dh : DTO) : DTE := fun W ρ M Q => de W ρ M fun d M1 => dl W ρ M1 fun l M2 => dh W ρ M2 fun u M3 => dr d l u M3 Q
def LkSl (K : PySem.W.Frag) (r : V → Option Int → Option Int → Hp → VK → Prop) (dr : D → Option Int → Option Int → MH → DK → Prop) : Prop := ∀ F G M H d v l u dQ Q, WW K F G M H → RV K F d v → dr d l u M dQ → LQ K F G dQ Q → r v l u H Q
theorem de_slice {r : V → Option Int → Option Int → Hp → VK → Prop} {dr : D → Option Int → Option Int → MH → DK → Prop} {lo hi : Option Expr} {dl dh : DTO} {p2 : Pos} (hr : SlR X r) (lk : LkSl X.K r dr) (he : DE X W e de) (hl : DO X W lo dl) (hu : DO X W hi dh) :
    DE X W (.Subscript e (.Slice lo hi none p2) pos) (dSl dr de dl dh) :=
  de_of (pe_slice hr he.pe hl.po hu.po) fun ρ F G M dW dQ σ H Q P h q => ⟨ρ, F, G, M, dW, _, P, h, fun d M1 v F1 H1 h1 s1 w1 r1 => ⟨ρ, F1, G, M1, dW, _, P.step s1 w1, h1, fun l M2 F2 H2 h2 s2 w2 =>
    ⟨ρ, F2, G, M2, dW, _, P.step (s1.trans s2) w2, h2, fun u M3 F3 H3 h3 s3 w3 => lk F3 G M3 H3 d v l u _ _ w3 (r1.mo (s2.trans s3)) h3 (q.mo ((s1.trans s2).trans s3))⟩⟩⟩
theorem cut_rv {ds : List D} {vs : List V} (r : RVs K F ds vs) (lo hi : Option Int) : RVs K F (cutD ds lo hi) (cutV vs lo hi) := by
  unfold cutD cutV
  rw [r.len]
  exact (r.drop _).take _
/-- of a list: a new list -/
theorem lk_slL : LkSl K (rSlL K) (fun d l u M Q => match lstOf M d with | some ds => Q (.lst (cutD ds l u)) M | none => False) := by
  intro F G M H d v l u dQ Q w r h q
  split at h
  · rename_i ds es
    obtain ⟨a, vs, rfl, hq, rs⟩ := lst_view w r es
    exact ⟨a, vs, rfl, hq, fun p hp => q.newL w (cut_rv rs l u) h hp⟩
  · exact h.elim
theorem de_slL {lo hi : Option Expr} {dl dh : DTO} {p2 : Pos} (he : DE X W e de) (hl : DO X W lo dl) (hu : DO X W hi dh) : DE X W (.Subscript e (.Slice lo hi none p2) pos) (dSl (fun d l u M Q => match lstOf M d with | some ds => Q (.lst (cutD ds l u)) M | none => False) de dl dh) :=
  de_slice sl_list lk_slL he hl hu

/-! ### built-ins by values -/
def LkC (K : PySem.W.Frag) (r : List V → Hp → VK → Prop) (dr : List D → MH → DK → Prop) : Prop := ∀ F G M H ds vs dQ Q, WW K F G M H → RVs K F ds vs → dr ds M dQ → LQ K F G dQ Q → r vs H Q
def dCB (dr : List D → MH → DK → Prop) (dt : DTA) : DTE := fun W ρ M Q => dt W ρ M fun ds M1 => dr ds M1 Q
variable {x : Str} {p : Pos} {id T : String} {r : List V → Hp → VK → Prop} {dr : List D → MH → DK → Prop}
theorem cb_run (lk : LkC K r dr) {ρ : DSt} {dW : DWX} {dQ : DK} {σ : L2.St} {Q : VK} (P : Pt K W F G ρ M dW σ H) (h : dCB dr dt dW ρ M dQ) (q : LQ K F G dQ Q) : tCB r (LA K W dt) σ H Q :=
  ⟨ρ, F, G, M, dW, _, P, h, fun ds M1 vs F1 H1 h1 s1 w1 r1 => lk F1 G M1 H1 ds vs _ _ w1 r1 h1 (q.mo s1)⟩
theorem de_callB (hc : CallR X (.builtin id) r) (lk : LkC X.K r dr) (hm : X.mg x = none) (hv : bootBuiltins x = some (.builtin id)) (ha : DA X W (e :: es) dt) (hg : Gl X x := by rfl) (hn : x ≠ "__name__" := by decide) (hdb : (x == ("__debug__" : Str)) = false := by decide)
    (he : starEach (e :: es) X.env = (false, eval e X.env) :: starEach es X.env := by rfl) (hpl : (backTo pos (starEach es X.env)).any (·.1) = false := by rfl) : DE X W (.Call (.Name x p) (e :: es) [] pos) (dCB dr dt) :=
  de_of (pe_callB hc hg hm hv ha.pa hn hdb he hpl) fun ρ F G M dW dQ σ H Q P h q => cb_run lk P h q
theorem de_callTy (hc : CallR X (.type T) r) (lk : LkC X.K r dr) (hm : X.mg x = none) (hv : bootBuiltins x = some (.type T)) (ha : DA X W (e :: es) dt) (hg : Gl X x := by rfl) (hn : x ≠ "__name__" := by decide) (hdb : (x == ("__debug__" : Str)) = false := by decide)
    (he : starEach (e :: es) X.env = (false, eval e X.env) :: starEach es X.env := by rfl) (hpl : (backTo pos (starEach es X.env)).any (·.1) = false := by rfl) : DE X W (.Call (.Name x p) (e :: es) [] pos) (dCB dr dt) :=
  de_of (pe_callTy hc hg hm hv ha.pa hn hdb he hpl) fun ρ F G M dW dQ σ H Q P h q => cb_run lk P h q
theorem RVs.inv1 {d : D} {vs : List V} (h : RVs K F [d] vs) : ∃ v, vs = [v] ∧ RV K F d v := by
  cases h with
  | cons a b => cases b; exact ⟨_, rfl, a⟩
theorem RVs.inv2 {d e : D} {vs : List V} (h : RVs K F [d, e] vs) : ∃ v w, vs = [v, w] ∧ RV K F d v ∧ RV K F e w := by
  cases h with
  | cons a b => cases b with | cons c d => cases d; exact ⟨_, _, rfl, a, c⟩
/-- len -/
def drLen : List D → MH → DK → Prop := fun ds M Q => match ds with
  | [.str z] => z.length ≤ 16777216 ∧ Q (.int z.length) M
  | [d] => match seqOf M d with
    | some l => Q (.int l.length) M
    | none => False
  | _ => False
theorem lk_len : LkC K (fun xs H Q => (∃ p ys, xs = [.ref p] ∧ (SqL K H p ys ∨ SqT K H p ys) ∧ Q (.int ys.length) H) ∨ ∃ z, xs = [.str z] ∧ z.length ≤ sizeLine ∧ Q (.int z.length) H) drLen := by
  intro F G M H ds vs dQ Q w r h q
  unfold drLen at h
  split at h
  · rename_i z
    obtain ⟨v, rfl, rv⟩ := r.inv1
    cases rv
    exact .inr ⟨z, rfl, by rw [← line_eq]; exact h.1, q _ _ _ _ _ h.2 (Same.refl F) w (.int _)⟩
  · rename_i d _
    obtain ⟨v, rfl, rv⟩ := r.inv1
    split at h
    · rename_i l el
      obtain ⟨a, vs, rfl, hq, rs⟩ := seq_view w rv el
      exact .inl ⟨a, vs, rfl, hq, by rw [← rs.len]; exact q _ _ _ _ _ h (Same.refl F) w (.int _)⟩
    · exact h.elim
  · exact h.elim
theorem call_lenA : CallR X (.builtin "len") (fun xs H Q => (∃ p ys, xs = [.ref p] ∧ (SqL X.K H p ys ∨ SqT X.K H p ys) ∧ Q (.int ys.length) H) ∨ ∃ z, xs = [.str z] ∧ z.length ≤ sizeLine ∧ Q (.int z.length) H) := call_len_seq.or call_len_str
/-- abs, int -/
def drAbs : List D → MH → DK → Prop := fun ds M Q => match ds with
  | [.int i] => Q (.int (if i < 0 then -i else i)) M
  | _ => False
theorem lk_abs : LkC K (fun xs H Q => ∃ i, xs = [.int i] ∧ Q (.int (if i < 0 then -i else i)) H) drAbs := by
  intro F G M H ds vs dQ Q w r h q
  unfold drAbs at h
  split at h
  · obtain ⟨v, rfl, rv⟩ := r.inv1
    cases rv
    exact ⟨_, rfl, q _ _ _ _ _ h (Same.refl F) w (.int _)⟩
  · exact h.elim
def drInt : List D → MH → DK → Prop := fun ds M Q => match ds with
  | [.int i] => Q (.int i) M
  | [.bl k] => Q (.int (if k then 1 else 0)) M
  | _ => False
theorem lk_int1 : LkC K (fun xs H Q => (∃ i, xs = [.int i] ∧ Q (.int i) H) ∨ ∃ k, xs = [.bl k] ∧ Q (.int (if k then 1 else 0)) H) drInt := by
  intro F G M H ds vs dQ Q w r h q
  unfold drInt at h
  split at h
  · obtain ⟨v, rfl, rv⟩ := r.inv1
    cases rv
    exact .inl ⟨_, rfl, q _ _ _ _ _ h (Same.refl F) w (.int _)⟩
  · obtain ⟨v, rfl, rv⟩ := r.inv1
    cases rv
    exact .inr ⟨_, rfl, q _ _ _ _ _ h (Same.refl F) w (.int _)⟩
  · exact h.elim
def drIntS : List D → MH → DK → Prop := fun ds M Q => match ds with
  | [.str a] => ∃ n, PySem.intText? a = some n ∧ a.length ≤ 640 ∧ Q (.int n) M
  | _ => False
theorem lk_intS : LkC K (fun xs H Q => ∃ a n, xs = [.str a] ∧ PySem.intText? a = some n ∧ a.length ≤ 640 ∧ Q (.int n) H) drIntS := by
  intro F G M H ds vs dQ Q w r h q
  unfold drIntS at h
  split at h
  · obtain ⟨v, rfl, rv⟩ := r.inv1
    cases rv
    obtain ⟨n, h1, h2, h3⟩ := h
    exact ⟨_, n, rfl, h1, h2, q _ _ _ _ _ h3 (Same.refl F) w (.int _)⟩
  · exact h.elim
def drStr : List D → MH → DK → Prop := fun ds M Q => match ds with
  | [.str a] => Q (.str a) M
  | [.int i] => i.natAbs.log2 < 1920 ∧ Q (.str (toString i)) M
  | _ => False
theorem call_strD : CallR X (.type "str") (fun xs H Q => (∃ i, xs = [.int i] ∧ i.natAbs.log2 < 1920 ∧ Q (.str (toString i)) H) ∨ (∃ a, xs = [.str a] ∧ Q (.str a) H)) := call_str_int.or SkE.call_str_str
theorem lk_str : LkC K (fun xs H Q => (∃ i, xs = [.int i] ∧ i.natAbs.log2 < 1920 ∧ Q (.str (toString i)) H) ∨ (∃ a, xs = [.str a] ∧ Q (.str a) H)) drStr := by
  intro F G M H ds vs dQ Q w r h q
  unfold drStr at h
  split at h
  · obtain ⟨v, rfl, rv⟩ := r.inv1
    cases rv
    exact .inr ⟨_, rfl, q _ _ _ _ _ h (Same.refl F) w (.str _)⟩
  · obtain ⟨v, rfl, rv⟩ := r.inv1
    cases rv
    exact .inl ⟨_, rfl, h.1, q _ _ _ _ _ h.2 (Same.refl F) w (.str _)⟩
  · exact h.elim
def dr2I (f : Int → Int → Int) : List D → MH → DK → Prop := fun ds M Q => match ds with
  | [.int i, .int j] => Q (.int (f i j)) M
  | _ => False
theorem lk_2I (f : Int → Int → Int) : LkC K (fun xs H Q => ∃ i j, xs = [.int i, .int j] ∧ Q (.int (f i j)) H) (dr2I f) := by
  intro F G M H ds vs dQ Q w r h q
  unfold dr2I at h
  split at h
  · obtain ⟨v, u, rfl, rv, ru⟩ := r.inv2
    cases rv
    cases ru
    exact ⟨_, _, rfl, q _ _ _ _ _ h (Same.refl F) w (.int _)⟩
  · exact h.elim
/-- tuple(list), list(sequence) -/
def drTuple : List D → MH → DK → Prop := fun ds M Q => match ds with
  | [.tup l] => Q (.tup l) M
  | [d] => match lstOf M d with
    | some l => Q (.tup l) M
    | none => False
  | _ => False
theorem lk_tuple : LkC K (fun xs H Q => ∃ p ys, xs = [.ref p] ∧ ((SqL K H p ys ∧ ∀ l, H l = none → Q (.ref l) (upd H l (.tup ys))) ∨ (SqT K H p ys ∧ Q (.ref p) H))) drTuple := by
  intro F G M H ds vs dQ Q w r h q
  unfold drTuple at h
  split at h
  · obtain ⟨v, rfl, rv⟩ := r.inv1
    obtain ⟨a, vs, rfl, hq, rs⟩ := tup_view w rv
    exact ⟨a, vs, rfl, .inr ⟨hq, q _ _ _ _ _ h (Same.refl F) w rv⟩⟩
  · obtain ⟨v, rfl, rv⟩ := r.inv1
    split at h
    · rename_i l el
      obtain ⟨a, vs, rfl, hq, rs⟩ := lst_view w rv el
      exact ⟨a, vs, rfl, .inl ⟨hq, fun p hp => q.newT w rs h hp⟩⟩
    · exact h.elim
  · exact h.elim
def drList : List D → MH → DK → Prop := fun ds M Q => match ds with
  | [d] => match seqOf M d with
    | some l => Q (.lst l) M
    | none => False
  | _ => False
def drListM : List D → MH → DK → Prop := fun ds M Q => match ds with
  | [d] => match seqOf M d with
    | some l => ∀ p, M p = none → Q (.ref p) (updM M p (.lst l))
    | none => False
  | _ => False
theorem lk_list : LkC K (fun xs H Q => ∃ p ys, xs = [.ref p] ∧ (SqL K H p ys ∨ SqT K H p ys) ∧ ∀ l, H l = none → Q (.ref l) (upd H l (.lst ys))) drList := by
  intro F G M H ds vs dQ Q w r h q
  unfold drList at h
  split at h
  · obtain ⟨v, rfl, rv⟩ := r.inv1
    split at h
    · rename_i l el
      obtain ⟨a, vs, rfl, hq, rs⟩ := seq_view w rv el
      exact ⟨a, vs, rfl, hq, fun p hp => q.newL w rs h hp⟩
    · exact h.elim
  · exact h.elim
theorem lk_listM : LkC K (fun xs H Q => ∃ p ys, xs = [.ref p] ∧ (SqL K H p ys ∨ SqT K H p ys) ∧ ∀ l, H l = none → Q (.ref l) (upd H l (.lst ys))) drListM := by
  intro F G M H ds vs dQ Q w r h q
  unfold drListM at h
  split at h
  · obtain ⟨v, rfl, rv⟩ := r.inv1
    split at h
    · rename_i l el
      obtain ⟨a, vs, rfl, hq, rs⟩ := seq_view w rv el
      exact ⟨a, vs, rfl, hq, fun p hp => q.newLM w rs h hp⟩
    · exact h.elim
  · exact h.elim
/-- all, any of truths; sum of numbers -/
def blsOf : List D → Option (List Bool)
  | [] => some []
  | .bl b :: r => (blsOf r).map (b :: ·)
  | _ => none
def intsOf : List D → Option (List Int)
  | [] => some []
  | .int b :: r => (intsOf r).map (b :: ·)
  | _ => none
def strsOf : List D → Option (List Str)
  | [] => some []
  | .str b :: r => (strsOf r).map (b :: ·)
  | _ => none
theorem blsOf_eq : ∀ {ds : List D} {bs : List Bool}, blsOf ds = some bs → ds = bs.map D.bl
  | [], _, h => by cases h; rfl
  | d :: r, bs, h => by
    cases d <;> simp only [blsOf] at h <;> try (cases h)
    cases e : blsOf r with
    | none => rw [e] at h; cases h
    | some l => rw [e] at h; cases h; rw [blsOf_eq e]; rfl
theorem intsOf_eq : ∀ {ds : List D} {bs : List Int}, intsOf ds = some bs → ds = bs.map D.int
  | [], _, h => by cases h; rfl
  | d :: r, bs, h => by
    cases d <;> simp only [intsOf] at h <;> try (cases h)
    cases e : intsOf r with
    | none => rw [e] at h; cases h
    | some l => rw [e] at h; cases h; rw [intsOf_eq e]; rfl
theorem strsOf_eq : ∀ {ds : List D} {bs : List Str}, strsOf ds = some bs → ds = bs.map D.str
  | [], _, h => by cases h; rfl
  | d :: r, bs, h => by
    cases d <;> simp only [strsOf] at h <;> try (cases h)
    cases e : strsOf r with
    | none => rw [e] at h; cases h
    | some l => rw [e] at h; cases h; rw [strsOf_eq e]; rfl
theorem blsOf_map : ∀ bs : List Bool, blsOf (bs.map D.bl) = some bs
  | [] => rfl
  | b :: r => by simp [blsOf, blsOf_map r]
theorem intsOf_map : ∀ bs : List Int, intsOf (bs.map D.int) = some bs
  | [] => rfl
  | b :: r => by simp [intsOf, intsOf_map r]
theorem strsOf_map : ∀ bs : List Str, strsOf (bs.map D.str) = some bs
  | [] => rfl
  | b :: r => by simp [strsOf, strsOf_map r]
def drBls (f : List Bool → Bool) : List D → MH → DK → Prop := fun ds M Q => match ds with
  | [d] => match (lstOf M d).bind blsOf with
    | some bs => Q (.bl (f bs)) M
    | none => False
  | _ => False
theorem lk_bls (f : List Bool → Bool) : LkC K (fun vs H Q => ∃ (a : Addr) (bs : List Bool), vs = [V.ref a] ∧ SqL K H a (bs.map V.bl) ∧ Q (.bl (f bs)) H) (drBls f) := by
  intro F G M H ds vs dQ Q w r h q
  unfold drBls at h
  split at h
  · obtain ⟨v, rfl, rv⟩ := r.inv1
    split at h
    · rename_i bs el
      obtain ⟨l, e1, e2⟩ := Option.bind_eq_some_iff.mp el
      obtain ⟨a, vs, rfl, hq, rs⟩ := lst_view w rv e1
      have e3 := blsOf_eq e2
      subst e3
      have e4 := rs.bls'
      subst e4
      exact ⟨a, bs, rfl, hq, q _ _ _ _ _ h (Same.refl F) w (.bl _)⟩
    · exact h.elim
  · exact h.elim
def drSum : List D → MH → DK → Prop := fun ds M Q => match ds with
  | [d] => match (lstOf M d).bind intsOf with
    | some ns => Q (.int ns.sum) M
    | none => False
  | _ => False
theorem lk_sum : LkC K (rSum K) drSum := by
  intro F G M H ds vs dQ Q w r h q
  unfold drSum at h
  split at h
  · obtain ⟨v, rfl, rv⟩ := r.inv1
    split at h
    · rename_i bs el
      obtain ⟨l, e1, e2⟩ := Option.bind_eq_some_iff.mp el
      obtain ⟨a, vs, rfl, hq, rs⟩ := lst_view w rv e1
      have e3 := intsOf_eq e2
      subst e3
      have e4 := rs.ints'
      subst e4
      exact ⟨a, bs, rfl, hq, q _ _ _ _ _ h (Same.refl F) w (.int _)⟩
    · exact h.elim
  · exact h.elim
end
end DL

/-! The deep layer, part 4: targets, statements, loops, comprehensions, defs, errors. -/
namespace DL
open PySem L2

theorem wipe_set (σ : L2.St) (i : Nat) (x : Option V) : ∀ {vs : List Nat}, i ∈ vs → wipe (σ.set i x) vs = wipe σ vs
  | [], h => by cases h
  | v :: vs, h => by
    unfold wipe
    by_cases hv : i ∈ vs
    · rw [wipe_set σ i x hv]
    · have e : v = i := by
        rcases List.mem_cons.mp h with e | e
        · exact e.symm
        · exact (hv e).elim
      subst e
      have key : ∀ vs : List Nat, v ∉ vs → wipe (σ.set v x) vs = (wipe σ vs).set v x := by
        intro vs
        induction vs with
        | nil => intro _; rfl
        | cons u us ih =>
          intro hn
          have h1 : v ≠ u := fun z => hn (by rw [z]; exact List.mem_cons_self)
          unfold wipe
          rw [ih fun z => hn (List.mem_cons_of_mem _ z), List.set_comm _ _ h1]
      rw [key vs hv, List.set_set]
theorem wipe_wipe (σ : L2.St) : ∀ vs : List Nat, wipe (wipe σ vs) vs = wipe σ vs := by
  have key : ∀ (vs us : List Nat), (∀ i ∈ us, i ∈ vs) → wipe (wipe σ us) vs = wipe σ vs := by
    intro vs us
    induction us with
    | nil => intro _; rfl
    | cons u us ih =>
      intro h
      show wipe ((wipe σ us).set u none) vs = _
      rw [wipe_set _ _ _ (h u List.mem_cons_self)]
      exact ih fun i hi => h i (List.mem_cons_of_mem _ hi)
  exact fun vs => key vs vs fun _ h => h

section
variable {X : Cx} {W : WX} {K : PySem.W.Frag} {F G H : Hp} {M : MH} {e : Expr} {es : List Expr} {de : DTE} {pos : Pos}
/-! ### targets -/
abbrev DTG := D → DWX → DSt → MH → (DSt → MH → Prop) → Prop
abbrev DTGs := List D → DWX → DSt → MH → (DSt → MH → Prop) → Prop
def LGQ (K : PySem.W.Frag) (F G : Hp) (js : List Nat) (σ : L2.St) (dQ : DSt → MH → Prop) (Q : L2.St → Hp → Prop) : Prop :=
  ∀ ρ' M' σ' F' H', dQ ρ' M' → Same F F' → RS K F' ρ' σ' → WW K F' G M' H' → (∀ vs, (∀ j ∈ js, j ∈ vs) → wipe σ' vs = wipe σ vs) → Q σ' H'
def LG (K : PySem.W.Frag) (W : WX) (js : List Nat) (dg : DTG) : TG := fun v σ H Q => ∃ d ρ F G M dW dQ, Pt K W F G ρ M dW σ H ∧ RV K F d v ∧ dg d dW ρ M dQ ∧ LGQ K F G js σ dQ Q
def LGs (K : PySem.W.Frag) (W : WX) (js : List Nat) (dg : DTGs) : TGs := fun vs σ H Q => ∃ ds ρ F G M dW dQ, Pt K W F G ρ M dW σ H ∧ RVs K F ds vs ∧ dg ds dW ρ M dQ ∧ LGQ K F G js σ dQ Q
structure DG (X : Cx) (W : WX) (tg : Expr) (js : List Nat) (dg : DTG) : Prop where
  pg : PG X tg (LG X.K W js dg)
structure DGs (X : Cx) (W : WX) (tg : List Expr) (js : List Nat) (dg : DTGs) : Prop where
  pgs : PGs X tg (LGs X.K W js dg)
theorem pg_imp {X : Cx} {e : Expr} {t t' : TG} (h : PG X e t) (i : ∀ v σ H Q, t' v σ H Q → t v σ H Q) : PG X e t' := ⟨fun pins s σ H v u Q I r q => h.run pins s σ H v u Q I r (i v σ H Q q)⟩
theorem pgs_imp {X : Cx} {e : List Expr} {t t' : TGs} (h : PGs X e t) (i : ∀ v σ H Q, t' v σ H Q → t v σ H Q) : PGs X e t' := ⟨fun pins s σ H v u Q I r q => h.run pins s σ H v u Q I r (i v σ H Q q)⟩
def dgName (i : Nat) : DTG := fun d _ ρ M Q => Q (ρ.set i (some d)) M
theorem dg_name {i : Nat} {x : Str} (hN : X.N.Nodup) (hi : X.N[i]? = some x := by rfl) (hx : Loc X.env.scope x := by first | exact Or.inl rfl | exact Or.inr rfl) (hf : X.fn x = true ∨ X.env.scope.names.lookup x = some .local := by first | exact .inl rfl | exact .inr rfl) : DG X W (.Name x pos) [i] (dgName i) :=
  ⟨pg_imp (pg_name hN hi hx hf) fun v σ H Q ⟨d, ρ, F, G, M, dW, dQ, P, r, h, q⟩ => q _ M _ F H h (Same.refl F) (P.rs.set r i) P.ww fun vs hv => wipe_set σ i _ (hv i (by simp))⟩
def dgNil : DTGs := fun ds _ ρ M Q => match ds with
  | [] => Q ρ M
  | _ => False
def dgCons (t : DTG) (u : DTGs) : DTGs := fun ds W ρ M Q => match ds with
  | d :: r => t d W ρ M fun ρ' M' => u r W ρ' M' Q
  | [] => False
theorem dgs_nil : DGs X W [] [] dgNil := ⟨pgs_imp pgs_nil fun vs σ H Q ⟨ds, ρ, F, G, M, dW, dQ, P, r, h, q⟩ => by
  cases r with
  | nil => exact ⟨rfl, q _ _ _ F H h (Same.refl F) P.rs P.ww fun _ _ => rfl⟩
  | cons a b => exact h.elim⟩
theorem dgs_cons {js ks : List Nat} {t : DTG} {u : DTGs} (h1 : DG X W e js t) (h2 : DGs X W es ks u) (hs : (assignEach (e :: es) X.env).map (·.2) = assign e X.env :: (assignEach es X.env).map (·.2) := by rfl) : DGs X W (e :: es) (js ++ ks) (dgCons t u) :=
  ⟨pgs_imp (pgs_cons h1.pg h2.pgs hs) fun vs σ H Q ⟨ds, ρ, F, G, M, dW, dQ, P, r, h, q⟩ => by
    cases r with
    | nil => exact h.elim
    | cons a b =>
      exact ⟨_, _, rfl, _, ρ, F, G, M, dW, _, P, a, h, fun ρ1 M1 σ1 F1 H1 h1 s1 rs1 w1 wp1 => ⟨_, ρ1, F1, G, M1, dW, dQ, ⟨rs1, w1, P.lw.mo s1⟩, b.mo s1, h1,
        fun ρ2 M2 σ2 F2 H2 h2 s2 rs2 w2 wp2 => q _ _ _ _ _ h2 (s1.trans s2) rs2 w2 fun vs hv => (wp2 vs fun j hj => hv j (List.mem_append_right _ hj)).trans (wp1 vs fun j hj => hv j (List.mem_append_left _ hj))⟩⟩⟩
def dgTup (n : Nat) (t : DTGs) : DTG := fun d W ρ M Q => match d with
  | .tup ds => ds.length = n ∧ t ds W ρ M Q
  | _ => False
theorem dg_tup {k : Nat} {js : List Nat} {t : DTGs} {n : Nat} (hc : X.calm = true) (h : DGs X W es js t) (hn : (assignEach es X.env).length = n := by rfl) (hst : (assignEach es X.env).findIdx? (·.1) = none := by rfl) : DG X W (.Tuple es k pos) js (dgTup n t) :=
  ⟨pg_imp (pg_tup hc h.pgs hn hst) fun v σ H Q ⟨d, ρ, F, G, M, dW, dQ, P, r, h, q⟩ => by
    cases r with
    | tup sq rs => exact ⟨_, _, rfl, sqT_mono P.ww.fr sq, by rw [← rs.len]; exact h.1, _, ρ, F, G, M, dW, dQ, P, rs, h.2, q⟩
    | _ => exact h.elim⟩
/-- a list, item by item -/
def dgLst (n : Nat) (t : DTGs) : DTG := fun d W ρ M Q => match lstOf M d with
  | some ds => ds.length = n ∧ t ds W ρ M Q
  | none => False
theorem dg_lst {k : Nat} {js : List Nat} {t : DTGs} {n : Nat} (hc : X.calm = true) (h : DGs X W es js t) (hn : (assignEach es X.env).length = n := by rfl) (hst : (assignEach es X.env).findIdx? (·.1) = none := by rfl) : DG X W (.Tuple es k pos) js (dgLst n t) :=
  ⟨pg_imp (pg_lst hc h.pgs hn hst) fun v σ H Q ⟨d, ρ, F, G, M, dW, dQ, P, r, h, q⟩ => by
    unfold dgLst at h
    split at h
    · rename_i ds el
      obtain ⟨a, vs, rfl, hq, rs⟩ := lst_view P.ww r el
      exact ⟨a, vs, rfl, hq, by rw [← rs.len]; exact h.1, _, ρ, F, G, M, dW, dQ, P, rs, h.2, q⟩
    · exact h.elim⟩
/-- l[i] = v, l a list that changes -/
def dgSub (da db : DTE) : DTG := fun d W ρ M Q => da W ρ M fun o M1 => db W ρ M1 fun i M2 => match o, i with
  | .ref a, .int k => match M2 a with
    | some (.lst ds) => match ixN ds.length k with
      | some j => Q ρ (updM M2 a (.lst (ds.set j d)))
      | none => False
    | _ => False
  | _, _ => False
theorem dg_sub {o i : Expr} {da db : DTE} (ho : DE X W o da) (hi : DE X W i db)
    (ha : ∀ v, assign (.Subscript o i pos) X.env v = (do
      let ov ← holding [v] (eval o X.env)
      let iv ← holding [v, ov] (eval i X.env)
      standAt pos
      holding [v, ov, iv] (setItem ov iv v)
      release [v, ov, iv] []) := by intro _; rfl) : DG X W (.Subscript o i pos) [] (dgSub da db) :=
  ⟨pg_imp (pg_sub ho.pe hi.pe set_list ha) fun v σ H Q ⟨d, ρ, F, G, M, dW, dQ, P, r, h, q⟩ => ⟨ρ, F, G, M, dW, _, P, h, fun d1 M1 v1 F1 H1 h1 s1 w1 r1 => ⟨ρ, F1, G, M1, dW, _, P.step s1 w1, h1, fun d2 M2 v2 F2 H2 h2 s2 w2 r2 => by
    cases r1 <;> cases r2 <;> try (exact h2.elim)
    rename_i a k
    simp only at h2
    split at h2
    · rename_i ds hm
      split at h2
      · rename_i j hj
        obtain ⟨_, _, vs, hv, rs⟩ := w2.mu _ _ hm
        exact ⟨a, vs, k, j, rfl, rfl, hv, by rw [← rs.len]; exact hj, q _ _ _ F2 _ h2 (s1.trans s2) (P.rs.mo (s1.trans s2)) (w2.set hm _ _ ⟨_, upd_same, rs.set j (r.mo (s1.trans s2))⟩) fun _ _ => rfl⟩
      · exact h2.elim
    · exact h2.elim⟩⟩⟩

/-! ### statements -/
theorem ds_of {st : Stmt} {t : TS} {dt : DTS} (h : PS X st t) (i : ∀ ρ F G M dW dd σ H D, Pt X.K W F G ρ M dW σ H → dt dW dd ρ M → LD X.K F G dd D → t D σ H) : DS X W st dt :=
  ⟨ps_imp h fun D σ H ⟨ρ, F, G, M, dW, dd, P, h, q⟩ => i ρ F G M dW dd σ H D P h q⟩
theorem dss_of {st : List Stmt} {t : TS} {dt : DTS} (h : PSs X st t) (i : ∀ ρ F G M dW dd σ H D, Pt X.K W F G ρ M dW σ H → dt dW dd ρ M → LD X.K F G dd D → t D σ H) : DSs X W st dt :=
  ⟨pss_imp h fun D σ H ⟨ρ, F, G, M, dW, dd, P, h, q⟩ => i ρ F G M dW dd σ H D P h q⟩
variable {st : Stmt} {rest : List Stmt} {t u : DTS}
def dNext : DTS := fun _ D ρ M => D.nx ρ M
def dSeq (t u : DTS) : DTS := fun W D ρ M => t W { D with nx := u W D } ρ M
theorem dss_nil : DSs X W [] dNext := dss_of pss_nil fun ρ F G M dW dd σ H D P h q => q.nx _ _ _ F H h (Same.refl F) P.rs P.ww
theorem dss_cons (h1 : DS X W st t) (h2 : DSs X W rest u) : DSs X W (st :: rest) (dSeq t u) :=
  dss_of (pss_cons h1.ps h2.pss) fun ρ F G M dW dd σ H D P h q => ⟨ρ, F, G, M, dW, _, P, h, ⟨fun ρ' M' σ' F' H' h' s' rs' w' => ⟨ρ', F', G, M', dW, dd, ⟨rs', w', P.lw.mo s'⟩, h', q.mo s'⟩, q.rt, q.bk, q.ct⟩⟩
theorem dss_one (h1 : DS X W st t) : DSs X W [st] t := ⟨pss_one h1.ps⟩
def dBreak : DTS := fun _ D ρ M => D.bk ρ M
def dCont : DTS := fun _ D ρ M => D.ct ρ M
theorem ds_pass : DS X W (.Pass pos) dNext := ds_of ps_pass fun ρ F G M dW dd σ H D P h q => q.nx _ _ _ F H h (Same.refl F) P.rs P.ww
theorem ds_break : DS X W (.Break pos) dBreak := ds_of ps_break fun ρ F G M dW dd σ H D P h q => q.bk _ _ _ F H h (Same.refl F) P.rs P.ww
theorem ds_continue : DS X W (.Continue pos) dCont := ds_of ps_continue fun ρ F G M dW dd σ H D P h q => q.ct _ _ _ F H h (Same.refl F) P.rs P.ww
def dDrop (de : DTE) : DTS := fun W D ρ M => de W ρ M fun _ M1 => D.nx ρ M1
theorem ds_expr (he : DE X W e de) (hs : swapsWith e none pos.line X.env = pure false := by rfl) : DS X W (.Expr e pos) (dDrop de) :=
  ds_of (ps_expr he.pe hs) fun ρ F G M dW dd σ H D P h q => ⟨ρ, F, G, M, dW, _, P, h, fun d M' v F' H' hd s w r => q.nx _ _ _ _ _ hd s (P.rs.mo s) w⟩
def dRet (de : DTE) : DTS := fun W D ρ M => de W ρ M D.rt
theorem ds_ret (he : DE X W e de) : DS X W (.Return (some e) pos) (dRet de) := ds_of (ps_ret he.pe) fun ρ F G M dW dd σ H D P h q => ⟨ρ, F, G, M, dW, _, P, h, q.rt⟩
def dRetN : DTS := fun _ D _ M => D.rt .non M
theorem ds_retN : DS X W (.Return none pos) dRetN := ds_of ps_retN fun ρ F G M dW dd σ H D P h q => q.rt _ _ _ F H h (Same.refl F) P.ww .non
def dIfS (c : DTT) (t u : DTS) : DTS := fun W D ρ M => c W ρ M fun b M1 => if b = true then t W D ρ M1 else u W D ρ M1
theorem ds_if {c : Expr} {a b : List Stmt} {tc : DTT} (hc : DT X W c tc) (ha : DSs X W a t) (hb : DSs X W b u) : DS X W (.If c a b pos) (dIfS tc t u) :=
  ds_of (ps_if hc.pt ha.pss hb.pss) fun ρ F G M dW dd σ H D P h q => ⟨ρ, F, G, M, dW, _, P, h, fun k M' F' H' hd s w => by
    cases k with
    | true => rw [if_pos rfl] at hd ⊢; exact ⟨ρ, F', G, M', dW, dd, P.step s w, hd, q.mo s⟩
    | false => rw [if_neg Bool.false_ne_true] at hd ⊢; exact ⟨ρ, F', G, M', dW, dd, P.step s w, hd, q.mo s⟩⟩
def dNever : DTS := fun _ _ _ _ => False
theorem ds_never : DS X W st dNever := ds_of ps_never fun ρ F G M dW dd σ H D P h q => h.elim
theorem dss_never : DSs X W rest dNever := dss_of pss_never fun ρ F G M dW dd σ H D P h q => h.elim
def dAsg (de : DTE) (g : DTG) : DTS := fun W D ρ M => de W ρ M fun d M1 => g d W ρ M1 D.nx
theorem ds_asg {tg : Expr} {js : List Nat} {g : DTG} (he : DE X W e de) (hg : DG X W tg js g) (hs : swapsWithSole [tg] e pos.line X.env = pure false := by rfl) (hw : swappedStores [tg] e X.env = pure none := by rfl)
    (h1 : (assignEach [tg] X.env).map (·.2) = [assign tg X.env] := by rfl) : DS X W (.Assign [tg] e pos) (dAsg de g) :=
  ds_of (ps_asg he.pe hg.pg hs hw h1) fun ρ F G M dW dd σ H D P h q => ⟨ρ, F, G, M, dW, _, P, h, fun d M' v F' H' hd s w r => ⟨d, ρ, F', G, M', dW, _, P.step s w, r, hd, fun ρ2 M2 σ2 F2 H2 h2 s2 rs2 w2 _ => q.nx _ _ _ _ _ h2 (s.trans s2) rs2 w2⟩⟩
theorem ds_set (i : Nat) {x : Str} {pos' : Pos} (hN : X.N.Nodup) (he : DE X W e de) (hi : X.N[i]? = some x := by rfl) (hx : Loc X.env.scope x := by first | exact Or.inl rfl | exact Or.inr rfl) (hs : swapsWith e (some (.Name x pos')) pos.line X.env = pure false := by rfl) (hf : X.fn x = true ∨ X.env.scope.names.lookup x = some .local := by first | exact .inl rfl | exact .inr rfl) :
    DS X W (.Assign [.Name x pos'] e pos) (dAsg de (dgName i)) :=
  ds_of (ps_set hN hi hx he.pe hs hf) fun ρ F G M dW dd σ H D P h q => ⟨ρ, F, G, M, dW, _, P, h, fun d M' v F' H' hd s w r => q.nx _ _ _ _ _ hd s ((P.rs.mo s).set r i) w⟩
def dPar (i j : Nat) (dt : DTA) : DTS := fun W D ρ M => dt W ρ M fun ds M1 => match ds with
  | [d, e] => D.nx ((ρ.set i (some d)).set j (some e)) M1
  | _ => False
theorem ds_par {i j : Nat} {x y : Str} {a b : Expr} {dt : DTA} {px py pt : Pos} {kt k2 pt2} (hc : X.calm = true) (hN : X.N.Nodup) (hi : X.N[i]? = some x) (hj : X.N[j]? = some y) (hij : i ≠ j)
    (hx : X.env.scope.names.lookup x = some .local) (hy : X.env.scope.names.lookup y = some .local) (ha : DA X W [a, b] dt)
    (hw : swappedStores [.Tuple [.Name x px, .Name y py] kt pt] (.Tuple [a, b] k2 pt2) X.env = pure (some [x, y]))
    (hs : swapsWithSole [.Tuple [.Name x px, .Name y py] kt pt] (.Tuple [a, b] k2 pt2) pos.line X.env = pure false := by rfl) :
    DS X W (.Assign [.Tuple [.Name x px, .Name y py] kt pt] (.Tuple [a, b] k2 pt2) pos) (dPar i j dt) :=
  ds_of (ps_par hc hN hi hj hij hx hy ha.pa hw hs) fun ρ F G M dW dd σ H D P h q => ⟨ρ, F, G, M, dW, _, P, h, fun ds M' vs F' H' hd s w r => by
    split at hd
    · obtain ⟨v, u, rfl, rv, ru⟩ := r.inv2
      exact ⟨v, u, rfl, q.nx _ _ _ _ _ hd s (((P.rs.mo s).set rv i).set ru j) w⟩
    · exact hd.elim⟩

/-! ### what is walked -/
structure DWk (K : PySem.W.Frag) (J : It) (ds : List D) (Keep : MH → Prop) (F : Hp) : Prop where
  goes : ∀ i F' G M H, i < ds.length → Same F F' → WW K F' G M H → Keep M → J.go i H
  stops : ∀ F' G M H, Same F F' → WW K F' G M H → Keep M → J.stop ds.length H
  yields : ∀ i F' G M H x H', i < ds.length → Same F F' → WW K F' G M H → Keep M → J.yld i H x H' → ∃ d F'', ds[i]? = some d ∧ Same F' F'' ∧ WW K F'' G M H' ∧ RV K F'' d x
abbrev DTI := DWX → DSt → MH → (List D → (MH → Prop) → MH → Prop) → Prop
def LI (K : PySem.W.Frag) (W : WX) (dw : DTI) : TI := fun σ H R => ∃ ρ F G M dW dR, Pt K W F G ρ M dW σ H ∧ dw dW ρ M dR ∧ ∀ ds Keep M' F' H' J, dR ds Keep M' → Same F F' → WW K F' G M' H' → DWk K J ds Keep F' → R J H'
structure DI (X : Cx) (W : WX) (tg iter : Expr) (dw : DTI) : Prop where
  pi : PI X tg iter (LI X.K W dw)
theorem pi_imp {X : Cx} {tg e : Expr} {t t' : TI} (h : PI X tg e t) (i : ∀ σ H R, t' σ H R → t σ H R) : PI X tg e t' := ⟨fun pins s σ H R I q => h.run pins s σ H R I (i σ H R q)⟩
variable {tg : Expr}
/-- with the list's size told -/
theorem pi_listB {l : Expr} {tl : TE} (hl : PE X l tl) : PI X tg l (fun σ H R => tl σ H fun x H1 => ∃ a xs, x = .ref a ∧ SqL X.K H1 a xs ∧ (xs.length ≤ 16777216 → R (Itl X.K a) H1)) := by
  refine ⟨fun pins s σ H R I h => ?_⟩
  have q := (pi_list (tg := tg) (X := X) (l := l) (tl := fun σ' H' Q => ∀ (pins' : List (Addr × Obj)) (s' : Shared), Inv X pins' σ' H' s' → wpAny (model X.prog X.w) X.A (eval l X.env) (EP X pins' σ' Q) X.xe s') ⟨fun pins s σ H Q I z => z pins s I⟩).run pins s σ H R I
  refine q fun pins' s' I' => thn (hl.run pins' s' σ H _ I' h) fun v s1 ⟨x, H1, I1, r1, a, xs, e, sq, q1⟩ => ?_
  obtain ⟨its, rv, pl, hz⟩ := I1.list sq
  exact ⟨x, H1, I1, r1, a, e, ⟨xs, sq⟩, q1 (by rw [line_eq]; exact hz)⟩
theorem pi_tupB {l : Expr} {tl : TE} (hl : PE X l tl) : PI X tg l (fun σ H R => tl σ H fun x H1 => ∃ a xs, x = .ref a ∧ SqT X.K H1 a xs ∧ (xs.length ≤ 16777216 → R (Itt X.K a) H1)) := by
  refine ⟨fun pins s σ H R I h => ?_⟩
  have q := (pi_tup (tg := tg) (X := X) (l := l) (tl := fun σ' H' Q => ∀ (pins' : List (Addr × Obj)) (s' : Shared), Inv X pins' σ' H' s' → wpAny (model X.prog X.w) X.A (eval l X.env) (EP X pins' σ' Q) X.xe s') ⟨fun pins s σ H Q I z => z pins s I⟩).run pins s σ H R I
  refine q fun pins' s' I' => thn (hl.run pins' s' σ H _ I' h) fun v s1 ⟨x, H1, I1, r1, a, xs, e, sq, q1⟩ => ?_
  obtain ⟨its, rv, pl, hz⟩ := I1.tuple sq
  exact ⟨x, H1, I1, r1, a, e, ⟨xs, sq⟩, q1 (by rw [line_eq]; exact hz)⟩
def diLst (de : DTE) : DTI := fun W ρ M R => de W ρ M fun d M1 => match lstOf M1 d with
  | some ds => ds.length ≤ 16777216 → R ds (fun M => lstOf M d = some ds) M1
  | none => False
def diTup (de : DTE) : DTI := fun W ρ M R => de W ρ M fun d M1 => match d with
  | .tup ds => ds.length ≤ 16777216 → R ds (fun _ => True) M1
  | _ => False
theorem wk_lst {d : D} {v : V} {a : Addr} {ds : List D} (r : RV K F d v) (e : v = .ref a) : DWk K (Itl K a) ds (fun M => lstOf M d = some ds) F where
  goes := fun i F' G M H hi s w k => by
    obtain ⟨a', vs, e', sq, rs⟩ := lst_view w (r.mo s) k
    rw [e] at e'; cases e'
    obtain ⟨x, hx, _⟩ := rs.get (List.getElem?_eq_getElem hi)
    exact ⟨vs, x, sq, hx⟩
  stops := fun F' G M H s w k => by
    obtain ⟨a', vs, e', sq, rs⟩ := lst_view w (r.mo s) k
    rw [e] at e'; cases e'
    exact ⟨vs, sq, by rw [rs.len]; exact Nat.le_refl _⟩
  yields := fun i F' G M H x H' hi s w k y => by
    obtain ⟨a', vs, e', sq, rs⟩ := lst_view w (r.mo s) k
    rw [e] at e'; cases e'
    obtain ⟨eH, y⟩ := y
    subst eH
    obtain ⟨d, hd, rd⟩ := rs.get' (y vs sq)
    exact ⟨d, F', hd, Same.refl F', w, rd⟩
theorem wk_tup {v : V} {a : Addr} {ds : List D} (r : RV K F (.tup ds) v) (e : v = .ref a) : DWk K (Itt K a) ds (fun _ => True) F where
  goes := fun i F' G M H hi s w k => by
    obtain ⟨a', vs, e', sq, rs⟩ := tup_view w (r.mo s)
    rw [e] at e'; cases e'
    obtain ⟨x, hx, _⟩ := rs.get (List.getElem?_eq_getElem hi)
    exact ⟨vs, x, sq, hx⟩
  stops := fun F' G M H s w k => by
    obtain ⟨a', vs, e', sq, rs⟩ := tup_view w (r.mo s)
    rw [e] at e'; cases e'
    exact ⟨vs, sq, by rw [rs.len]; exact Nat.le_refl _⟩
  yields := fun i F' G M H x H' hi s w k y => by
    obtain ⟨a', vs, e', sq, rs⟩ := tup_view w (r.mo s)
    rw [e] at e'; cases e'
    obtain ⟨eH, y⟩ := y
    subst eH
    obtain ⟨d, hd, rd⟩ := rs.get' (y vs sq)
    exact ⟨d, F', hd, Same.refl F', w, rd⟩
theorem di_lst (he : DE X W e de) : DI X W tg e (diLst de) :=
  ⟨pi_imp (pi_listB he.pe) fun σ H R ⟨ρ, F, G, M, dW, dR, P, h, q⟩ => ⟨ρ, F, G, M, dW, _, P, h, fun d M1 v F1 H1 h1 s1 w1 r1 => by
    split at h1
    · rename_i ds el
      obtain ⟨a, vs, e, sq, rs⟩ := lst_view w1 r1 el
      exact ⟨a, vs, e, sq, fun hz => q ds _ _ _ _ _ (h1 (by rw [rs.len]; exact hz)) s1 w1 (wk_lst r1 e)⟩
    · exact h1.elim⟩⟩
theorem di_tup (he : DE X W e de) : DI X W tg e (diTup de) :=
  ⟨pi_imp (pi_tupB he.pe) fun σ H R ⟨ρ, F, G, M, dW, dR, P, h, q⟩ => ⟨ρ, F, G, M, dW, _, P, h, fun d M1 v F1 H1 h1 s1 w1 r1 => by
    split at h1
    · rename_i ds
      obtain ⟨a, vs, e, sq, rs⟩ := tup_view w1 r1
      exact ⟨a, vs, e, sq, fun hz => q ds _ _ _ _ _ (h1 (by rw [rs.len]; exact hz)) s1 w1 (wk_tup r1 e)⟩
    · exact h1.elim⟩⟩
/-- a text, sign by sign -/
def signs (z : Str) : List D := z.cps.toList.map fun c => D.str ⟨#[c]⟩
def diStr (de : DTE) : DTI := fun W ρ M R => de W ρ M fun d M1 => match d with
  | .str z => R (signs z) (fun _ => True) M1
  | _ => False
theorem di_str (he : DE X W e de) : DI X W tg e (diStr de) :=
  ⟨pi_imp (pi_str he.pe) fun σ H R ⟨ρ, F, G, M, dW, dR, P, h, q⟩ => ⟨ρ, F, G, M, dW, _, P, h, fun d M1 v F1 H1 h1 s1 w1 r1 => by
    cases r1 with
    | str z =>
      have hl : (signs z).length = z.cps.size := by simp [signs]
      refine ⟨z, rfl, q _ _ _ _ _ _ h1 s1 w1 ⟨fun i _ _ _ _ hi _ _ _ => (show i < z.cps.size by rw [← hl]; exact hi), fun _ _ _ _ _ _ _ => Nat.le_of_eq hl.symm, fun i F' G M H x H' hi s w k y => ?_⟩⟩
      obtain ⟨eH, c, hc, rfl⟩ := y
      subst eH
      exact ⟨.str ⟨#[c]⟩, F', by simp [signs, hc], Same.refl F', w, .str _⟩
    | _ => exact h1.elim⟩⟩
/-- range(n), range(a, b) -/
def rngD (lo : Int) (n : Nat) : List D := (List.range n).map fun (i : Nat) => D.int (lo + (i : Int))
theorem rngD_len (lo : Int) (n : Nat) : (rngD lo n).length = n := by simp [rngD]
theorem rngD_get {lo : Int} {n i : Nat} {d : D} (h : (rngD lo n)[i]? = some d) : i < n ∧ d = .int (lo + i) := by
  have hi : i < n := by
    have := (List.getElem?_eq_some_iff.mp h).1
    rwa [rngD_len] at this
  refine ⟨hi, ?_⟩
  simp [rngD, hi] at h
  exact h.symm
theorem wk_rng {lo : Int} {n : Nat} : DWk K (Itr lo n) (rngD lo n) (fun _ => True) F where
  goes := fun i _ _ _ _ hi _ _ _ => by rw [rngD_len] at hi; exact hi
  stops := fun _ _ _ _ _ _ _ => by rw [rngD_len]; exact Nat.le_refl n
  yields := fun i F' G M H x H' hi s w k y => by
    rw [rngD_len] at hi
    obtain ⟨eH, rfl⟩ := y
    subst eH
    exact ⟨.int (lo + i), F', by simp [rngD, hi], Same.refl F', w, .int _⟩
variable {dt : DTA} {p : Pos}
def diRng1 (dt : DTA) : DTI := fun W ρ M R => dt W ρ M fun ds M1 => match ds with
  | [.int j] => -(2 ^ 62) ≤ j ∧ j < 2 ^ 62 ∧ R (rngD 0 j.toNat) (fun _ => True) M1
  | _ => False
def diRng2 (dt : DTA) : DTI := fun W ρ M R => dt W ρ M fun ds M1 => match ds with
  | [.int i, .int j] => (-(2 ^ 62) ≤ i ∧ i < 2 ^ 62 ∧ -(2 ^ 62) ≤ j ∧ j < 2 ^ 62) ∧ R (rngD i (j - i).toNat) (fun _ => True) M1
  | _ => False
theorem di_rng1 {a : Expr} (hm : X.mg "range" = none) (ha : DA X W [a] dt) (hg : Gl X "range" := by rfl) (hs : starEach [a] X.env = [(false, eval a X.env)] := by rfl) : DI X W tg (.Call (.Name "range" p) [a] [] pos) (diRng1 dt) :=
  ⟨pi_imp (pi_range1 hg hm ha.pa hs) fun σ H R ⟨ρ, F, G, M, dW, dR, P, h, q⟩ => ⟨ρ, F, G, M, dW, _, P, h, fun ds M1 vs F1 H1 h1 s1 w1 r1 => by
    split at h1
    · obtain ⟨v, rfl, rv⟩ := r1.inv1
      cases rv
      exact ⟨_, rfl, h1.1, h1.2.1, q _ _ _ _ _ _ h1.2.2 s1 w1 wk_rng⟩
    · exact h1.elim⟩⟩
theorem di_rng2 {a b : Expr} (hm : X.mg "range" = none) (ha : DA X W [a, b] dt) (hg : Gl X "range" := by rfl) (hs : starEach [a, b] X.env = [(false, eval a X.env), (false, eval b X.env)] := by rfl) (hs2 : starEach [b] X.env = [(false, eval b X.env)] := by rfl) :
    DI X W tg (.Call (.Name "range" p) [a, b] [] pos) (diRng2 dt) :=
  ⟨pi_imp (pi_range2 hg hm ha.pa hs hs2) fun σ H R ⟨ρ, F, G, M, dW, dR, P, h, q⟩ => ⟨ρ, F, G, M, dW, _, P, h, fun ds M1 vs F1 H1 h1 s1 w1 r1 => by
    split at h1
    · obtain ⟨v, u, rfl, rv, ru⟩ := r1.inv2
      cases rv
      cases ru
      exact ⟨_, _, rfl, h1.1, q _ _ _ _ _ _ h1.2 s1 w1 wk_rng⟩
    · exact h1.elim⟩⟩

/-! ### for, while -/
def dFor (dw : DTI) (g : DTG) (tb : DTS) : DTS := fun W D ρ M => dw W ρ M fun ds Keep M1 => ∃ Pv : Nat → DSt → MH → Prop, Pv 0 ρ M1 ∧ (∀ i ρ M, Pv i ρ M → Keep M) ∧
  (∀ i d ρ M, ds[i]? = some d → Pv i ρ M → g d W ρ M fun ρ2 M2 => tb W { D with nx := Pv (i + 1), ct := Pv (i + 1), bk := D.nx } ρ2 M2) ∧ ∀ ρ M, Pv ds.length ρ M → D.nx ρ M
theorem ds_for {iter : Expr} {body : List Stmt} {dw : DTI} {js : List Nat} {g : DTG} {tb : DTS} (hp : PassesOwn (model X.prog X.w) X.A X.env X.xe) (hc : X.calm = true) (hi : DI X W tg iter dw) (hg : DG X W tg js g) (hb : DSs X W body tb)
    (hs : ∀ x, foldedSetIterable iter X.env x = pure x := by intro _; rfl) : DS X W (.For tg iter body [] pos) (dFor dw g tb) :=
  ds_of (ps_for hp hc hi.pi hg.pg hb.pss hs) fun ρ F G M dW dd σ H D P h q => ⟨ρ, F, G, M, dW, _, P, h, fun ds Keep M1 F1 H1 J ⟨Pv, p0, pk, pt, pd⟩ s1 w1 wk => by
    refine ⟨fun i m σ H => m = ds.length - i ∧ i ≤ ds.length ∧ ∃ ρ F' M, Same F1 F' ∧ RS X.K F' ρ σ ∧ WW X.K F' G M H ∧ Pv i ρ M, ⟨_, rfl, Nat.zero_le _, ρ, F1, M1, Same.refl _, P.rs.mo s1, w1, p0⟩, ?_⟩
    rintro i m σ' H' ⟨rfl, hi, ρ', F', M', s', rs', w', p'⟩
    have kp := pk _ _ _ p'
    by_cases hlt : i < ds.length
    · refine .inr ⟨wk.goes i F' G M' H' hlt s' w' kp, fun σ'' H'' => ∃ ρ'' F'' M'', Same F1 F'' ∧ RS X.K F'' ρ'' σ'' ∧ WW X.K F'' G M'' H'' ∧ Pv (i + 1) ρ'' M'', fun σ'' H'' ⟨ρ'', F'', M'', a, b, c, d⟩ => ⟨ds.length - (i + 1), by omega, rfl, hlt, ρ'', F'', M'', a, b, c, d⟩, fun x H2 y => ?_⟩
      obtain ⟨d, F2, hd, s2, w2, r2⟩ := wk.yields i F' G M' H' x H2 hlt s' w' kp y
      have s02 := s1.trans (s'.trans s2)
      refine ⟨d, ρ', F2, G, M', dW, _, ⟨rs'.mo s2, w2, P.lw.mo s02⟩, r2, pt i d ρ' M' hd p', fun ρ3 M3 σ3 F3 H3 h3 s3 rs3 w3 _ => ⟨ρ3, F3, G, M3, dW, _, ⟨rs3, w3, P.lw.mo (s02.trans s3)⟩, h3, ?_⟩⟩
      have s03 := s02.trans s3
      have nxt : LN X.K F3 G (Pv (i + 1)) (fun σ'' H'' => ∃ ρ'' F'' M'', Same F1 F'' ∧ RS X.K F'' ρ'' σ'' ∧ WW X.K F'' G M'' H'' ∧ Pv (i + 1) ρ'' M'') := fun ρ4 M4 σ4 F4 H4 h4 s4 rs4 w4 => ⟨ρ4, F4, M4, ((s'.trans s2).trans s3).trans s4, rs4, w4, h4⟩
      exact ⟨nxt, q.rt.mo s03, q.nx.mo s03, nxt⟩
    · have e : i = ds.length := by omega
      subst e
      exact .inl ⟨wk.stops F' G M' H' s' w' kp, q.nx _ _ _ _ _ (pd _ _ p') (s1.trans s') rs' w'⟩⟩
def dWhile (c : DTT) (tb : DTS) : DTS := fun W D ρ M => ∃ Pv : Nat → DSt → MH → Prop, (∃ m, Pv m ρ M) ∧ ∀ m ρ M, Pv m ρ M → c W ρ M fun b M1 =>
  if b = true then tb W { D with nx := fun ρ' M' => ∃ m', m' < m ∧ Pv m' ρ' M', ct := fun ρ' M' => ∃ m', m' < m ∧ Pv m' ρ' M', bk := D.nx } ρ M1 else D.nx ρ M1
theorem ds_while {c : Expr} {body : List Stmt} {tc : DTT} {tb : DTS} (hp : PassesOwn (model X.prog X.w) X.A X.env X.xe) (hc : DT X W c tc) (hb : DSs X W body tb) : DS X W (.While c body [] pos) (dWhile tc tb) :=
  ds_of (ps_while hp hc.pt hb.pss) fun ρ F G M dW dd σ H D P ⟨Pv, ⟨m0, p0⟩, turn⟩ q => by
    refine ⟨fun m σ H => ∃ ρ F' M, Same F F' ∧ RS X.K F' ρ σ ∧ WW X.K F' G M H ∧ Pv m ρ M, ⟨m0, ρ, F, M, Same.refl F, P.rs, P.ww, p0⟩, ?_⟩
    rintro m σ' H' ⟨ρ', F', M', s', rs', w', p'⟩
    refine ⟨ρ', F', G, M', dW, _, ⟨rs', w', P.lw.mo s'⟩, turn m ρ' M' p', fun b M2 F2 H2 h2 s2 w2 => ?_⟩
    have s02 := s'.trans s2
    cases b with
    | true =>
      simp only [if_true] at h2 ⊢
      refine ⟨fun σ'' H'' => ∃ m', m' < m ∧ ∃ ρ'' F'' M'', Same F F'' ∧ RS X.K F'' ρ'' σ'' ∧ WW X.K F'' G M'' H'' ∧ Pv m' ρ'' M'', fun σ'' H'' ⟨m', hm, z⟩ => ⟨m', hm, z⟩, ?_⟩
      have nxt : LN X.K F2 G (fun ρ' M' => ∃ m', m' < m ∧ Pv m' ρ' M') (fun σ'' H'' => ∃ m', m' < m ∧ ∃ ρ'' F'' M'', Same F F'' ∧ RS X.K F'' ρ'' σ'' ∧ WW X.K F'' G M'' H'' ∧ Pv m' ρ'' M'') :=
        fun ρ4 M4 σ4 F4 H4 ⟨m', hm, h4⟩ s4 rs4 w4 => ⟨m', hm, ρ4, F4, M4, s02.trans s4, rs4, w4, h4⟩
      exact ⟨ρ', F2, G, M2, dW, _, ⟨rs'.mo s2, w2, P.lw.mo s02⟩, h2, ⟨nxt, q.rt.mo s02, q.nx.mo s02, nxt⟩⟩
    | false =>
      simp only [Bool.false_eq_true, if_false] at h2 ⊢
      exact q.nx _ _ _ _ _ h2 s02 (rs'.mo s2) w2

/-! ### comprehensions -/
abbrev WF : WX := fun _ _ _ _ => False
abbrev W0 : DWX := fun _ _ _ _ => False
structure DTs (X : Cx) (W : WX) (ifs : List Expr) (dt : DTT) : Prop where
  pts : PTs X ifs (LT X.K W dt)
def dYes : DTT := fun _ _ M Q => Q true M
theorem dts_nil : DTs X W [] dYes := ⟨⟨fun pins s σ H Q I ⟨ρ, F, G, M, dW, dQ, P, h, q⟩ => pts_nil.run pins s σ H Q I (q _ _ _ _ h (Same.refl F) P.ww)⟩⟩
theorem dts_one {c : Expr} {dt : DTT} (h : DT X W c dt) : DTs X W [c] dt := ⟨pts_one h.pt⟩
def dLcR (ρ : DSt) (g : DTG) (tt : DTT) (te : DTE) (vs : List Nat) (fin : List D → MH → Prop) : List D → (MH → Prop) → MH → Prop := fun ds Keep M1 => ds.length ≤ 16777216 ∧ ∃ Pv : Nat → List D → MH → Prop, Pv 0 [] M1 ∧ (∀ i acc M, Pv i acc M → Keep M ∧ acc.length ≤ i) ∧
  (∀ i d acc M, ds[i]? = some d → Pv i acc M → g d W0 (wipeD ρ vs) M fun ρ2 M2 => tt W0 ρ2 M2 fun b M3 => if b = true then te W0 ρ2 M3 fun y M4 => Pv (i + 1) (acc ++ [y]) M4 else Pv (i + 1) acc M3) ∧ ∀ acc M, Pv ds.length acc M → fin acc M
def dLc (dw : DTI) (g : DTG) (tt : DTT) (te : DTE) (vs : List Nat) : DTE := fun W ρ M Q => dw W ρ M (dLcR ρ g tt te vs fun acc M => Q (.lst acc) M)
def dLcM (dw : DTI) (g : DTG) (tt : DTT) (te : DTE) (vs : List Nat) : DTE := fun W ρ M Q => dw W ρ M (dLcR ρ g tt te vs fun acc M => ∀ p, M p = none → Q (.ref p) (updM M p (.lst acc)))
theorem lc_run {dw : DTI} {js : List Nat} {g : DTG} {tt : DTT} {te : DTE} {vs : List Nat} {fin : List D → MH → Prop} {ρ : DSt} {dW : DWX} {σ : L2.St} {Q : VK} (hj : ∀ j ∈ js, j ∈ vs) (P : Pt K W F G ρ M dW σ H) (h : dw dW ρ M (dLcR ρ g tt te vs fin))
    (q : ∀ acc M' us F' H' p, fin acc M' → Same F F' → WW K F' (upd G p (.lst us)) M' H' → RVs K F' acc us → G p = none → Q (.ref p) H') :
    tLc (LI K W dw) (LG K WF js g) (LT K WF tt) (LE K WF te) vs σ H Q := by
  refine ⟨ρ, F, G, M, dW, _, P, h, fun ds Keep M1 F1 H1 J hR s1 w1 wk => ?_⟩
  obtain ⟨hz, Pv, p0, pk, pt, pd⟩ := hR
  intro D hD
  have gD : G D = none := w1.freeG hD
  -- the new list is held by the frame of others
  have wUp : ∀ {F' : Hp} {us us' : List V} {M' : MH} {H' : Hp}, WW K F' (upd G D (.lst us)) M' H' → WW K F' (upd G D (.lst us')) M' (upd H' D (.lst us')) := fun {F' us us' M' H'} w => by
    refine ⟨fun b o e => ?_, fun b o e => ?_, fun b o e => ?_, fun b mo e => ?_⟩
    · have ne : b ≠ D := fun z => by subst z; rw [w.gf _ _ upd_same] at e; cases e
      rw [upd_ne ne]; exact w.fr b o e
    · by_cases hb : b = D
      · subst hb; rw [upd_same] at e ⊢; exact e
      · rw [upd_ne hb] at e ⊢; exact w.gr b o (by rw [upd_ne hb]; exact e)
    · by_cases hb : b = D
      · subst hb; exact w.gf _ _ upd_same
      · rw [upd_ne hb] at e; exact w.gf b o (by rw [upd_ne hb]; exact e)
    · obtain ⟨a1, a2, a3⟩ := w.mu b mo e
      have ne : b ≠ D := fun z => by subst z; rw [upd_same] at a2; cases a2
      rw [upd_ne ne] at a2
      exact ⟨a1, by rw [upd_ne ne]; exact a2, a3.mo (Same.refl _) (upd_ne ne)⟩
  have wStart : WW K F1 (upd G D (.lst [])) M1 (upd H1 D (.lst [])) := by
    refine ⟨fun b o e => ?_, fun b o e => ?_, fun b o e => ?_, fun b mo e => ?_⟩
    · rw [upd_ne (ne_of_none (w1.fr b o e) hD)]; exact w1.fr b o e
    · by_cases hb : b = D
      · subst hb; rw [upd_same] at e ⊢; exact e
      · rw [upd_ne hb] at e ⊢; exact w1.gr b o e
    · by_cases hb : b = D
      · subst hb; exact w1.freeF hD
      · rw [upd_ne hb] at e; exact w1.gf b o e
    · obtain ⟨a1, a2, a3⟩ := w1.mu b mo e
      obtain ⟨u, hu⟩ := a3.some
      have ne : b ≠ D := ne_of_none hu hD
      exact ⟨a1, by rw [upd_ne ne]; exact a2, a3.mo (Same.refl _) (upd_ne ne)⟩
  refine ⟨fun i m H => m = ds.length - i ∧ i ≤ ds.length ∧ ∃ F' M acc us, Same F1 F' ∧ WW K F' (upd G D (.lst us)) M H ∧ RVs K F' acc us ∧ Pv i acc M, ⟨_, rfl, Nat.zero_le _, F1, M1, [], [], Same.refl _, wStart, .nil, p0⟩, ?_⟩
  rintro i m H' ⟨rfl, hi, F', M', acc, us, s', w', ra, p'⟩
  obtain ⟨kp, hal⟩ := pk _ _ _ p'
  by_cases hlt : i < ds.length
  · refine .inr ⟨wk.goes i F' _ M' H' hlt s' w' kp, fun H'' => ∃ F'' M'' acc'' us'', Same F1 F'' ∧ WW K F'' (upd G D (.lst us'')) M'' H'' ∧ RVs K F'' acc'' us'' ∧ Pv (i + 1) acc'' M'', fun H'' ⟨F'', M'', acc'', us'', a, b, c, d⟩ => ⟨ds.length - (i + 1), by omega, rfl, hlt, F'', M'', acc'', us'', a, b, c, d⟩, fun x H2 y => ?_⟩
    obtain ⟨d, F2, hd, s2, w2, r2⟩ := wk.yields i F' _ M' H' x H2 hlt s' w' kp y
    have s02 := s1.trans (s'.trans s2)
    refine ⟨d, wipeD ρ vs, F2, upd G D (.lst us), M', W0, _, ⟨(P.rs.mo s02).wipe vs, w2, fun _ _ _ _ _ _ _ _ z => z.elim⟩, r2, pt i d acc M' hd p', fun ρ3 M3 σ3 F3 H3 h3 s3 rs3 w3 wp3 => ⟨?_, ρ3, F3, upd G D (.lst us), M3, W0, _, ⟨rs3, w3, fun _ _ _ _ _ _ _ _ z => z.elim⟩, h3, fun b M4 F4 H4 h4 s4 w4 => ?_⟩⟩
    · rw [wp3 vs hj, wipe_wipe]
    · cases b with
      | false =>
        simp only [Bool.false_eq_true, if_false] at h4 ⊢
        exact ⟨F4, M4, acc, us, ((s'.trans s2).trans s3).trans s4, w4, ra.mo ((s2.trans s3).trans s4), h4⟩
      | true =>
        simp only [if_true] at h4 ⊢
        refine ⟨ρ3, F4, upd G D (.lst us), M4, W0, _, ⟨rs3.mo s4, w4, fun _ _ _ _ _ _ _ _ z => z.elim⟩, h4, fun e5 M5 v5 F5 H5 h5 s5 w5 r5 => ⟨us, w5.gr _ _ upd_same, ?_, F5, M5, acc ++ [e5], us ++ [v5], (((s'.trans s2).trans s3).trans s4).trans s5, wUp w5, (ra.mo (((s2.trans s3).trans s4).trans s5)).app (.one r5), h5⟩⟩
        rw [← ra.len, ← line_eq]
        omega
  · have e : i = ds.length := by omega
    subst e
    exact .inl ⟨wk.stops F' _ M' H' s' w' kp, q acc M' us F' H' D (pd _ _ p') (s1.trans s') w' ra gD⟩
end
end DL

/-! The deep layer, part 5: comprehensions, defs, calls, errors. -/
namespace DL
open PySem L2
section
variable {X : Cx} {W : WX} {K : PySem.W.Frag} {F G H : Hp} {M : MH} {e : Expr} {es : List Expr} {de : DTE} {dt : DTA} {pos : Pos}

/-! ### comprehensions -/
theorem lc_frz {acc : List D} {M' : MH} {us : List V} {F' H' : Hp} {p : Addr} {dQ : DK} {Q : VK} (h : dQ (.lst acc) M') (q : LQ K F G dQ Q) (s : Same F F') (w : WW K F' (upd G p (.lst us)) M' H') (ra : RVs K F' acc us) (hg : G p = none) : Q (.ref p) H' := by
  have fp : F' p = none := w.gf _ _ upd_same
  have hp : H' p = some (.lst us) := w.gr _ _ upd_same
  refine q _ _ _ (upd F' p (.lst us)) _ h (s.trans (same_upd fp)) ⟨fun b o e => ?_, fun b o e => w.gr b o (by rw [upd_ne (ne_of_none e hg)]; exact e), fun b o e => ?_, fun b mo e => ?_⟩ (.lst upd_same (ra.mo (same_upd fp)))
  · by_cases hb : b = p
    · subst hb; rw [upd_same] at e; cases e; exact hp
    · rw [upd_ne hb] at e; exact w.fr b o e
  · have ne := ne_of_none e hg
    rw [upd_ne ne]; exact w.gf b o (by rw [upd_ne ne]; exact e)
  · obtain ⟨a1, a2, a3⟩ := w.mu b mo e
    have ne : b ≠ p := fun z => by subst z; rw [upd_same] at a2; cases a2
    rw [upd_ne ne] at a2
    exact ⟨by rw [upd_ne ne]; exact a1, a2, a3.mo (same_upd fp) rfl⟩
theorem lc_mut {acc : List D} {M' : MH} {us : List V} {F' H' : Hp} {p : Addr} {dQ : DK} {Q : VK} (h : ∀ p, M' p = none → dQ (.ref p) (updM M' p (.lst acc))) (q : LQ K F G dQ Q) (s : Same F F') (w : WW K F' (upd G p (.lst us)) M' H') (ra : RVs K F' acc us) (hg : G p = none) : Q (.ref p) H' := by
  have fp : F' p = none := w.gf _ _ upd_same
  have hp : H' p = some (.lst us) := w.gr _ _ upd_same
  have mp : M' p = none := by
    cases e : M' p with
    | none => rfl
    | some mo =>
      have := (w.mu p mo e).2.1
      rw [upd_same] at this; cases this
  refine q _ _ _ F' _ (h p mp) s ⟨w.fr, fun b o e => w.gr b o (by rw [upd_ne (ne_of_none e hg)]; exact e), fun b o e => w.gf b o (by rw [upd_ne (ne_of_none e hg)]; exact e), fun b mo e => ?_⟩ (.ref p)
  by_cases hb : b = p
  · subst hb; rw [updM_same] at e; cases e; exact ⟨fp, hg, us, hp, ra⟩
  · rw [updM_ne hb] at e
    obtain ⟨a1, a2, a3⟩ := w.mu b mo e
    rw [upd_ne hb] at a2
    exact ⟨a1, a2, a3⟩
section
variable {elt tg iter : Expr} {ifs : List Expr} {scope : Scope} {own : List (Str × Nat)} {dw : DTI} {js : List Nat} {g : DTG} {tt : DTT} {te : DTE} {vs : List Nat}
theorem de_lc (hc : X.calm = true) (hN : X.N.Nodup) (hi : DI X W tg iter dw) (ok : BlkOk X.N X.env.scope scope own) (hv : own.map (·.2) = vs) (hj : ∀ j ∈ js, j ∈ vs)
    (hg : ∀ (s : Shared) (H : Hp) (C : Addr) (cl : List (Str × Addr)) (fp : List Addr), DG (X.blk s H scope (compEnvC scope cl C X.env) fp) WF tg js g) (ht : ∀ (s : Shared) (H : Hp) (C : Addr) (cl : List (Str × Addr)) (fp : List Addr), DTs (X.blk s H scope (compEnvC scope cl C X.env) fp) WF ifs tt)
    (he : ∀ (s : Shared) (H : Hp) (C : Addr) (cl : List (Str × Addr)) (fp : List Addr), DE (X.blk s H scope (compEnvC scope cl C X.env) fp) WF elt te) (hs : ∀ x, foldedSetIterable iter X.env x = pure x := by intro _; rfl) :
    DE X W (.ListComp elt [⟨tg, iter, ifs, 0⟩] scope pos) (dLc dw g tt te vs) := by
  subst hv
  exact de_of (pe_lc hc hN hi.pi ok (fun s H C cl fp => (hg s H C cl fp).pg) (fun s H C cl fp => (ht s H C cl fp).pts) (fun s H C cl fp => (he s H C cl fp).pe) hs) fun ρ F G M dW dQ σ H Q P h q =>
    lc_run hj P h fun acc M' us F' H' p h' s w ra hg => lc_frz h' q s w ra hg
theorem de_lcM (hc : X.calm = true) (hN : X.N.Nodup) (hi : DI X W tg iter dw) (ok : BlkOk X.N X.env.scope scope own) (hv : own.map (·.2) = vs) (hj : ∀ j ∈ js, j ∈ vs)
    (hg : ∀ (s : Shared) (H : Hp) (C : Addr) (cl : List (Str × Addr)) (fp : List Addr), DG (X.blk s H scope (compEnvC scope cl C X.env) fp) WF tg js g) (ht : ∀ (s : Shared) (H : Hp) (C : Addr) (cl : List (Str × Addr)) (fp : List Addr), DTs (X.blk s H scope (compEnvC scope cl C X.env) fp) WF ifs tt)
    (he : ∀ (s : Shared) (H : Hp) (C : Addr) (cl : List (Str × Addr)) (fp : List Addr), DE (X.blk s H scope (compEnvC scope cl C X.env) fp) WF elt te) (hs : ∀ x, foldedSetIterable iter X.env x = pure x := by intro _; rfl) :
    DE X W (.ListComp elt [⟨tg, iter, ifs, 0⟩] scope pos) (dLcM dw g tt te vs) := by
  subst hv
  exact de_of (pe_lc hc hN hi.pi ok (fun s H C cl fp => (hg s H C cl fp).pg) (fun s H C cl fp => (ht s H C cl fp).pts) (fun s H C cl fp => (he s H C cl fp).pe) hs) fun ρ F G M dW dQ σ H Q P h q =>
    lc_run hj P h fun acc M' us F' H' p h' s w ra hg => lc_mut h' q s w ra hg
theorem ds_setLc (i : Nat) {y : Str} {py spos : Pos} (hc : X.calm = true) (hN : X.N.Nodup) (hsw : swapsWith (.ListComp elt [⟨tg, iter, ifs, 0⟩] scope pos) (some (.Name y py)) spos.line X.env = pure true) (hi : DI X W tg iter dw) (ok : BlkOk X.N X.env.scope scope own) (hv : own.map (·.2) = vs) (hj : ∀ j ∈ js, j ∈ vs)
    (hg : ∀ (s : Shared) (H : Hp) (C : Addr) (cl : List (Str × Addr)) (fp : List Addr), DG (X.blk s H scope (compEnvC scope cl C X.env) fp) WF tg js g) (ht : ∀ (s : Shared) (H : Hp) (C : Addr) (cl : List (Str × Addr)) (fp : List Addr), DTs (X.blk s H scope (compEnvC scope cl C X.env) fp) WF ifs tt)
    (he : ∀ (s : Shared) (H : Hp) (C : Addr) (cl : List (Str × Addr)) (fp : List Addr), DE (X.blk s H scope (compEnvC scope cl C X.env) fp) WF elt te) (hy : X.N[i]? = some y := by rfl) (hyl : X.env.scope.names.lookup y = some .local := by rfl) (hs : ∀ x, foldedSetIterable iter X.env x = pure x := by intro _; rfl) :
    DS X W (.Assign [.Name y py] (.ListComp elt [⟨tg, iter, ifs, 0⟩] scope pos) spos) (dAsg (dLc dw g tt te vs) (dgName i)) := by
  subst hv
  exact ds_of (ps_setLc hc hN hy hyl hsw hi.pi ok (fun s H C cl fp => (hg s H C cl fp).pg) (fun s H C cl fp => (ht s H C cl fp).pts) (fun s H C cl fp => (he s H C cl fp).pe) hs) fun ρ F G M dW dd σ H D P h q =>
    lc_run hj P h fun acc M' us F' H' p h' s w ra hg => lc_frz (dQ := fun d M => dd.nx (ρ.set i (some d)) M) (Q := fun v H => D.nx (σ.set i (some v)) H) h' (fun d M v F' H hd s w r => q.nx _ _ _ _ _ hd s ((P.rs.mo s).set r i) w) s w ra hg
theorem ds_setLcM (i : Nat) {y : Str} {py spos : Pos} (hc : X.calm = true) (hN : X.N.Nodup) (hsw : swapsWith (.ListComp elt [⟨tg, iter, ifs, 0⟩] scope pos) (some (.Name y py)) spos.line X.env = pure true) (hi : DI X W tg iter dw) (ok : BlkOk X.N X.env.scope scope own) (hv : own.map (·.2) = vs) (hj : ∀ j ∈ js, j ∈ vs)
    (hg : ∀ (s : Shared) (H : Hp) (C : Addr) (cl : List (Str × Addr)) (fp : List Addr), DG (X.blk s H scope (compEnvC scope cl C X.env) fp) WF tg js g) (ht : ∀ (s : Shared) (H : Hp) (C : Addr) (cl : List (Str × Addr)) (fp : List Addr), DTs (X.blk s H scope (compEnvC scope cl C X.env) fp) WF ifs tt)
    (he : ∀ (s : Shared) (H : Hp) (C : Addr) (cl : List (Str × Addr)) (fp : List Addr), DE (X.blk s H scope (compEnvC scope cl C X.env) fp) WF elt te) (hy : X.N[i]? = some y := by rfl) (hyl : X.env.scope.names.lookup y = some .local := by rfl) (hs : ∀ x, foldedSetIterable iter X.env x = pure x := by intro _; rfl) :
    DS X W (.Assign [.Name y py] (.ListComp elt [⟨tg, iter, ifs, 0⟩] scope pos) spos) (dAsg (dLcM dw g tt te vs) (dgName i)) := by
  subst hv
  exact ds_of (ps_setLc hc hN hy hyl hsw hi.pi ok (fun s H C cl fp => (hg s H C cl fp).pg) (fun s H C cl fp => (ht s H C cl fp).pts) (fun s H C cl fp => (he s H C cl fp).pe) hs) fun ρ F G M dW dd σ H D P h q =>
    lc_run hj P h fun acc M' us F' H' p h' s w ra hg => lc_mut (dQ := fun d M => dd.nx (ρ.set i (some d)) M) (Q := fun v H => D.nx (σ.set i (some v)) H) h' (fun d M v F' H hd s w r => q.nx _ _ _ _ _ hd s ((P.rs.mo s).set r i) w) s w ra hg
end

/-! ### defs -/
abbrev DSp := List D → MH → DK → DX → Prop
def LX (K : PySem.W.Frag) (F G : Hp) (dE : DX) (E : XK) : Prop := ∀ cls fx M F' H da, dE cls fx M → Same F F' → WW K F' G M H → RX K F' fx da → E cls da H
def LSp (K : PySem.W.Frag) (dsp : DSp) : Sp := fun vs H Q E => ∃ ds F G M dQ dE, RVs K F ds vs ∧ WW K F G M H ∧ dsp ds M dQ dE ∧ LQ K F G dQ Q ∧ LX K F G dE E
def startD (N : List Str) (ds : List D) : DSt := ds.map some ++ List.replicate (N.length - ds.length) none
theorem start_rs {N : List Str} {ds : List D} {vs : List V} (r : RVs K F ds vs) : RS K F (startD N ds) (L2.start N vs) := by
  unfold startD L2.start
  rw [r.len]
  refine ⟨by simp [r.len], fun i d e => ?_⟩
  by_cases hi : i < ds.length
  · rw [List.getElem?_append_left (by simpa using hi), List.getElem?_map] at e
    rw [List.getElem?_append_left (by simpa [← r.len] using hi), List.getElem?_map]
    cases h : ds[i]? with
    | none => rw [h] at e; cases e
    | some d' =>
      rw [h] at e; cases e
      obtain ⟨v, h1, h2⟩ := r.get h
      exact ⟨v, by rw [h1]; rfl, h2⟩
  · rw [List.getElem?_append_right (by simpa using hi), List.getElem?_replicate] at e
    split at e <;> cases e
section
variable {P : Program} {w : World} {mg : Str → Option Value} {base : Heap}
/-- what stands around a def's body -/
abbrev bodyX (P : Program) (w : World) (K : PySem.W.Frag) (mg : Str → Option Value) (base : Heap) (N : List Str) (qual : Str) (sc : Scope) (f : Addr) (cdv : Value) (A : Around) (outer : List Env) (s : Shared) (H : Hp) (E : XK) : Cx := cxOf (L2.CX P w) P w K mg base N qual sc f cdv A outer s H E
abbrev bodyW (E : XK) : WX := fun cls d _ H => E cls d H
theorem dfun_ok {x qual : Str} {st : Stmt} {f : Addr} {fd : FuncData} {N ps : List Str} {k : Nat} {dsp : DSp} {dt : DTS} (Fn : Fun K x qual st f fd) (S : FnScope N ps (defScope st)) (len : ∀ ds M Q E, dsp ds M Q E → ds.length = ps.length)
    (body : ∀ cdv A outer s H E, Room k (A.deeper (PyProof.Rows.envOfC qual (defScope st) s.heap.objs.size f cdv)) → DSs (bodyX P w K mg base N qual (defScope st) f cdv A outer s H E) (bodyW E) (defBody st) dt)
    (sem : ∀ ds M Q E, dsp ds M Q E → dt (fun cls fx _ M' => E cls fx M') { nx := fun _ M' => Q .non M', rt := Q } (startD N ds) M) : FnOk P w K mg base (L2.CX P w) (k + 1) f fd ps (LSp K dsp) := by
  refine Fn.okX S (fun vs H Q E ⟨ds, F, G, M, dQ, dE, r, _, h, _⟩ => by rw [← r.len]; exact len _ _ _ _ h) fun cdv A outer s H vs Q E hr ⟨ds, F, G, M, dQ, dE, r, ww, h, lq, lx⟩ => ⟨_, (body cdv A outer s H E hr).pss, startD N ds, F, G, M, _, _, ⟨start_rs r, ww, ?_⟩, sem _ _ _ _ h, ⟨?_, lq, ?_, ?_⟩⟩
  · exact fun cls fx ρ M' σ F' H' da hd s' _ w' rx => lx _ _ _ _ _ _ hd s' w' rx
  · exact fun ρ M' σ F' H' hd s' _ w' => lq _ _ _ _ _ hd s' w' .non
  · exact fun _ _ _ _ _ z => z.elim
  · exact fun _ _ _ _ _ z => z.elim
theorem body_takes {N : List Str} {qual : Str} {sc : Scope} {f : Addr} {cdv : Value} {A : Around} {outer : List Env} {s : Shared} {H : Hp} {E : XK} : Takes (bodyX P w K mg base N qual sc f cdv A outer s H E) (bodyW E) := takes_of rfl rfl rfl rfl
theorem body_passes {N : List Str} {qual : Str} {sc : Scope} {f : Addr} {cdv : Value} {A : Around} {outer : List Env} {s : Shared} {H : Hp} {E : XK} : PassesOwn (model P w) (bodyX P w K mg base N qual sc f cdv A outer s H E).A (bodyX P w K mg base N qual sc f cdv A outer s H E).env (bodyX P w K mg base N qual sc f cdv A outer s H E).xe :=
  passes_of (X := bodyX P w K mg base N qual sc f cdv A outer s H E) rfl
end

/-! ### calls -/
section
variable {k : Nat} {f : Addr} {fd : FuncData} {ps : List Str} {dsp : DSp} {x : Str} {p : Pos}
def dCall (dsp : DSp) (dt : DTA) : DTE := fun W ρ M Q => dt W ρ M fun ds M1 => dsp ds M1 Q fun cls fx M2 => W cls fx ρ M2
theorem call_lift {ρ : DSt} {dW : DWX} {dQ : DK} {σ : L2.St} {Q : VK} (P : Pt K W F G ρ M dW σ H) {ds : List D} {M1 : MH} {vs : List V} {F1 H1 : Hp} (h1 : dsp ds M1 dQ fun cls fx M2 => dW cls fx ρ M2) (s1 : Same F F1) (w1 : WW K F1 G M1 H1) (r1 : RVs K F1 ds vs) (q : LQ K F G dQ Q) :
    LSp K dsp vs H1 Q (WE W σ) :=
  ⟨ds, F1, G, M1, dQ, _, r1, w1, h1, q.mo s1, fun cls fx M2 F2 H2 da hd s2 w2 rx => P.lw cls fx ρ M2 σ F2 H2 da hd (s1.trans s2) (P.rs.mo (s1.trans s2)) w2 rx⟩
theorem de_call (Fn : FnOk X.prog X.w X.K X.mg X.base (L2.CX X.prog X.w) k f fd ps (LSp X.K dsp)) (hr : Room k X.A) (hm : X.mg x = some (.ref f)) (hk : PySem.W.keepIn X.K (.ref f) = true) (hb : Binds X.K fd ps []) (tk : Takes X W)
    (ha : DA X W (e :: es) dt) (hg : Gl X x := by rfl) (hdb : (x == ("__debug__" : Str)) = false := by decide) (he : starEach (e :: es) X.env = (false, eval e X.env) :: starEach es X.env := by rfl) (hpl : (backTo pos (starEach es X.env)).any (·.1) = false := by rfl) :
    DE X W (.Call (.Name x p) (e :: es) [] pos) (dCall dsp dt) :=
  de_of (pe_callS Fn hr hg hm hk hb (fun σ => passAt tk σ) ha.pa hdb he hpl) fun ρ F G M dW dQ σ H Q P h q => ⟨ρ, F, G, M, dW, _, P, h, fun ds M1 vs F1 H1 h1 s1 w1 r1 => call_lift P h1 s1 w1 r1 q⟩
theorem pe_callS0 {sp : Sp} {E : L2.St → XK} (Fn : FnOk X.prog X.w X.K X.mg X.base (L2.CX X.prog X.w) k f fd ps sp) (hr : Room k X.A) (hg : Gl X x) (hm : X.mg x = some (.ref f)) (hk : PySem.W.keepIn X.K (.ref f) = true) (hb : Binds X.K fd ps []) (hx : ∀ σ, PassesAt (L2.CX X.prog X.w) X σ (E σ))
    (hdb : (x == ("__debug__" : Str)) = false := by decide) : PE X (.Call (.Name x p) [] [] pos) (fun σ H Q => sp [] H Q (E σ)) := by
  refine ⟨fun pins s σ H Q I h => ?_⟩
  refine wpAny_Call_Name_kw (ld_glob I hg hm ?_ hdb)
  exact PySem.W.callWith_K0 I.kIn hk (run_fnS (us := []) Fn hr hb (hx σ) I .nil h)
theorem de_call0 (Fn : FnOk X.prog X.w X.K X.mg X.base (L2.CX X.prog X.w) k f fd ps (LSp X.K dsp)) (hr : Room k X.A) (hm : X.mg x = some (.ref f)) (hk : PySem.W.keepIn X.K (.ref f) = true) (hb : Binds X.K fd ps []) (tk : Takes X W)
    (hg : Gl X x := by rfl) (hdb : (x == ("__debug__" : Str)) = false := by decide) : DE X W (.Call (.Name x p) [] [] pos) (dCall dsp dNil) :=
  de_of (pe_callS0 Fn hr hg hm hk hb (fun σ => passAt tk σ) hdb) fun ρ F G M dW dQ σ H Q P h q => call_lift P h (Same.refl F) P.ww .nil q
end

/-! ### errors -/
/-- raise C('..') of an own class without __init__ -/
def dRaise (C : Addr) : DTS := fun W _ ρ M => W (.ref C) none ρ M
theorem ds_raise {C : Addr} {t : L2.St → Hp → XK → Prop} (hc : X.calm = true) (tk : Takes X W) (he : PMk X e t) (ht : ∀ σ H Q, Q (.ref C) none H → t σ H Q) : DS X W (.Raise (some e) none pos) (dRaise C) :=
  ds_of (ps_raise hc tk he) fun ρ F G M dW dd σ H D P h q => ht _ _ _ (P.lw _ _ _ _ _ F _ _ h (Same.refl F) P.rs P.ww fun fs z => nomatch z)
/-- try: .. except x: .. -/
def dTry (K : PySem.W.Frag) (c : Value) (tb ts : DTS) : DTS := fun W D ρ M => tb (fun cls fx ρ' M' => ∃ b, PySem.W.exmOne K cls c = some b ∧ (b = true → ts W0 D ρ' M') ∧ (b = false → W cls fx ρ' M')) D ρ M
theorem ds_try {x : Str} {c : Value} {body suite : List Stmt} {b₀ : Stmt} {np pos' : Pos} {tb ts : DTS} (hc : Names X x c) (tk : Takes X W)
    (hb : ∀ (W' : WX) (pn : List (Addr × Obj)) (xe : Value → Shared → Prop), Takes (X.tr pn xe) W' → PassesOwn (model X.prog X.w) X.A X.env xe → DSs (X.tr pn xe) W' body tb)
    (hsu : ∀ (a : Addr) (pn : List (Addr × Obj)), DSs (X.suite a pn) WF (b₀ :: suite) ts) (hs : X.stack = X.env :: X.outer := by rfl) (hf : X.env.frame = some X.env.locals := by rfl) :
    DS X W (.Try body [.ExceptHandler (some (.Name x np)) none (b₀ :: suite) pos'] [] [] pos) (dTry X.K c tb ts) :=
  ds_of (ps_try_only (tb := fun W' => LS X.K W' tb) (ts := fun _ _ _ => LS X.K WF ts) (Wout := W) hs hf hc tk (fun W' pn xe t p => (hb W' pn xe t p).pss) (fun a oe cls d pn _ _ => (hsu a _).pss)) fun ρ F G M dW dd σ H D P h q =>
    ⟨ρ, F, G, M, _, dd, ⟨P.rs, P.ww, fun cls fx ρ' M' σ' F' H' da ⟨b, h1, h2, h3⟩ s' rs' w' rx => ⟨b, h1, fun e a _ => ⟨ρ', F', G, M', W0, dd, ⟨rs', w', fun _ _ _ _ _ _ _ _ z => z.elim⟩, h2 e, q.mo s'⟩, fun e => P.lw _ _ _ _ _ _ _ _ (h3 e) s' rs' w' rx⟩⟩, h, q⟩
end
end DL

/-! The deep layer, part 6: rules that look at the tree. -/
namespace DL
open PySem L2

/-! ### plain data -/
mutual
def D.py : D → Option PyData
  | .non => some .none
  | .bl b => some (.bool b)
  | .int i => some (.int i)
  | .str s => some (.str s)
  | .tup l => (pys l).map .tuple
  | .lst l => (pys l).map .list
  | .scr l => (pys l).map .list
  | .ref _ => none
def pys : List D → Option (List PyData)
  | [] => some []
  | d :: ds => match D.py d, pys ds with
    | some p, some ps => some (p :: ps)
    | _, _ => none
end
section
variable {K : PySem.W.Frag} {F G H : Hp} {M : MH}
mutual
theorem py_dp (s : Same F H) : ∀ (d : D) (v : V) (p : PyData), RV K F d v → D.py d = some p → Dp K H v p
  | .non, _, _, r, e => by cases r; cases e; exact .non
  | .bl b, _, _, r, e => by cases r; cases e; exact .bl b
  | .int b, _, _, r, e => by cases r; cases e; exact .int b
  | .str b, _, _, r, e => by cases r; cases e; exact .str b
  | .ref b, _, _, r, e => by cases e
  | .tup l, _, _, r, e => by
    cases r with
    | tup q rs =>
      unfold D.py at e
      cases h : pys l with
      | none => rw [h] at e; cases e
      | some ps => rw [h] at e; cases e; exact .tup (sqT_mono s q) (pys_dp s l _ ps rs h)
  | .lst l, _, _, r, e => by
    cases r with
    | lst q rs =>
      unfold D.py at e
      cases h : pys l with
      | none => rw [h] at e; cases e
      | some ps => rw [h] at e; cases e; exact .lst (SqL.of (s _ _ q)) (pys_dp s l _ ps rs h)
  | .scr l, _, _, r, e => by
    cases r with
    | scr q rs =>
      unfold D.py at e
      cases h : pys l with
      | none => rw [h] at e; cases e
      | some ps => rw [h] at e; cases e; exact .lst (sqL_mono s q) (pys_dp s l _ ps rs h)
theorem pys_dp (s : Same F H) : ∀ (ds : List D) (vs : List V) (ps : List PyData), RVs K F ds vs → pys ds = some ps → DpAll K H vs ps
  | [], _, _, r, e => by cases r; cases e; exact .nil
  | d :: ds, _, _, r, e => by
    cases r with
    | cons a b =>
      unfold pys at e
      cases h1 : D.py d with
      | none => rw [h1] at e; cases e
      | some p =>
        cases h2 : pys ds with
        | none => rw [h1, h2] at e; cases e
        | some ps => rw [h1, h2] at e; cases e; exact .cons (py_dp s d _ p a h1) (pys_dp s ds _ ps b h2)
end
/-- a list that changes, as it stands -/
def res (M : MH) : D → D
  | .ref a => match M a with
    | some (.lst ds) => .lst ds
    | _ => .ref a
  | d => d
theorem res_dp {d : D} {v : V} {p : PyData} (w : WW K F G M H) (r : RV K F d v) (e : D.py (res M d) = some p) : Dp K H v p := by
  cases d with
  | ref a =>
    cases r
    cases hm : M a with
    | none =>
      have : res M (.ref a) = .ref a := by simp only [res, hm]
      rw [this] at e; cases e
    | some mo =>
      cases mo with
      | lst ds =>
        have h1 : res M (.ref a) = .lst ds := by simp only [res, hm]
        rw [h1] at e
        obtain ⟨_, _, vs, hv, rs⟩ := w.mu _ _ hm
        unfold D.py at e
        cases h : pys ds with
        | none => rw [h] at e; cases e
        | some ps => rw [h] at e; cases e; exact .lst (SqL.of hv) (pys_dp w.fr ds _ ps rs h)
      | _ =>
        have : res M (.ref a) = .ref a := by simp only [res, hm]
        rw [this] at e; cases e
  | _ => exact py_dp w.fr _ _ _ r e

/-! ### == and != -/
def eqOk : PyData → PyData → Bool
  | .str _, .str _ => true
  | .str _, .none => true
  | .none, .str _ => true
  | .str _, .int _ => true
  | .int _, .str _ => true
  | p, q => SeqAt.shaped p && SeqAt.shaped q
def drEq (neg : Bool) : D → D → MH → DK → Prop := fun d1 d2 M Q => match D.py (res M d1), D.py (res M d2) with
  | some p, some q => eqOk p q = true ∧ Q (.bl (neg != PyData.eqv p q)) M
  | _, _ => False
theorem dp_str {v : V} {s : Str} (h : Dp K H v (.str s)) : v = .str s := by cases h; rfl
theorem dp_int {v : V} {s : Int} (h : Dp K H v (.int s)) : v = .int s := by cases h; rfl
theorem dp_non {v : V} (h : Dp K H v .none) : v = .non := by cases h; rfl
theorem eqOk_cases {p q : PyData} (h : eqOk p q = true) : (SeqAt.shaped p = true ∧ SeqAt.shaped q = true) ∨ (∀ v w : V, Dp K H v p → Dp K H w q → scal v w = true ∧ decide (v = w) = PyData.eqv p q) := by
  unfold eqOk at h
  split at h
  · refine .inr fun v w hv hw => ?_
    rw [dp_str hv, dp_str hw]
    exact ⟨rfl, by unfold PyData.eqv; exact dec_str⟩
  · refine .inr fun v w hv hw => ?_
    rw [dp_str hv, dp_non hw]
    exact ⟨rfl, by unfold PyData.eqv; simp⟩
  · refine .inr fun v w hv hw => ?_
    rw [dp_non hv, dp_str hw]
    exact ⟨rfl, by unfold PyData.eqv; simp⟩
  · refine .inr fun v w hv hw => ?_
    rw [dp_str hv, dp_int hw]
    exact ⟨rfl, by unfold PyData.eqv; simp⟩
  · refine .inr fun v w hv hw => ?_
    rw [dp_int hv, dp_str hw]
    exact ⟨rfl, by unfold PyData.eqv; simp⟩
  · exact .inl (Bool.and_eq_true_iff.mp h)
theorem lk_eq : LkR2 K (fun x y H Q => rEq x y H Q ∨ rEqD K x y H Q) (drEq false) := by
  intro F G M H d1 d2 v1 v2 dQ Q w r1 r2 h q
  unfold drEq at h
  split at h
  · rename_i p p' e1 e2
    have h1 := res_dp w r1 e1
    have h2 := res_dp w r2 e2
    rw [Bool.false_bne] at h
    have fin := q _ _ _ _ _ h.2 (Same.refl F) w (.bl _)
    rcases eqOk_cases (K := K) (H := H) h.1 with ⟨a, b⟩ | z
    · exact .inr ⟨p, p', h1, h2, a, b, fin⟩
    · obtain ⟨a, b⟩ := z v1 v2 h1 h2
      exact .inl ⟨a, by rw [b]; exact fin⟩
  · exact h.elim
theorem lk_ne : LkR2 K (fun x y H Q => rNe x y H Q ∨ rNeD K x y H Q) (drEq true) := by
  intro F G M H d1 d2 v1 v2 dQ Q w r1 r2 h q
  unfold drEq at h
  split at h
  · rename_i p p' e1 e2
    have h1 := res_dp w r1 e1
    have h2 := res_dp w r2 e2
    rw [Bool.true_bne] at h
    have fin := q _ _ _ _ _ h.2 (Same.refl F) w (.bl _)
    rcases eqOk_cases (K := K) (H := H) h.1 with ⟨a, b⟩ | z
    · exact .inr ⟨p, p', h1, h2, a, b, fin⟩
    · obtain ⟨a, b⟩ := z v1 v2 h1 h2
      exact .inl ⟨a, by rw [b]; exact fin⟩
  · exact h.elim
/-! ### in -/
def flatP : PyData → Bool
  | .none => true
  | .bool _ => true
  | .int _ => true
  | .str _ => true
  | _ => false
theorem dp_flat {v : V} {p : PyData} (h : Dp K H v p) (f : flatP p = true) : flatV v = true := by
  cases h <;> first | rfl | cases f
theorem dps_flat : ∀ {vs : List V} {ps : List PyData}, DpAll K H vs ps → ps.all flatP = true → vs.all flatV = true
  | _, [], .nil, _ => rfl
  | _, p :: ps, .cons a b, f => by
    rw [List.all_cons, Bool.and_eq_true] at f
    rw [List.all_cons, dp_flat a f.1, dps_flat b f.2]
    rfl
theorem eqV_eqv {v u : V} {p q : PyData} (h1 : Dp K H v p) (h2 : Dp K H u q) (f1 : flatP p = true) (f2 : flatP q = true) : eqV v u = PyData.eqv p q := by
  cases h1 <;> cases h2 <;> first | (cases f1; done) | (cases f2; done) | (unfold PyData.eqv eqV; rfl)
theorem inV_any {v : V} {p : PyData} (h : Dp K H v p) (f : flatP p = true) : ∀ {vs : List V} {ps : List PyData}, DpAll K H vs ps → ps.all flatP = true → inV v vs = ps.any fun z => PyData.eqv z p
  | _, [], .nil, _ => rfl
  | _, q :: ps, .cons a b, g => by
    rw [List.all_cons, Bool.and_eq_true] at g
    have ih := inV_any h f b g.2
    unfold inV at ih ⊢
    rw [List.any_cons, List.any_cons, ih, eqV_eqv a h g.1 f]
def drIn (neg : Bool) : D → D → MH → DK → Prop := fun d1 d2 M Q => match d2 with
  | .str z => match d1 with
    | .str s => ∃ c, s = ⟨#[c]⟩ ∧ Q (.bl (neg != decide (c ∈ z.cps.toList))) M
    | _ => False
  | .tup ds => match D.py d1, pys ds with
    | some p, some ps => (flatP p && ps.all flatP) = true ∧ Q (.bl (neg != ps.any fun z => PyData.eqv z p)) M
    | _, _ => False
  | d => match D.py d1, D.py (res M d) with
    | some p, some (.list ps) => SeqAt.shaped p = true ∧ SeqAt.shaped (.list ps) = true ∧ Q (.bl (neg != ps.any fun z => PyData.eqv z p)) M
    | _, _ => False
end

section
variable {X : Cx} {W : WX} {K : PySem.W.Frag} {F G H : Hp} {M : MH} {a b : Expr} {da db : DTE} {pos : Pos}
abbrev dEq : DTE → DTE → DTE := dOp (drEq false)
abbrev dNe : DTE → DTE → DTE := dOp (drEq true)
theorem op_eqA (hu : X.A.units + 64 < cLine) : OpR X (compareOp .Eq) (fun x y H Q => rEq x y H Q ∨ rEqD X.K x y H Q) := op_eq.or (op_eqD hu)
theorem op_neA (hu : X.A.units + 64 < cLine) : OpR X (compareOp .NotEq) (fun x y H Q => rNe x y H Q ∨ rNeD X.K x y H Q) := op_ne.or (op_neD hu)
theorem de_eq (hu : X.A.units + 64 < cLine) (ha : DE X W a da) (hb : DE X W b db) : DE X W (.Compare a [.Eq] [b] pos) (dEq da db) := de_cmp (op_eqA hu) lk_eq ha hb (nomark _)
theorem dt_eq (hu : X.A.units + 64 < cLine) (ha : DE X W a da) (hb : DE X W b db) : DT X W (.Compare a [.Eq] [b] pos) (dTest (dEq da db)) := dt_cmp (op_eqA hu) lk_eq ha hb (nomark _)
theorem de_ne (hu : X.A.units + 64 < cLine) (ha : DE X W a da) (hb : DE X W b db) : DE X W (.Compare a [.NotEq] [b] pos) (dNe da db) := de_cmp (op_neA hu) lk_ne ha hb (nomark _)
theorem dt_ne (hu : X.A.units + 64 < cLine) (ha : DE X W a da) (hb : DE X W b db) : DT X W (.Compare a [.NotEq] [b] pos) (dTest (dNe da db)) := dt_cmp (op_neA hu) lk_ne ha hb (nomark _)

/-! ### in -/
def rInAny (K : PySem.W.Frag) (neg : Bool) : R2 := fun x y H Q => (∃ (c : Nat) (z : Str), x = .str ⟨#[c]⟩ ∧ y = .str z ∧ Q (.bl (neg != decide (c ∈ z.cps.toList))) H) ∨
  (∃ d ds, Dp K H x d ∧ Dp K H y (.list ds) ∧ SeqAt.shaped d = true ∧ SeqAt.shaped (.list ds) = true ∧ Q (.bl (neg != ds.any fun z => PyData.eqv z d)) H) ∨
  (∃ p xs, y = .ref p ∧ SqT K H p xs ∧ flatV x = true ∧ xs.all flatV = true ∧ Q (.bl (neg != inV x xs)) H)
theorem opr_imp {f : Value → Value → Sem Value} {r r' : R2} (h : OpR X f r) (i : ∀ x y H Q, r' x y H Q → r x y H Q) : OpR X f r' := fun pins s σ H x y v u Q I rx ry q => h pins s σ H x y v u Q I rx ry (i x y H Q q)
theorem op_inAny (hu : X.A.units + 65 < cLine) : OpR X (compareOp .In) (rInAny X.K false) := by
  refine opr_imp (op_in_sign.or ((op_inD hu).or op_in_seq)) fun x y H Q q => ?_
  rcases q with ⟨c, z, h1, h2, h3⟩ | ⟨d, ds, h1, h2, h3, h4, h5⟩ | ⟨p, xs, h1, h2, h3, h4, h5⟩
  · rw [Bool.false_bne] at h3; exact .inl ⟨c, z, h1, h2, h3⟩
  · rw [Bool.false_bne] at h5; exact .inr (.inl ⟨d, ds, h1, h2, h3, h4, h5⟩)
  · rw [Bool.false_bne] at h5; exact .inr (.inr ⟨p, xs, h1, .inr h2, h3, h4, h5⟩)
theorem op_notInAny (hu : X.A.units + 65 < cLine) : OpR X (compareOp .NotIn) (rInAny X.K true) := by
  refine opr_imp (op_notIn_sign.or ((op_notInD hu).or op_notIn_seq)) fun x y H Q q => ?_
  rcases q with ⟨c, z, h1, h2, h3⟩ | ⟨d, ds, h1, h2, h3, h4, h5⟩ | ⟨p, xs, h1, h2, h3, h4, h5⟩
  · rw [Bool.true_bne] at h3; exact .inl ⟨c, z, h1, h2, h3⟩
  · rw [Bool.true_bne] at h5; exact .inr (.inl ⟨d, ds, h1, h2, h3, h4, h5⟩)
  · rw [Bool.true_bne] at h5; exact .inr (.inr ⟨p, xs, h1, .inr h2, h3, h4, h5⟩)
theorem lk_in (neg : Bool) : LkR2 K (rInAny K neg) (drIn neg) := by
  intro F G M H d1 d2 v1 v2 dQ Q w r1 r2 h q
  have deep : ∀ {p : PyData} {ps : List PyData}, D.py d1 = some p → D.py (res M d2) = some (.list ps) → SeqAt.shaped p = true ∧ SeqAt.shaped (.list ps) = true ∧ dQ (.bl (neg != ps.any fun z => PyData.eqv z p)) M → rInAny K neg v1 v2 H Q := fun {p ps} e1 e2 z =>
    .inr (.inl ⟨p, ps, py_dp w.fr _ _ _ r1 e1, res_dp w r2 e2, z.1, z.2.1, q _ _ _ _ _ z.2.2 (Same.refl F) w (.bl _)⟩)
  unfold drIn at h
  split at h
  · split at h
    · obtain ⟨c, rfl, hq⟩ := h
      cases r1
      cases r2
      exact .inl ⟨c, _, rfl, rfl, q _ _ _ _ _ hq (Same.refl F) w (.bl _)⟩
    · exact h.elim
  · rename_i ds
    split at h
    · rename_i p ps e1 e2
      obtain ⟨f, hq⟩ := h
      rw [Bool.and_eq_true] at f
      obtain ⟨a, vs, rfl, sq, rs⟩ := tup_view w r2
      have h1 := py_dp w.fr _ _ _ r1 e1
      have h2 := pys_dp w.fr _ _ _ rs e2
      refine .inr (.inr ⟨a, vs, rfl, sq, dp_flat h1 f.1, dps_flat h2 f.2, ?_⟩)
      rw [inV_any h1 f.1 h2 f.2]
      exact q _ _ _ _ _ hq (Same.refl F) w (.bl _)
    · exact h.elim
  · split at h
    · rename_i p ps e1 e2
      exact deep e1 e2 h
    · exact h.elim
abbrev dIn : DTE → DTE → DTE := dOp (drIn false)
abbrev dNotIn : DTE → DTE → DTE := dOp (drIn true)
theorem de_in (hu : X.A.units + 65 < cLine) (ha : DE X W a da) (hb : DE X W b db) (hm : behindInMarks .In b = false := by rfl) : DE X W (.Compare a [.In] [b] pos) (dIn da db) := de_cmp (op_inAny hu) (lk_in false) ha hb hm
theorem dt_in (hu : X.A.units + 65 < cLine) (ha : DE X W a da) (hb : DE X W b db) (hm : behindInMarks .In b = false := by rfl) : DT X W (.Compare a [.In] [b] pos) (dTest (dIn da db)) := dt_cmp (op_inAny hu) (lk_in false) ha hb hm
theorem de_notin (hu : X.A.units + 65 < cLine) (ha : DE X W a da) (hb : DE X W b db) (hm : behindInMarks .NotIn b = false := by rfl) : DE X W (.Compare a [.NotIn] [b] pos) (dNotIn da db) := de_cmp (op_notInAny hu) (lk_in true) ha hb hm
theorem dt_notin (hu : X.A.units + 65 < cLine) (ha : DE X W a da) (hb : DE X W b db) (hm : behindInMarks .NotIn b = false := by rfl) : DT X W (.Compare a [.NotIn] [b] pos) (dTest (dNotIn da db)) := dt_cmp (op_notInAny hu) (lk_in true) ha hb hm

/-! ### + -/
/-- list + list, the right one perhaps locked -/
theorem op_catL : OpR X (binaryOp .Add) (fun x y H Q => ∃ l b xs zs, x = .ref l ∧ y = .ref b ∧ SqL X.K H l xs ∧ SqL X.K H b zs ∧ xs.length + zs.length ≤ sizeLine ∧ ∀ p, H p = none → Q (.ref p) (upd H p (.lst (xs ++ zs)))) := by
  intro pins s σ H x y v u Q I rx ry h
  obtain ⟨l, b, xs, zs, rfl, rfl, hl, hb, hz, q⟩ := h
  cases rx
  cases ry
  obtain ⟨its, r, pl, _⟩ := I.list hl
  obtain ⟨its2, r2, pl2, _⟩ := I.list hb
  obtain ⟨⟨cls, dd, data, sl⟩, ho, hc, n, hd⟩ := pl.isList
  obtain ⟨⟨cls2, dd2, data2, sl2⟩, ho2, hc2, n2, hd2⟩ := pl2.isList
  simp only at hc hd hc2 hd2
  subst hc hd hc2 hd2
  have e : its.toArray ++ its2.toArray = (its ++ its2).toArray := by simp
  have hsz : its.toArray.size + its2.toArray.size ≤ sizeLine := by
    rw [List.size_toArray, List.size_toArray, ← r.length, ← r2.length]; exact hz
  refine PySem.concat_meets ⟨_, ho, rfl⟩ ⟨_, ho2, rfl⟩ PySem.noFill_list_add PySem.seq_list_add PySem.F.slot_list_add PySem.F.entry_list_add (PySem.F.args_list_add_2 _ _) (PyProof.Rows.list_addW l b its.toArray its2.toArray n n2 dd dd2 sl sl2 hsz) ⟨ho, ho2, ?_⟩
  rw [e]
  exact ⟨.ref _, _, I.lnew (t' := s.toks) (r.append r2) (by rw [List.length_append]; exact hz), rfl, q _ I.fresh⟩
def drPlus : D → D → MH → DK → Prop := fun d1 d2 M Q => match d1, d2 with
  | .int i, .int j => Q (.int (i + j)) M
  | .str i, .str j => i.length + j.length ≤ 16777216 ∧ Q (.str (i ++ j)) M
  | .tup xs, .tup ys => xs.length + ys.length ≤ 16777216 ∧ Q (.tup (xs ++ ys)) M
  | d, e => match lstOf M d, lstOf M e with
    | some xs, some ys => xs.length + ys.length ≤ 16777216 ∧ Q (.lst (xs ++ ys)) M
    | _, _ => False
def rPlus (K : PySem.W.Frag) : R2 := fun x y H Q => rI0 (fun i j => .int (i + j)) x y H Q ∨ (∃ i j, x = .str i ∧ y = .str j ∧ i.length + j.length ≤ sizeLine ∧ Q (.str (i ++ j)) H) ∨ rCatA K x y H Q ∨
  (∃ l b xs zs, x = .ref l ∧ y = .ref b ∧ SqL K H l xs ∧ SqL K H b zs ∧ xs.length + zs.length ≤ sizeLine ∧ ∀ p, H p = none → Q (.ref p) (upd H p (.lst (xs ++ zs))))
theorem op_plus : OpR X (binaryOp .Add) (rPlus X.K) := op_add.or (op_add_str.or (op_catA.or op_catL))
theorem lk_plus : LkR2 K (rPlus K) drPlus := by
  intro F G M H d1 d2 v1 v2 dQ Q w r1 r2 h q
  unfold drPlus at h
  split at h
  · cases r1
    cases r2
    exact .inl ⟨_, _, rfl, rfl, q _ _ _ _ _ h (Same.refl F) w (.int _)⟩
  · cases r1
    cases r2
    exact .inr (.inl ⟨_, _, rfl, rfl, by rw [← line_eq]; exact h.1, q _ _ _ _ _ h.2 (Same.refl F) w (.str _)⟩)
  · rename_i xs ys
    obtain ⟨a, vs, rfl, sq, rs⟩ := tup_view w r1
    obtain ⟨b, us, rfl, sq2, rs2⟩ := tup_view w r2
    refine .inr (.inr (.inl ⟨a, b, vs, us, rfl, rfl, sq, sq2, by rw [← line_eq, ← rs.len, ← rs2.len]; exact h.1, fun e => ?_, fun _ e => ?_, fun _ _ p hp => q.newT w (rs.app rs2) h.2 hp⟩))
    · subst e
      cases rs
      exact q _ _ _ _ _ h.2 (Same.refl F) w r2
    · subst e
      cases rs2
      have h2 := h.2
      rw [List.append_nil] at h2
      exact q _ _ _ _ _ h2 (Same.refl F) w r1
  · split at h
    · rename_i xs ys e1 e2
      obtain ⟨a, vs, rfl, sq, rs⟩ := lst_view w r1 e1
      obtain ⟨b, us, rfl, sq2, rs2⟩ := lst_view w r2 e2
      exact .inr (.inr (.inr ⟨a, b, vs, us, rfl, rfl, sq, sq2, by rw [← line_eq, ← rs.len, ← rs2.len]; exact h.1, fun p hp => q.newL w (rs.app rs2) h.2 hp⟩))
    · exact h.elim
abbrev dPlus : DTE → DTE → DTE := dOp drPlus
theorem de_plus (ha : DE X W a da) (hb : DE X W b db) : DE X W (.BinOp a .Add b pos) (dPlus da db) := de_op op_plus lk_plus ha hb
/-! ### items and parts of anything -/
def drIxA : D → D → MH → DK → Prop := fun d1 d2 M Q => match d2 with
  | .int i => match d1 with
    | .str z => match atI z.cps.toList i with
      | some c => z.length ≤ 16777216 ∧ Q (.str ⟨#[c]⟩) M
      | none => False
    | d => match seqOf M d with
      | some ds => match atI ds i with
        | some d => Q d M
        | none => False
      | none => False
  | _ => False
theorem lk_ixA : LkR2 K (rIx K) drIxA := by
  intro F G M H d1 d2 v1 v2 dQ Q w r1 r2 h q
  unfold drIxA at h
  split at h
  · cases r2
    split at h
    · split at h
      · rename_i c ec
        cases r1
        exact .inr (.inr ⟨_, _, c, rfl, rfl, by rw [← line_eq]; exact h.1, ec, q _ _ _ _ _ h.2 (Same.refl F) w (.str _)⟩)
      · exact h.elim
    · split at h
      · rename_i ds es
        split at h
        · rename_i d ed
          obtain ⟨a, vs, rfl, hq, rs⟩ := seq_view w r1 es
          obtain ⟨v, h1, h2⟩ := atI_rv rs ed
          have fin : Q v H := q _ _ _ _ _ h (Same.refl F) w h2
          rcases hq with hq | hq
          · exact .inl ⟨a, vs, _, v, rfl, rfl, hq, h1, fin⟩
          · exact .inr (.inl ⟨a, vs, _, v, rfl, rfl, hq, h1, fin⟩)
        · exact h.elim
      · exact h.elim
  · exact h.elim
abbrev dItem : DTE → DTE → DTE := dOp drIxA
theorem de_item (ha : DE X W a da) (hb : DE X W b db) (hs : PlainIx b := by exact fun _ _ => rfl) : DE X W (.Subscript a b pos) (dItem da db) :=
  de_of (pe_ix ix_seq ha.pe hb.pe hs) fun ρ F G M dW dQ σ H Q P h q => op_run lk_ixA P h q
def drSl : D → Option Int → Option Int → MH → DK → Prop := fun d l u M Q => match d with
  | .str z => z.length ≤ 16777216 ∧ Q (.str (cutS z l u)) M
  | .tup ds => Q (.tup (cutD ds l u)) M
  | d => match lstOf M d with
    | some ds => Q (.lst (cutD ds l u)) M
    | none => False
theorem cut_whole {α : Type} (ds : List α) {l u : Option Int} (h : HT.sIx ds.length 0 l = 0 ∧ HT.sIx ds.length ds.length u = ds.length) : cutD ds l u = ds := by
  unfold cutD
  rw [h.1, h.2, Nat.sub_zero, List.drop_zero, List.take_length]
theorem lk_sl : LkSl K (fun x l u H Q => rSlL K x l u H Q ∨ rSlA K x l u H Q ∨ rSlS x l u H Q) drSl := by
  intro F G M H d v l u dQ Q w r h q
  unfold drSl at h
  split at h
  · cases r
    exact .inr (.inr ⟨_, rfl, by rw [← line_eq]; exact h.1, q _ _ _ _ _ h.2 (Same.refl F) w (.str _)⟩)
  · obtain ⟨a, vs, rfl, sq, rs⟩ := tup_view w r
    refine .inr (.inl ⟨a, vs, rfl, sq, fun e => ?_, fun _ p hp => q.newT w (cut_rv rs l u) h hp⟩)
    rw [← rs.len] at e
    rw [cut_whole _ e] at h
    exact q _ _ _ _ _ h (Same.refl F) w r
  · split at h
    · rename_i ds es
      obtain ⟨a, vs, rfl, hq, rs⟩ := lst_view w r es
      exact .inl ⟨a, vs, rfl, hq, fun p hp => q.newL w (cut_rv rs l u) h hp⟩
    · exact h.elim
theorem de_part {lo hi : Option Expr} {dl dh : DTO} {p2 : Pos} (he : DE X W a da) (hl : DO X W lo dl) (hu : DO X W hi dh) : DE X W (.Subscript a (.Slice lo hi none p2) pos) (dSl drSl da dl dh) :=
  de_slice (sl_list.or (sl_tupA.or sl_str)) lk_sl he hl hu
/-! ### a for over a list, a tuple, a text -/
theorem pi_or {tg e : Expr} {t t' : TI} (h : PI X tg e t) (h' : PI X tg e t') : PI X tg e (fun σ H R => t σ H R ∨ t' σ H R) := ⟨fun pins s σ H R I q => q.elim (h.run pins s σ H R I) (h'.run pins s σ H R I)⟩

/-! ### methods of built-in types -/
def LkM (K : PySem.W.Frag) (r : V → List V → Hp → VK → Prop) (dr : D → List D → MH → DK → Prop) : Prop := ∀ F G M H d ds v vs dQ Q, WW K F G M H → RV K F d v → RVs K F ds vs → dr d ds M dQ → LQ K F G dQ Q → r v vs H Q
def dBM (ty : D → MH → Prop) (dr : D → List D → MH → DK → Prop) (do' : DTE) (dt : DTA) : DTE := fun W ρ M Q => do' W ρ M fun d M1 => ty d M1 ∧ dt W ρ M1 fun ds M2 => dr d ds M2 Q
def LkTy (K : PySem.W.Frag) (T : String) (ty : D → MH → Prop) : Prop := ∀ F G M H d v, WW K F G M H → RV K F d v → ty d M → tyV K T v H
section
variable {o e : Expr} {es : List Expr} {do' : DTE} {dt : DTA} {name : Str} {apos cpos : Pos} {T id : String} {r : V → List V → Hp → VK → Prop} {dr : D → List D → MH → DK → Prop} {ty : D → MH → Prop}
theorem de_bm (pa : PlainAttrs T) (slot : Slot T name id) (hty : typeOf (.builtin id) = pure (.type "method_descriptor")) (hm : MtR X id r) (lk : LkM X.K r dr) (lt : LkTy X.K T ty) (ho : DE X W o do') (ha : DA X W (e :: es) dt)
    (hbase : attributeBase o name X.env (eval o X.env) = eval o X.env := by rfl)
    (hfew : ((backTo cpos (starEach (e :: es) X.env)).all (fun x => !x.1) && (backToKw cpos (keywordEach [] X.env)).all (fun x => x.1.isSome)
      && decide ((e :: es).length + ([] : List Keyword).length + (if ([] : List Keyword).isEmpty then 0 else 1) < 30)) = true := by rfl)
    (hline : (apos.endLine == cpos.line) = true := by rfl) (hs : starEach (e :: es) X.env = (false, eval e X.env) :: starEach es X.env := by rfl) (hplain : (backTo cpos (starEach es X.env)).any (·.1) = false := by rfl) :
    DE X W (.Call (.Attribute o name apos) (e :: es) [] cpos) (dBM ty dr do' dt) :=
  de_of (pe_bm pa slot hty hm ho.pe ha.pa hbase hfew hline hs hplain) fun ρ F G M dW dQ σ H Q P h q => ⟨ρ, F, G, M, dW, _, P, h, fun d M1 v F1 H1 h1 s1 w1 r1 => ⟨lt _ _ _ _ _ _ w1 r1 h1.1, ρ, F1, G, M1, dW, _, P.step s1 w1, h1.2, fun ds M2 vs F2 H2 h2 s2 w2 r2 =>
    lk _ _ _ _ _ _ _ _ _ _ w2 (r1.mo s2) r2 h2 (q.mo (s1.trans s2))⟩⟩
theorem de_bm0 (pa : PlainAttrs T) (slot : Slot T name id) (hty : typeOf (.builtin id) = pure (.type "method_descriptor")) (hm : MtR X id r) (lk : LkM X.K r dr) (lt : LkTy X.K T ty) (ho : DE X W o do')
    (hbase : attributeBase o name X.env (eval o X.env) = eval o X.env := by rfl) (hline : (apos.endLine == cpos.line) = true := by rfl) : DE X W (.Call (.Attribute o name apos) [] [] cpos) (dBM ty dr do' dNil) :=
  de_of (pe_bm0 pa slot hty hm ho.pe hbase hline) fun ρ F G M dW dQ σ H Q P h q => ⟨ρ, F, G, M, dW, _, P, h, fun d M1 v F1 H1 h1 s1 w1 r1 => ⟨lt _ _ _ _ _ _ w1 r1 h1.1, lk _ _ _ _ _ _ _ _ _ _ w1 r1 .nil h1.2 (q.mo s1)⟩⟩
end
def tyL : D → MH → Prop := fun d M => ∃ ds, lstOf M d = some ds
theorem lt_L : LkTy K "list" tyL := fun F G M H d v w r ⟨ds, e⟩ => by
  obtain ⟨a, vs, rfl, sq, _⟩ := lst_view w r e
  exact .inl ⟨rfl, vs, sq⟩
def tyS : D → MH → Prop := fun d _ => ∃ z, d = .str z
theorem lt_S : LkTy K "str" tyS := fun F G M H d v w r ⟨z, e⟩ => by
  subst e
  cases r
  exact rfl
def drAppend : D → List D → MH → DK → Prop := fun d ds M Q => match d, ds with
  | .ref a, [x] => match M a with
    | some (.lst l) => l.length < 16777216 ∧ Q .non (updM M a (.lst (l ++ [x])))
    | _ => False
  | _, _ => False
theorem lk_append : LkM K rAppend drAppend := by
  intro F G M H d ds v vs dQ Q w r rs h q
  unfold drAppend at h
  split at h
  · rename_i a x
    split at h
    · rename_i l hm
      cases r
      obtain ⟨u, rfl, ru⟩ := rs.inv1
      obtain ⟨_, _, us, hv, rl⟩ := w.mu _ _ hm
      exact ⟨a, us, u, rfl, rfl, hv, by rw [← line_eq, ← rl.len]; exact h.1, q _ _ _ F _ h.2 (Same.refl F) (w.set hm _ _ ⟨_, upd_same, rl.app (.one ru)⟩) .non⟩
    · exact h.elim
  · exact h.elim
def drExtend : D → List D → MH → DK → Prop := fun d ds M Q => match d, ds with
  | .ref a, [x] => match M a, ownOf M x with
    | some (.lst l), some l2 => l.length + l2.length ≤ 16777216 ∧ Q .non (updM M a (.lst (l ++ l2)))
    | _, _ => False
  | _, _ => False
theorem lk_extend : LkM K rExtend drExtend := by
  intro F G M H d ds v vs dQ Q w r rs h q
  unfold drExtend at h
  split at h
  · rename_i a x
    split at h
    · rename_i l l2 hm ho
      cases r
      obtain ⟨u, rfl, ru⟩ := rs.inv1
      obtain ⟨_, _, us, hv, rl⟩ := w.mu _ _ hm
      obtain ⟨b, us2, rfl, hb, rl2⟩ := own_view w ru ho
      exact ⟨a, b, us, us2, rfl, rfl, hv, hb, by rw [← line_eq, ← rl.len, ← rl2.len]; exact h.1, q _ _ _ F _ h.2 (Same.refl F) (w.set hm _ _ ⟨_, upd_same, rl.app rl2⟩) .non⟩
    · exact h.elim
  · exact h.elim
end
end DL

/-! The deep layer, part 7: texts, isinstance. -/
namespace DL
open PySem L2
section
variable {X : Cx} {W : WX} {K : PySem.W.Frag} {F G H : Hp} {M : MH} {o e a b : Expr} {es : List Expr} {do' de da db : DTE} {dt : DTA} {apos pos : Pos}
/-! ### texts -/
def dSplit (do' de : DTE) : DTE := fun W ρ M Q => do' W ρ M fun d M1 => match d with
  | .str a => de W ρ M1 fun x M2 => match x with
    | .str b => (b.length == 0) = false ∧ a.length + 2 ≤ 16777216 ∧ Q (.lst ((Txt.split a b).map D.str)) M2
    | _ => False
  | _ => False
theorem strs_rv : ∀ ys : List Str, RVs K F (ys.map D.str) (ys.map V.str)
  | [] => .nil
  | y :: ys => .cons (.str y) (strs_rv ys)
theorem de_split (ho : DE X W o do') (he : DE X W e de) (hs : starEach [e] X.env = [(false, eval e X.env)] := by rfl) (hbase : attributeBase o "split" X.env (eval o X.env) = eval o X.env := by rfl) (hline : (apos.endLine == pos.line) = true := by rfl) :
    DE X W (.Call (.Attribute o "split" apos) [e] [] pos) (dSplit do' de) :=
  de_of (pe_split ho.pe he.pe hs hbase hline) fun ρ F G M dW dQ σ H Q P h q => ⟨ρ, F, G, M, dW, _, P, h, fun d1 M1 v1 F1 H1 h1 s1 w1 r1 => by
    cases r1 with
    | str a =>
      refine ⟨⟨_, rfl⟩, ρ, F1, G, M1, dW, _, P.step s1 w1, h1, fun d2 M2 v2 F2 H2 h2 s2 w2 r2 => ?_⟩
      cases r2 with
      | str b => exact ⟨a, b, rfl, rfl, h2.1, by rw [← line_eq]; exact h2.2.1, fun p hp => (q.mo (s1.trans s2)).newL w2 (strs_rv _) h2.2.2 hp⟩
      | _ => exact h2.elim
    | _ => exact h1.elim⟩
def dJoin (do' de : DTE) : DTE := fun W ρ M Q => do' W ρ M fun d M1 => match d with
  | .str a => de W ρ M1 fun x M2 => match (seqOf M2 x).bind strsOf with
    | some ys => (ys.map (·.length)).sum + ys.length * a.length ≤ 16777216 ∧ Q (.str (Txt.join a ys)) M2
    | none => False
  | _ => False
theorem de_join (ho : DE X W o do') (he : DE X W e de) (hs : starEach [e] X.env = [(false, eval e X.env)] := by rfl) (hbase : attributeBase o "join" X.env (eval o X.env) = eval o X.env := by rfl) (hline : (apos.endLine == pos.line) = true := by rfl) :
    DE X W (.Call (.Attribute o "join" apos) [e] [] pos) (dJoin do' de) :=
  de_of (pe_join ho.pe he.pe hs hbase hline) fun ρ F G M dW dQ σ H Q P h q => ⟨ρ, F, G, M, dW, _, P, h, fun d1 M1 v1 F1 H1 h1 s1 w1 r1 => by
    cases r1 with
    | str a =>
      refine ⟨⟨_, rfl⟩, ρ, F1, G, M1, dW, _, P.step s1 w1, h1, fun d2 M2 v2 F2 H2 h2 s2 w2 r2 => ?_⟩
      split at h2
      · rename_i ys ey
        obtain ⟨l, e1, e2⟩ := Option.bind_eq_some_iff.mp ey
        obtain ⟨p, vs, rfl, sq, rs⟩ := seq_view w2 r2 e1
        have e3 := strsOf_eq e2
        subst e3
        have e4 := rs.strs'
        subst e4
        exact ⟨a, p, ys, rfl, rfl, sq, h2.1, q _ _ _ _ _ h2.2 (s1.trans s2) w2 (.str _)⟩
      · exact h2.elim
    | _ => exact h1.elim⟩
def dUpper (do' : DTE) : DTE := fun W ρ M Q => do' W ρ M fun d M1 => match d with
  | .str a => a.length ≤ 5592405 ∧ Q (.str (Txt.upper a)) M1
  | _ => False
theorem de_upper (ho : DE X W o do') (hbase : attributeBase o "upper" X.env (eval o X.env) = eval o X.env := by rfl) (hline : (apos.endLine == pos.line) = true := by rfl) : DE X W (.Call (.Attribute o "upper" apos) [] [] pos) (dUpper do') :=
  de_of (pe_upper ho.pe hbase hline) fun ρ F G M dW dQ σ H Q P h q => ⟨ρ, F, G, M, dW, _, P, h, fun d1 M1 v1 F1 H1 h1 s1 w1 r1 => by
    cases r1 with
    | str a => exact ⟨⟨_, rfl⟩, a, rfl, rfl, h1.1, q _ _ _ _ _ h1.2 s1 w1 (.str _)⟩
    | _ => exact h1.elim⟩
/-- text * number -/
def mulS (z : Str) (k : Nat) : Str := ⟨(List.replicate k z.cps).foldl (· ++ ·) #[]⟩
def drMulS : D → D → MH → DK → Prop := fun d1 d2 M Q => match d1, d2 with
  | .str z, .int k => (2 ≤ k ∧ k ≤ 1000 ∧ 0 < z.length ∧ z.length ≤ 1000 ∧ (mulS z k.toNat).length ≤ 16777216) ∧ Q (.str (mulS z k.toNat)) M
  | _, _ => False
theorem op_mulS : OpR X (binaryOp .Mult) (fun x y H Q => ∃ z k, x = .str z ∧ y = .int k ∧ (2 ≤ k ∧ k ≤ 1000 ∧ 0 < z.length ∧ z.length ≤ 1000 ∧ (mulS z k.toNat).length ≤ 16777216) ∧ Q (.str (mulS z k.toNat)) H) := by
  intro pins s σ H x y v u Q I rx ry h
  obtain ⟨z, k, rfl, rfl, ⟨h1, h2, h3, h4, h5⟩, q⟩ := h
  obtain ⟨t, rfl⟩ := rx
  obtain ⟨t', rfl⟩ := ry
  have hk : k.toNat ≤ 1000 := by omega
  have hm : z.length * k.toNat ≤ 1000000 := Nat.le_trans (Nat.mul_le_mul h4 hk) (by decide)
  refine PySem.P.mul_str (by rw [decide_eq_false (by omega), decide_eq_false (by omega)]; rfl) (fun _ _ => ?_) (fun _ _ => ?_) ?_
  · have e : (9223372036854775807 : Int) / 1000 ≤ 9223372036854775807 / k := by
      rw [Int.le_ediv_iff_mul_le (by omega)]
      have : (9223372036854775807 / 1000 : Int) * k ≤ (9223372036854775807 / 1000) * 1000 := Int.mul_le_mul_of_nonneg_left h2 (by decide)
      omega
    have e2 : ((2 : Int) ^ 63 - 1) = 9223372036854775807 := by decide
    rw [e2]
    omega
  · show decide (z.length * k.toNat > sizeLine) = false
    rw [← line_eq]
    exact decide_eq_false (by omega)
  · rw [if_neg (by omega), if_neg (by simp; omega)]
    exact ⟨by rw [← line_eq]; exact h5, .str _, H, I.tok _, ⟨_, rfl⟩, q⟩
theorem lk_mulS : LkR2 K (fun x y H Q => ∃ z k, x = .str z ∧ y = .int k ∧ (2 ≤ k ∧ k ≤ 1000 ∧ 0 < z.length ∧ z.length ≤ 1000 ∧ (mulS z k.toNat).length ≤ 16777216) ∧ Q (.str (mulS z k.toNat)) H) drMulS := by
  intro F G M H d1 d2 v1 v2 dQ Q w r1 r2 h q
  unfold drMulS at h
  split at h
  · cases r1
    cases r2
    exact ⟨_, _, rfl, rfl, h.1, q _ _ _ _ _ h.2 (Same.refl F) w (.str _)⟩
  · exact h.elim
abbrev dMulS : DTE → DTE → DTE := dOp drMulS
theorem de_mulS (ha : DE X W a da) (hb : DE X W b db) : DE X W (.BinOp a .Mult b pos) (dMulS da db) := de_op op_mulS lk_mulS ha hb

/-! ### isinstance -/
/-- a value's built-in type, by name -/
def tyD (M : MH) : D → Option String
  | .non => some "NoneType"
  | .bl _ => some "bool"
  | .int _ => some "int"
  | .str _ => some "str"
  | .tup _ => some "tuple"
  | .lst _ => some "list"
  | .scr _ => some "list"
  | .ref a => match M a with
    | some (.lst _) => some "list"
    | _ => none
theorem tyx_tup {a : Addr} {vs : List V} (h : SqT K H a vs) : TyX K H (.ref a) (.type "tuple") := by
  rcases h with (h | ⟨o, h⟩) | ⟨o, its, n, h1, h2, _⟩
  · exact .base (.tup h)
  · exact .fTuple h
  · exact .kTuple h1 h2
theorem tyx_lst {a : Addr} {vs : List V} (h : SqL K H a vs) : TyX K H (.ref a) (.type "list") := by
  rcases h with (h | ⟨o, h⟩) | ⟨o, its, n, h1, h2, _⟩
  · exact .base (.lst h)
  · exact .base (.frz h)
  · exact .kList h1 h2
theorem tyD_tyx {d : D} {v : V} {T : String} (w : WW K F G M H) (r : RV K F d v) (e : tyD M d = some T) : TyX K H v (.type T) := by
  cases r with
  | non => cases e; exact .base .non
  | bl b => cases e; exact .base (.bl b)
  | int b => cases e; exact .base (.int b)
  | str b => cases e; exact .base (.str b)
  | tup q rs => cases e; exact tyx_tup (sqT_mono w.fr q)
  | lst q rs => cases e; exact tyx_lst (SqL.of (w.fr _ _ q))
  | scr q rs => cases e; exact tyx_lst (sqL_mono w.fr q)
  | ref a =>
    have e' : (match M a with | some (.lst _) => some "list" | _ => none) = some T := e
    split at e'
    · rename_i hm
      cases e'
      obtain ⟨_, _, vs, hv, _⟩ := w.mu _ _ hm
      exact tyx_lst (SqL.of hv)
    · cases e'
def dIsi (T : String) (da : DTE) : DTE := fun W ρ M Q => da W ρ M fun d M1 => match tyD M1 d with
  | some S => match kitB S T with
    | some k => Q (.bl k) M1
    | none => False
  | none => False
theorem de_isi {x : Str} {T : String} {p p2 : Pos} (hm : X.mg "isinstance" = none) (hmT : X.mg x = none) (hvT : bootBuiltins x = some (.type T)) (ha : DE X W a da) (hg : Gl X "isinstance" := by rfl) (hgT : Gl X x := by rfl) (hnT : x ≠ "__name__" := by decide) (hdT : (x == ("__debug__" : Str)) = false := by decide)
    (he : starEach (a :: [.Name x p2]) X.env = (false, eval a X.env) :: starEach [.Name x p2] X.env := by rfl) (he2 : starEach ((.Name x p2) :: []) X.env = (false, eval (.Name x p2) X.env) :: starEach [] X.env := by rfl) (hpl : (backTo pos (starEach [.Name x p2] X.env)).any (·.1) = false := by rfl) :
    DE X W (.Call (.Name "isinstance" p) [a, .Name x p2] [] pos) (dIsi T da) :=
  de_of (pe_callB call_isi hg hm (by decide +kernel) (pa_cons ha.pe (pa_cons (pe_bltn (v := .ty T) hgT hmT hvT rfl hnT hdT) pa_nil he2) he) (by decide) (by decide) he hpl) fun ρ F G M dW dQ σ H Q P h q => ⟨ρ, F, G, M, dW, _, P, h, fun d1 M1 v1 F1 H1 h1 s1 w1 r1 => by
    split at h1
    · rename_i S eS
      split at h1
      · rename_i k ek
        exact ⟨v1, .ty T, .type S, .type T, k, rfl, .ty T, tyD_tyx w1 r1 eS, kit_ty ek, q _ _ _ _ _ h1 s1 w1 (.bl _)⟩
      · exact h1.elim
    · exact h1.elim⟩

/-! ### a written list one of whose items wants a token -/
structure DAT (X : Cx) (W : WX) (es : List Expr) (dt : DTA) : Prop where
  pat : PAT X es (LA X.K W dt)
structure DET (X : Cx) (W : WX) (e : Expr) (de : DTE) : Prop where
  pet : PET X e (LE X.K W de)
theorem DE.det (h : DE X W e de) : DET X W e de := ⟨CwR.PET.of h.pe⟩
theorem dat_nil : DAT X W [] dNil := ⟨fun pos pins s σ H Q _ I h => (da_nil (X := X) (W := W)).pa.run pos pins s σ H Q I h⟩
theorem cons_lift {σ : L2.St} {Q : List V → Hp → Prop} (h : LA K W (dCons de dt) σ H Q) : tCons (LE K W de) (LA K W dt) σ H Q := by
  obtain ⟨ρ, F, G, M, dW, dQ, P, h, q⟩ := h
  exact ⟨ρ, F, G, M, dW, _, P, h, fun d1 M1 v1 F1 H1 h1 s1 w1 r1 => ⟨ρ, F1, G, M1, dW, _, P.step s1 w1, h1, fun ds M2 vs F2 H2 h2 s2 w2 r2 => q _ _ _ _ _ h2 (s1.trans s2) w2 (.cons (r1.mo s2) r2)⟩⟩
theorem dat_cons (ha : DET X W e de) (hr : DAT X W es dt) (hs : starEach (e :: es) X.env = (false, eval e X.env) :: starEach es X.env := by rfl) : DAT X W (e :: es) (dCons de dt) :=
  ⟨fun pos pins s σ H Q h0 I h => pat_cons ha.pet hr.pat hs pos pins s σ H Q h0 I (cons_lift h)⟩
/-- a + 'c' gives a token out -/
theorem da_consG {c : Str} {j p2 p3} (ha : DE X W a da) (hr : DAT X W es dt) (hs : starEach (.BinOp a .Add (.Constant (.str c) j p2) p3 :: es) X.env = (false, eval (.BinOp a .Add (.Constant (.str c) j p2) p3) X.env) :: starEach es X.env := by rfl) :
    DA X W (.BinOp a .Add (.Constant (.str c) j p2) p3 :: es) (dCons (dPlus da (dC (.str c))) dt) := by
  refine ⟨⟨fun pos pins s σ H Q I h => ?_⟩⟩
  have h2 := cons_lift h
  rw [hs]
  show wpAny _ _ (spliced ((false, eval (.BinOp a .Add (.Constant (.str c) j p2) p3) X.env) :: backTo pos (starEach es X.env))) _ _ s
  have fin : wpAny (model X.prog X.w) X.A (eval (.BinOp a .Add (.Constant (.str c) j p2) p3) X.env) (fun u s1 => EP X pins σ (fun x H1 => LA X.K W dt σ H1 fun xs H2 => Q (x :: xs) H2) u s1 ∧ 1 ≤ s1.toks) X.xe s := by
    obtain ⟨ρ, F, G, M, dW, dQ, P, hd, q⟩ := h2
    refine wpAny_BinOp (thn (ha.pe.run pins s σ H (fun v1 H1 => ∃ d M1 F1, (dC (.str c)) dW ρ M1 (fun d2 M2 => drPlus d d2 M2 dQ) ∧ Same F F1 ∧ WW X.K F1 G M1 H1 ∧ RV X.K F1 d v1) I ⟨ρ, F, G, M, dW, _, P, hd, fun d1 M1 v1 F1 H1 h1 s1 w1 r1 => ⟨d1, M1, F1, h1, s1, w1, r1⟩⟩) fun v s1 ⟨x, H1, I1, r1, q1⟩ => ?_)
    · obtain ⟨d, M1, F1, h1, s1', w1, rv⟩ := q1
      refine Calls.Constant_str ?_
      refine wpAny_mono (PySem.wpAny_toks (op_plus pins { s1 with toks := s1.toks + 1 } σ H1 x (.str c) v (.str c s1.toks) _ (I1.tok _) r1 ⟨_, rfl⟩ (lk_plus F1 G M1 H1 d (.str c) x (.str c) dQ _ w1 rv (.str c) h1 ((LQ.mo q s1'))))) (fun u s2 z => ?_) fun _ _ z => z.2
      obtain ⟨hk, z⟩ := z
      exact ⟨z, by have : s1.toks + 1 ≤ s2.toks := hk; omega⟩
  refine Calls.spliced_cons (thn fin fun u s1 ⟨⟨x, H1, I1, r1, q1⟩, hk⟩ => ?_)
  exact thn (hr.pat pos pins s1 σ H1 _ hk I1 q1) fun us s2 ⟨xs, H2, I2, r2, q2⟩ => ⟨x :: xs, H2, I2, .cons r1 r2, q2⟩
def dRepl (do' : DTE) (y z : Str) : DTE := fun W ρ M Q => do' W ρ M fun d M1 => match d with
  | .str x => x.length + (x.length + 1) * z.length ≤ 16777216 ∧ Q (.str (Txt.replace x y z)) M1
  | _ => False
theorem det_repl {y z : Str} {j k : Nat} {c0 c1 : Pos} (ho : DE X W o do') (hyz : (y == z) = false := by decide)
    (hst : starEach [.Constant (.str y) j c0, .Constant (.str z) k c1] X.env = [(false, eval (.Constant (.str y) j c0) X.env), (false, eval (.Constant (.str z) k c1) X.env)] := by rfl)
    (hbase : attributeBase o "replace" X.env (eval o X.env) = eval o X.env := by rfl) (hline : (apos.endLine == pos.line) = true := by rfl) :
    DET X W (.Call (.Attribute o "replace" apos) [.Constant (.str y) j c0, .Constant (.str z) k c1] [] pos) (dRepl do' y z) :=
  ⟨fun pins s σ H Q h0 I ⟨ρ, F, G, M, dW, dQ, P, h, q⟩ => CwR.pet_replC ho.pe hyz hst hbase hline pins s σ H Q h0 I ⟨ρ, F, G, M, dW, _, P, h, fun d1 M1 v1 F1 H1 h1 s1 w1 r1 => by
    cases r1 with
    | str x => exact ⟨x, rfl, h1.1, q _ _ _ _ _ h1.2 s1 w1 (.str _)⟩
    | _ => exact h1.elim⟩⟩
end
end DL

/-! The deep layer, part 8: a def by what the head tells; the law's end. -/
namespace DL
open PySem L2
theorem hu5_of {k : Nat} {A : Around} (hr : Room k A) : A.units + 65 < cLine := by
  have h := hr.un
  have e : (65 : Nat) ≤ 16 * k + 200 := by omega
  omega
section
variable {P : Program} {w : World} {K : PySem.W.Frag} {mg : Str → Option Value} {base : Heap}
theorem fun_ok {x : Str} {st : Stmt} {f : Addr} {fd : FuncData} {N ps : List Str} {k : Nat} {dsp : DSp} {dt : DTS} (Fn : FunD K x x (defArgs st) (defBody st) (defScope st) [] [] f fd) (S : FnScope N ps (defScope st)) (len : ∀ ds M Q E, dsp ds M Q E → ds.length = ps.length)
    (body : ∀ cdv A outer s H E, Room k (A.deeper (PyProof.Rows.envOfC x (defScope st) s.heap.objs.size f cdv)) → DSs (bodyX P w K mg base N x (defScope st) f cdv A outer s H E) (bodyW E) (defBody st) dt)
    (sem : ∀ ds M Q E, dsp ds M Q E → dt (fun cls fx _ M' => E cls fx M') { nx := fun _ M' => Q .non M', rt := Q } (startD N ds) M) : FnOk P w K mg base (L2.CX P w) (k + 1) f fd ps (LSp K dsp) := by
  refine Fn.ok S (fun vs H Q E ⟨ds, F, G, M, dQ, dE, r, _, h, _⟩ => by rw [← r.len]; exact len _ _ _ _ h) fun cdv A outer s H vs Q E hr ⟨ds, F, G, M, dQ, dE, r, ww, h, lq, lx⟩ => ⟨_, (body cdv A outer s H E hr).pss, startD N ds, F, G, M, _, _, ⟨start_rs r, ww, ?_⟩, sem _ _ _ _ h, ⟨?_, lq, ?_, ?_⟩⟩
  · exact fun cls fx ρ M' σ F' H' da hd s' _ w' rx => lx _ _ _ _ _ _ hd s' w' rx
  · exact fun ρ M' σ F' H' hd s' _ w' => lq _ _ _ _ _ hd s' w' .non
  · exact fun _ _ _ _ _ z => z.elim
  · exact fun _ _ _ _ _ z => z.elim
end
/-- what a law promises -/
def spLawD : DSp := fun ds _ Q _ => ∃ ns : List Int, ds = [.scr (ns.map D.int)] ∧ ns.length ≤ 63 ∧ (∀ z ∈ ns, Builtin.Int.intBits z ≤ 1048576) ∧ ∀ M', Q (.bl true) M'
theorem spLaw_of {K : PySem.W.Frag} {H : Hp} {a : Addr} {ns : List Int} (hl : ns.length ≤ 63) (hb : ∀ z ∈ ns, Builtin.Int.intBits z ≤ 1048576) (hs : SqL K H a (ns.map V.int)) : LSp K spLawD [.ref a] H (fun v _ => v = .bl true) fun _ _ _ => False :=
  ⟨[.scr (ns.map D.int)], H, fun _ => none, fun _ => none, fun d _ => d = .bl true, fun _ _ _ => False, .cons (.scr hs (RVs.ints ns)) .nil,
    ⟨Same.refl H, fun _ _ e => (nomatch e), fun _ _ e => (nomatch e), fun _ _ e => (nomatch e)⟩, ⟨ns, rfl, hl, hb, fun _ => rfl⟩, fun d M v F' H' e _ _ r => by subst e; cases r; rfl, fun _ _ _ _ _ _ e => e.elim⟩
/-- the end over a head by facts, the numbers' bits told -/
theorem walk_bits {l : PySem.W.OpenLaw} {n k : Nat} {q : Program} {loose : List Str} {XP : (Str → Option Value) → Heap → Prop} {YP : World → Heap → Prop} {d : DefRec} {CX : World → CXT} {x : Str}
    (hn : l.most = some n) (hn2 : n ≤ sizeLine) (hdf : d.params.defaults = []) (hr : Room k callerA)
    (F : ∀ (w : World) (mg : Str → Option Value) (fa : Addr) (h : Heap), YP w h → h.Ns mainGlobals mg → mg d.name = some (.ref fa) → ∃ (K : PySem.W.Frag) (fd : FuncData) (sp : Sp),
      K.In h ∧ (∀ (s : Shared) (u : Value), BindsTo s fd ⟨[u], []⟩ [(x, u)]) ∧
      (∀ (H : Hp) (a : Addr) (ns : List Int), ns.length ≤ n → (∀ z ∈ ns, Builtin.Int.intBits z ≤ 1048576) → SqL K H a (ns.map V.int) → sp [.ref a] H (fun v _ => v = .bl true) fun _ _ _ => False) ∧
      ∀ base : Heap, K.In base → base.Ns mainGlobals mg → FnOk l.prog w K mg base (CX w) k fa fd [x] sp)
    (hCX : ∀ (w : World) (H : Hp) (s : Shared) (e : Value) (s' : Shared), CX w [] H s (fun _ _ _ => False) e s' → False) :
    PySem.W.WalkO q loose XP YP l.row.toRowW d [] (fun f vs => PySem.call f vs) :=
  Att.attach_callB hn hdf fun w s₀ s₁ mg mb fa o pm cd doc a vs ns G Y ho hd hcd hmg hobj hints hlen hbits hg => by
    obtain ⟨K, fd, sp, KX, hb, hsp, hF⟩ := F w mg fa _ Y G.T.g hmg
    exact law_call KX G.T.g G.T.b G.T.builtins G.T.nolimit hg hobj hints (Nat.le_trans hlen hn2) hr hF hb (fun H _ hS => hsp H a ns hlen hbits hS) fun H e s' => hCX w H s₁ e s'
theorem no_leave {P : Program} (w : World) (H : Hp) (s : Shared) (e : Value) (s' : Shared) (h : L2.CX P w [] H s (fun _ _ _ => False) e s') : False := by
  obtain ⟨_, _, _, _, _, _, _, _, _, _, _, _, z⟩ := h
  exact z
end DL

/-! The deep layer, part 9: small facts for reckoning a reading. -/
namespace DL
open PySem L2
theorem ixN_0 (n : Nat) : ixN (n + 1) 0 = some 0 := by unfold ixN; simp
theorem ixN_1 (n : Nat) : ixN (n + 2) 1 = some 1 := by unfold ixN; simp; omega
theorem ixN_2 (n : Nat) : ixN (n + 3) 2 = some 2 := by unfold ixN; simp; omega
theorem ixN_3 (n : Nat) : ixN (n + 4) 3 = some 3 := by unfold ixN; simp; omega
theorem ixN_m1 (n : Nat) : ixN (n + 1) (-1) = some n := by unfold ixN; simp; omega
theorem cmul_of {i j : Int} (a b : Nat) (h1 : i.natAbs < 2 ^ (a + 1)) (h2 : j.natAbs < 2 ^ (b + 1)) (h : a + b + 2 ≤ 1000000) : CMulW i j := wide_mul h1 h2 (by omega) (by omega) (by omega)
theorem cdiv_of {i j : Int} (h : 0 < j) (h2 : j.natAbs.log2 < 9000) : CDivW i j := ⟨h, h2⟩
theorem log2_lt {n k : Nat} (h : n < 2 ^ (k + 1)) : n.log2 < k + 1 := by
  by_cases hn : n = 0
  · subst hn; simp
  · exact (Nat.log2_lt hn).mpr h
theorem drEq_str (neg : Bool) (a b : Str) (M : MH) (Q : DK) : drEq neg (.str a) (.str b) M Q = Q (.bl (neg != decide (a = b))) M := by
  have e : PyData.eqv (.str a) (.str b) = decide (a = b) := by
    unfold PyData.eqv
    exact Bool.beq_eq_decide_eq a b
  simp only [drEq, res, D.py, eqOk, e, true_and]
theorem drEq_int (neg : Bool) (a b : Int) (M : MH) (Q : DK) : drEq neg (.int a) (.int b) M Q = Q (.bl (neg != decide (a = b))) M := by
  have e : PyData.eqv (.int a) (.int b) = decide (a = b) := by
    unfold PyData.eqv
    exact Bool.beq_eq_decide_eq a b
  have e2 : eqOk (.int a) (.int b) = true := by rfl
  simp only [drEq, res, D.py, e2, e, true_and]
theorem drEq_bl (neg : Bool) (a b : Bool) (M : MH) (Q : DK) : drEq neg (.bl a) (.bl b) M Q = Q (.bl (neg != decide (a = b))) M := by
  have e : PyData.eqv (.bool a) (.bool b) = decide (a = b) := by
    unfold PyData.eqv
    exact Bool.beq_eq_decide_eq a b
  have e2 : eqOk (.bool a) (.bool b) = true := by rfl
  simp only [drEq, res, D.py, e2, e, true_and]
theorem drEq_of {neg : Bool} {d1 d2 : D} {M : MH} {Q : DK} {p q : PyData} (h1 : D.py (res M d1) = some p) (h2 : D.py (res M d2) = some q) (ok : eqOk p q = true) (h : Q (.bl (neg != PyData.eqv p q)) M) : drEq neg d1 d2 M Q := by
  unfold drEq
  rw [h1, h2]
  exact ⟨ok, h⟩
/-! ### comprehensions that leave what changes as it stands -/
theorem take_succ_fm {α β : Type} (f : α → Option β) : ∀ (xs : List α) (i : Nat) (x : α), xs[i]? = some x → (xs.take (i + 1)).filterMap f = (xs.take i).filterMap f ++ (match f x with | some y => [y] | none => [])
  | [], i, x, h => by simp at h
  | a :: xs, 0, x, h => by
    have e : a = x := Option.some.inj h
    subst e
    cases hf : f a <;> simp [List.filterMap_cons, hf]
  | a :: xs, i + 1, x, h => by
    have ih := take_succ_fm f xs i x h
    rw [List.take_succ_cons, List.take_succ_cons, List.filterMap_cons, List.filterMap_cons, ih]
    cases f a <;> rfl
theorem lc_fm {α : Type} {ρ : DSt} {g : DTG} {tt : DTT} {te : DTE} {vs : List Nat} {fin : List D → MH → Prop} {Keep : MH → Prop} {M : MH} {ds : List D} (xs : List α) (e : α → D) (f : α → Option D) (hd : ds = xs.map e) (hz : ds.length ≤ 16777216) (hk : Keep M)
    (h : ∀ x ∈ xs, ∀ (R : D → MH → Prop) (S : MH → Prop), (match f x with | some y => R y M | none => S M) → g (e x) W0 (wipeD ρ vs) M fun ρ2 M2 => tt W0 ρ2 M2 fun b M3 => if b = true then te W0 ρ2 M3 R else S M3) (hf : fin (xs.filterMap f) M) :
    dLcR ρ g tt te vs fin ds Keep M := by
  subst hd
  refine ⟨hz, fun i acc M' => M' = M ∧ acc = (xs.take i).filterMap f, ⟨rfl, by simp⟩, ?_, ?_, ?_⟩
  · rintro i acc M' ⟨rfl, rfl⟩
    refine ⟨hk, Nat.le_trans (List.length_filterMap_le _ _) ?_⟩
    rw [List.length_take]; omega
  · rintro i d acc M' hi ⟨rfl, rfl⟩
    rw [List.getElem?_map] at hi
    cases hx : xs[i]? with
    | none => rw [hx] at hi; cases hi
    | some x =>
      rw [hx] at hi; cases hi
      refine h x (List.mem_of_getElem? hx) _ _ ?_
      have e2 := take_succ_fm f xs i x hx
      cases hfx : f x with
      | some y => rw [hfx] at e2; exact ⟨rfl, e2.symm⟩
      | none => rw [hfx, List.append_nil] at e2; exact ⟨rfl, e2.symm⟩
  · rintro acc M' ⟨rfl, rfl⟩
    rw [List.length_map, List.take_length]
    exact hf
theorem lc_map {α : Type} {ρ : DSt} {g : DTG} {tt : DTT} {te : DTE} {vs : List Nat} {fin : List D → MH → Prop} {Keep : MH → Prop} {M : MH} {ds : List D} (xs : List α) (e : α → D) (f : α → D) (hd : ds = xs.map e) (hz : ds.length ≤ 16777216) (hk : Keep M)
    (h : ∀ x ∈ xs, ∀ (R : D → MH → Prop) (S : MH → Prop), R (f x) M → g (e x) W0 (wipeD ρ vs) M fun ρ2 M2 => tt W0 ρ2 M2 fun b M3 => if b = true then te W0 ρ2 M3 R else S M3) (hf : fin (xs.map f) M) :
    dLcR ρ g tt te vs fin ds Keep M :=
  lc_fm xs e (fun x => some (f x)) hd hz hk (fun x hx R S r => h x hx R S r) (by rw [show (fun x => some (f x)) = some ∘ f from rfl, List.filterMap_eq_map]; exact hf)
/-- a for over a list whose turns leave one state or leave off -/
theorem for_run {α : Type} {g : DTG} {tb : DTS} {W : DWX} {dd : DEnds} {ρ : DSt} {M : MH} {ds : List D} {Keep : MH → Prop} (xs : List α) (e : α → D) (hd : ds = xs.map e) (Pv : Nat → DSt → MH → Prop) (h0 : Pv 0 ρ M) (hk : ∀ i ρ M, Pv i ρ M → Keep M)
    (ht : ∀ i x ρ M, xs[i]? = some x → Pv i ρ M → g (e x) W ρ M fun ρ2 M2 => tb W { dd with nx := Pv (i + 1), ct := Pv (i + 1), bk := dd.nx } ρ2 M2) (he : ∀ ρ M, Pv xs.length ρ M → dd.nx ρ M) :
    ∃ Pv : Nat → DSt → MH → Prop, Pv 0 ρ M ∧ (∀ i ρ M, Pv i ρ M → Keep M) ∧ (∀ i d ρ M, ds[i]? = some d → Pv i ρ M → g d W ρ M fun ρ2 M2 => tb W { dd with nx := Pv (i + 1), ct := Pv (i + 1), bk := dd.nx } ρ2 M2) ∧ ∀ ρ M, Pv ds.length ρ M → dd.nx ρ M := by
  subst hd
  refine ⟨Pv, h0, hk, fun i d ρ M hi p => ?_, fun ρ M p => he ρ M (by rw [List.length_map] at p; exact p)⟩
  rw [List.getElem?_map] at hi
  cases hx : xs[i]? with
  | none => rw [hx] at hi; cases hi
  | some x => rw [hx] at hi; cases hi; exact ht i x ρ M hx p
end DL

/-! The deep layer, part 10: == over plain trees. -/
namespace DL
open PySem L2
/-- every sign one that can be -/
def okS (z : Str) : Prop := ∀ c ∈ z.cps.toList, c < 1114112
theorem okS_b {z : Str} : PyData.strOk z = true ↔ okS z := by
  unfold PyData.strOk okS
  rw [← Array.all_toList, List.all_eq_true]
  exact forall₂_congr fun c _ => by rw [decide_eq_true_iff]
instance (z : Str) : Decidable (okS z) := decidable_of_iff _ okS_b
mutual
/-- a plain tree of at most so many floors, its texts fit to be compared -/
def finD : Nat → D → Prop
  | _, .non => True
  | _, .bl _ => True
  | _, .int _ => True
  | _, .str z => okS z
  | n, .tup l => 0 < n ∧ finDs (n - 1) l
  | n, .lst l => 0 < n ∧ finDs (n - 1) l
  | n, .scr l => 0 < n ∧ finDs (n - 1) l
  | _, .ref _ => False
def finDs : Nat → List D → Prop
  | _, [] => True
  | n, d :: ds => finD n d ∧ finDs n ds
end
theorem finDs_all {n : Nat} : ∀ {l : List D}, finDs n l ↔ ∀ d ∈ l, finD n d
  | [] => by simp [finDs]
  | d :: l => by simp [finDs, finDs_all (l := l)]
mutual
/-- == of plain trees -/
def eqD : D → D → Bool
  | .non, .non => true
  | .bl a, .bl b => decide (a = b)
  | .bl a, .int j => decide ((if a then 1 else 0) = j)
  | .int i, .bl b => decide (i = (if b then 1 else 0))
  | .int i, .int j => decide (i = j)
  | .str x, .str y => decide (x = y)
  | .tup l, .tup r => eqDs l r
  | .lst l, .lst r => eqDs l r
  | .lst l, .scr r => eqDs l r
  | .scr l, .lst r => eqDs l r
  | .scr l, .scr r => eqDs l r
  | _, _ => false
def eqDs : List D → List D → Bool
  | [], [] => true
  | a :: l, b :: r => eqD a b && eqDs l r
  | [], _ :: _ => false
  | _ :: _, [] => false
end
mutual
theorem eqD_refl : ∀ d : D, d.py ≠ none → eqD d d = true
  | .non, _ => rfl
  | .bl b, _ => by simp [eqD]
  | .int i, _ => by simp [eqD]
  | .str x, _ => by simp [eqD]
  | .tup l, h => by rw [eqD]; exact eqDs_refl l (fun e => h (by unfold D.py; rw [e]; rfl))
  | .lst l, h => by rw [eqD]; exact eqDs_refl l (fun e => h (by unfold D.py; rw [e]; rfl))
  | .scr l, h => by rw [eqD]; exact eqDs_refl l (fun e => h (by unfold D.py; rw [e]; rfl))
  | .ref _, h => (h rfl).elim
theorem eqDs_refl : ∀ l : List D, pys l ≠ none → eqDs l l = true
  | [], _ => rfl
  | d :: l, h => by
    rw [eqDs, eqD_refl d (fun e => h (by unfold pys; rw [e])), eqDs_refl l (fun e => h (by unfold pys; rw [e]; cases D.py d <;> rfl))]
    rfl
end
mutual
theorem fin_py : ∀ (n : Nat) (d : D), finD n d → ∃ p, d.py = some p ∧ p.canLay0 = true ∧ p.depth ≤ n
  | _, .non, _ => ⟨_, rfl, rfl, Nat.zero_le _⟩
  | _, .bl _, _ => ⟨_, rfl, rfl, Nat.zero_le _⟩
  | _, .int _, _ => ⟨_, rfl, rfl, Nat.zero_le _⟩
  | _, .str z, h => ⟨.str z, rfl, okS_b.mpr h, Nat.zero_le _⟩
  | n, .tup l, h => by
    unfold finD at h
    obtain ⟨ps, e, c, q⟩ := fins_py (n - 1) l h.2
    exact ⟨.tuple ps, by unfold D.py; rw [e]; rfl, c, by unfold PyData.depth; have := h.1; omega⟩
  | n, .lst l, h => by
    unfold finD at h
    obtain ⟨ps, e, c, q⟩ := fins_py (n - 1) l h.2
    exact ⟨.list ps, by unfold D.py; rw [e]; rfl, c, by unfold PyData.depth; have := h.1; omega⟩
  | n, .scr l, h => by
    unfold finD at h
    obtain ⟨ps, e, c, q⟩ := fins_py (n - 1) l h.2
    exact ⟨.list ps, by unfold D.py; rw [e]; rfl, c, by unfold PyData.depth; have := h.1; omega⟩
  | _, .ref _, h => h.elim
theorem fins_py : ∀ (n : Nat) (l : List D), finDs n l → ∃ ps, pys l = some ps ∧ PyData.canLayAll0 ps = true ∧ PyData.depthAll ps ≤ n
  | _, [], _ => ⟨[], rfl, rfl, Nat.zero_le _⟩
  | n, d :: l, h => by
    unfold finDs at h
    obtain ⟨p, e, c, q⟩ := fin_py n d h.1
    obtain ⟨ps, e2, c2, q2⟩ := fins_py n l h.2
    refine ⟨p :: ps, by unfold pys; rw [e, e2], by unfold PyData.canLayAll0; rw [c, c2]; rfl, by unfold PyData.depthAll; omega⟩
end
theorem eqD_refl' {n : Nat} {d : D} (h : finD n d) : eqD d d = true := by
  obtain ⟨p, e, _⟩ := fin_py n d h
  exact eqD_refl d (by rw [e]; exact fun z => nomatch z)
mutual
theorem eqD_py : ∀ (a b : D) (p q : PyData), a.py = some p → b.py = some q → PyData.eqv p q = eqD a b
  | .non, b, p, q, h, g => by cases h; cases b <;> first | (cases g; done) | (cases g; rfl) | (unfold D.py at g; obtain ⟨ps, e, rfl⟩ := Option.map_eq_some_iff.mp g; rfl)
  | .bl x, b, p, q, h, g => by cases h; cases b <;> first | (cases g; done) | (cases g; rfl) | (cases g; exact Bool.beq_eq_decide_eq _ _) | (unfold D.py at g; obtain ⟨ps, e, rfl⟩ := Option.map_eq_some_iff.mp g; rfl)
  | .int x, b, p, q, h, g => by cases h; cases b <;> first | (cases g; done) | (cases g; rfl) | (cases g; exact Bool.beq_eq_decide_eq _ _) | (unfold D.py at g; obtain ⟨ps, e, rfl⟩ := Option.map_eq_some_iff.mp g; rfl)
  | .str x, b, p, q, h, g => by cases h; cases b <;> first | (cases g; done) | (cases g; rfl) | (cases g; exact Bool.beq_eq_decide_eq _ _) | (unfold D.py at g; obtain ⟨ps, e, rfl⟩ := Option.map_eq_some_iff.mp g; rfl)
  | .tup l, b, p, q, h, g => by
    unfold D.py at h
    obtain ⟨ps, e, rfl⟩ := Option.map_eq_some_iff.mp h
    cases b <;> first
      | (cases g; done)
      | (cases g; rfl)
      | (unfold D.py at g; obtain ⟨qs, e2, rfl⟩ := Option.map_eq_some_iff.mp g; rw [eqD, PyData.eqv]; exact eqDs_py l _ ps qs e e2)
      | (unfold D.py at g; obtain ⟨qs, e2, rfl⟩ := Option.map_eq_some_iff.mp g; rfl)
  | .lst l, b, p, q, h, g => by
    unfold D.py at h
    obtain ⟨ps, e, rfl⟩ := Option.map_eq_some_iff.mp h
    cases b <;> first
      | (cases g; done)
      | (cases g; rfl)
      | (unfold D.py at g; obtain ⟨qs, e2, rfl⟩ := Option.map_eq_some_iff.mp g; rw [eqD, PyData.eqv]; exact eqDs_py l _ ps qs e e2)
      | (unfold D.py at g; obtain ⟨qs, e2, rfl⟩ := Option.map_eq_some_iff.mp g; rfl)
  | .scr l, b, p, q, h, g => by
    unfold D.py at h
    obtain ⟨ps, e, rfl⟩ := Option.map_eq_some_iff.mp h
    cases b <;> first
      | (cases g; done)
      | (cases g; rfl)
      | (unfold D.py at g; obtain ⟨qs, e2, rfl⟩ := Option.map_eq_some_iff.mp g; rw [eqD, PyData.eqv]; exact eqDs_py l _ ps qs e e2)
      | (unfold D.py at g; obtain ⟨qs, e2, rfl⟩ := Option.map_eq_some_iff.mp g; rfl)
  | .ref _, _, _, _, h, _ => nomatch h
theorem eqDs_py : ∀ (a b : List D) (p q : List PyData), pys a = some p → pys b = some q → PyData.eqvAll p q = eqDs a b
  | [], [], p, q, h, g => by cases h; cases g; rfl
  | [], y :: b, p, q, h, g => by
    cases h
    unfold pys at g
    split at g
    · cases g; rfl
    · cases g
  | x :: a, [], p, q, h, g => by
    cases g
    unfold pys at h
    split at h
    · cases h; rfl
    · cases h
  | x :: a, y :: b, p, q, h, g => by
    unfold pys at h g
    split at h
    · cases h
      split at g
      · rename_i e1 e2 _ _ _ _ e3 e4
        cases g
        rw [PyData.eqvAll, eqDs, eqD_py x y _ _ (by assumption) (by assumption), eqDs_py a b _ _ (by assumption) (by assumption)]
      · cases g
    · cases h
end
theorem eqOk_of {p q : PyData} (h1 : SeqAt.shaped p = true) (h2 : SeqAt.shaped q = true) : eqOk p q = true := by
  unfold eqOk
  split <;> first | rfl | (rw [h1, h2]; rfl)
theorem fin_shaped {d : D} (h : finD 60 d) : ∃ p, d.py = some p ∧ SeqAt.shaped p = true := by
  obtain ⟨p, e, c, q⟩ := fin_py 60 d h
  exact ⟨p, e, by unfold SeqAt.shaped; rw [c, decide_eq_true (by omega)]; rfl⟩
theorem drEq_fin {neg : Bool} {d1 d2 e1 e2 : D} {M : MH} {Q : DK} (h1 : res M d1 = e1) (h2 : res M d2 = e2) (f1 : finD 60 e1) (f2 : finD 60 e2) : drEq neg d1 d2 M Q = Q (.bl (neg != eqD e1 e2)) M := by
  obtain ⟨p, ep, sp⟩ := fin_shaped f1
  obtain ⟨q, eq, sq⟩ := fin_shaped f2
  unfold drEq
  rw [h1, h2, ep, eq]
  simp only [eqOk_of sp sq, eqD_py _ _ _ _ ep eq, true_and]
theorem eqDs_strs : ∀ a b : List Str, eqDs (a.map D.str) (b.map D.str) = decide (a = b)
  | [], [] => rfl
  | [], y :: b => by simp [eqDs]
  | x :: a, [] => by simp [eqDs]
  | x :: a, y :: b => by
    simp only [List.map_cons, eqDs, eqD, eqDs_strs a b]
    rw [← Bool.decide_and]
    exact decide_eq_decide.mpr (by simp)
/-- texts in a tuple of texts -/
theorem pys_strs : ∀ us : List Str, pys (us.map D.str) = some (us.map PyData.str)
  | [] => rfl
  | u :: us => by
    rw [List.map_cons]; unfold pys
    rw [pys_strs us]; rfl
theorem drIn_strs {neg : Bool} (s : Str) (us : List Str) (M : MH) (Q : DK) : drIn neg (.str s) (.tup (us.map D.str)) M Q = Q (.bl (neg != decide (s ∈ us))) M := by
  unfold drIn
  simp only [pys_strs]
  show (((flatP (PyData.str s) && (us.map PyData.str).all flatP) = true) ∧ _) = _
  have e1 : (us.map PyData.str).all flatP = true := by
    rw [List.all_map]; exact List.all_eq_true.mpr fun _ _ => rfl
  have e2 : ((us.map PyData.str).any fun z => PyData.eqv z (.str s)) = decide (s ∈ us) := by
    rw [List.any_map]
    induction us with
    | nil => rfl
    | cons u us ih =>
      rw [List.any_cons, ih (by rw [List.all_map]; exact List.all_eq_true.mpr fun _ _ => rfl)]
      have e : ((fun z => PyData.eqv z (.str s)) ∘ PyData.str) u = decide (u = s) := by
        show PyData.eqv (.str u) (.str s) = _
        unfold PyData.eqv
        exact Bool.beq_eq_decide_eq u s
      rw [e, ← Bool.decide_or]
      exact decide_eq_decide.mpr (by simp [eq_comm])
  rw [e1, e2]
  simp [flatP]
open TL in
theorem okS_joinL {sep : List Nat} (h1 : ∀ c ∈ sep, c < 1114112) : ∀ {ws : List (List Nat)}, (∀ w ∈ ws, ∀ c ∈ w, c < 1114112) → ∀ c ∈ joinL sep ws, c < 1114112
  | [], _, c, hc => by cases hc
  | [w], h, c, hc => h w (List.mem_singleton.mpr rfl) c hc
  | w :: x :: r, h, c, hc => by
    have e : joinL sep (w :: x :: r) = w ++ sep ++ joinL sep (x :: r) := by first | rfl | simp [joinL]
    rw [e] at hc
    rcases List.mem_append.mp hc with hc | hc
    · rcases List.mem_append.mp hc with hc | hc
      · exact h w List.mem_cons_self c hc
      · exact h1 c hc
    · exact okS_joinL h1 (fun y hy => h y (List.mem_cons_of_mem _ hy)) c hc
theorem okS_join {sep : Str} {ws : List Str} (h1 : okS sep) (h2 : ∀ w ∈ ws, okS w) : okS (Txt.join sep ws) := by
  have e : Txt.join sep ws = Str.join sep ws := StrLaws.glued_eq_join sep ws
  rw [e]
  intro c hc
  have hc' : c ∈ TL.tl (Str.join sep ws) := hc
  rw [TL.tl_join] at hc'
  refine okS_joinL h1 ?_ c hc'
  intro w hw
  obtain ⟨x, hx, rfl⟩ := List.mem_map.mp hw
  exact h2 x hx
open TL in
theorem spl_mem {S : List Nat} : ∀ (k : Nat) (acc l : List Nat), ∀ w ∈ spl S k acc l, ∀ c ∈ w, c ∈ acc ∨ c ∈ l
  | k, acc, [], w, hw, c, hc => by
    rw [spl_nil] at hw
    rw [List.mem_singleton.mp hw] at hc
    exact .inl hc
  | 0, acc, a :: r, w, hw, c, hc => by
    unfold spl at hw
    split at hw
    · rcases List.mem_cons.mp hw with rfl | hw
      · exact .inl hc
      · rcases spl_mem _ [] r w hw c hc with h | h
        · cases h
        · exact .inr (List.mem_cons_of_mem _ h)
    · rcases spl_mem 0 (acc ++ [a]) r w hw c hc with h | h
      · rcases List.mem_append.mp h with h | h
        · exact .inl h
        · exact .inr (List.mem_singleton.mp h ▸ List.mem_cons_self)
      · exact .inr (List.mem_cons_of_mem _ h)
  | k + 1, acc, a :: r, w, hw, c, hc => by
    have hw' : w ∈ spl S k acc r := hw
    rcases spl_mem k acc r w hw' c hc with h | h
    · exact .inl h
    · exact .inr (List.mem_cons_of_mem _ h)
theorem split_mem {z sep w : Str} (h1 : TL.tl sep ≠ []) (h2 : sep.cps.all (· < 256) = true) (hw : w ∈ Txt.split z sep) : ∀ c ∈ TL.tl w, c ∈ TL.tl z := by
  intro c hc
  have e := TL.split_spl z sep h1 (TL.kind_ok h2)
  have hw2 : TL.tl w ∈ TL.spl (TL.tl sep) 0 [] (TL.tl z) := by rw [← e]; exact List.mem_map_of_mem hw
  rcases spl_mem 0 [] _ _ hw2 c hc with h | h
  · cases h
  · exact h
theorem okS_split {z sep : Str} (h1 : TL.tl sep ≠ []) (h2 : sep.cps.all (· < 256) = true) (h : okS z) : ∀ w ∈ Txt.split z sep, okS w := fun w hw c hc => h c (split_mem h1 h2 hw c hc)
open TL in
theorem spl_len {S : List Nat} : ∀ (k : Nat) (acc l : List Nat), ∀ w ∈ spl S k acc l, w.length ≤ acc.length + l.length
  | k, acc, [], w, hw => by
    rw [spl_nil] at hw
    rw [List.mem_singleton.mp hw]
    simp
  | 0, acc, a :: r, w, hw => by
    unfold spl at hw
    split at hw
    · rcases List.mem_cons.mp hw with rfl | hw
      · simp
      · have := spl_len _ [] r w hw
        simp only [List.length_nil, List.length_cons] at this ⊢; omega
    · have := spl_len 0 (acc ++ [a]) r w hw
      simp only [List.length_append, List.length_nil, List.length_cons] at this ⊢; omega
  | k + 1, acc, a :: r, w, hw => by
    have hw' : w ∈ spl S k acc r := hw
    have := spl_len k acc r w hw'
    simp only [List.length_cons]; omega
theorem split_len {z sep w : Str} (h1 : TL.tl sep ≠ []) (h2 : sep.cps.all (· < 256) = true) (hw : w ∈ Txt.split z sep) : w.length ≤ z.length := by
  have e := TL.split_spl z sep h1 (TL.kind_ok h2)
  have hw2 : TL.tl w ∈ TL.spl (TL.tl sep) 0 [] (TL.tl z) := by rw [← e]; exact List.mem_map_of_mem hw
  have := spl_len 0 [] _ _ hw2
  rw [TL.len_tl w, TL.len_tl z]
  simpa using this
theorem finDs_strs {n : Nat} : ∀ {us : List Str}, (∀ u ∈ us, okS u) → finDs n (us.map D.str)
  | [], _ => trivial
  | u :: us, h => ⟨h u List.mem_cons_self, finDs_strs fun x hx => h x (List.mem_cons_of_mem _ hx)⟩
theorem drEq_strs {neg : Bool} {a b : List Str} {M : MH} {Q : DK} (ha : ∀ u ∈ a, okS u) (hb : ∀ u ∈ b, okS u) : drEq neg (.lst (a.map D.str)) (.lst (b.map D.str)) M Q = Q (.bl (neg != decide (a = b))) M := by
  rw [drEq_fin (e1 := .lst (a.map D.str)) (e2 := .lst (b.map D.str)) rfl rfl ⟨by decide, finDs_strs ha⟩ ⟨by decide, finDs_strs hb⟩, eqD, eqDs_strs]
theorem okS_append {a b : Str} (h1 : okS a) (h2 : okS b) : okS (a ++ b) := by
  intro c hc
  have hc' : c ∈ TL.tl (a ++ b) := hc
  rw [TL.tl_append] at hc'
  rcases List.mem_append.mp hc' with h | h
  · exact h1 c h
  · exact h2 c h
theorem item_of {ds : List D} {r : Int} {P : D → Prop} (h0 : 0 ≤ r) (h1 : r < ds.length) (h : ∀ d ∈ ds, P d) : (match atI ds r with | some d => P d | none => False) := by
  have hn : r.toNat < ds.length := by omega
  have e : atI ds r = some ds[r.toNat] := by
    unfold atI
    have : ixN ds.length r = some r.toNat := by unfold ixN; rw [if_pos h0, if_pos h1]
    rw [this]
    show ds[r.toNat]? = _
    rw [List.getElem?_eq_getElem hn]
  rw [e]
  exact h _ (List.getElem_mem hn)
/-- one step by itself -/
theorem seqE {a b : DTS} {W : DWX} {D : DEnds} {ρ : DSt} {M : MH} (h : ∀ NX : DSt → MH → Prop, (∀ ρ M, NX ρ M = b W D ρ M) → a W { D with nx := NX } ρ M) : dSeq a b W D ρ M := h _ fun _ _ => rfl
/-- what a for walks, by itself -/
theorem forE {dw : DTI} {g : DTG} {tb : DTS} {W : DWX} {D : DEnds} {ρ : DSt} {M : MH}
    (h : ∀ R : List DL.D → (MH → Prop) → MH → Prop, (∀ ds Keep M1, (∃ Pv : Nat → DSt → MH → Prop, Pv 0 ρ M1 ∧ (∀ i ρ M, Pv i ρ M → Keep M) ∧ (∀ i d ρ M, ds[i]? = some d → Pv i ρ M → g d W ρ M fun ρ2 M2 => tb W { D with nx := Pv (i + 1), ct := Pv (i + 1), bk := D.nx } ρ2 M2) ∧ ∀ ρ M, Pv ds.length ρ M → D.nx ρ M) → R ds Keep M1) → dw W ρ M R) : dFor dw g tb W D ρ M :=
  h _ fun _ _ _ z => z
end DL

namespace Lw
open PySem L2 DL
def top (i : Nat) : Stmt := PySem.Challenge.pw_tryweir_k72_whole_events_written_and_rea.main.body.getD i (.Pass ⟨0, 0, 0, 0⟩)
abbrev FnP (K : PySem.W.Frag) (x : Str) (st : Stmt) (f : Addr) (fd : FuncData) : Prop := FunD K x x (defArgs st) (defBody st) (defScope st) [] [] f fd
abbrev s_event_text : Stmt := top 8
abbrev s_are_figures : Stmt := top 9
abbrev s_number_in : Stmt := top 10
abbrev s_read_event : Stmt := top 11
abbrev s__law_pool : Stmt := top 13
abbrev s__law_next : Stmt := top 14
abbrev s__law_figures : Stmt := top 15
abbrev s__law_event : Stmt := top 16
abbrev s__law_event_text : Stmt := top 17
abbrev s__law_amiss : Stmt := top 18
abbrev s__law_refused : Stmt := top 19
abbrev s_law : Stmt := top 20
abbrev c_ENDS : D := .tup [.str "bad", .str "spent", .str "well"]
abbrev c_EVENT_FIGURES : D := .int 60
abbrev c_FIGURES : D := .str "0123456789"
abbrev c_ONE_NUMBER : D := .tup [.str "lost", .str "again", .str "up"]
structure Tx (K : PySem.W.Frag) (mg : Str → Option Value) : Type where
  d_event_text : FuncData
  F_event_text : FnP K "event_text" s_event_text (He.ga K "event_text") d_event_text
  m_event_text : mg "event_text" = some (.ref (He.ga K "event_text"))
  b_event_text : Binds K d_event_text ["event"] []
  d_are_figures : FuncData
  F_are_figures : FnP K "are_figures" s_are_figures (He.ga K "are_figures") d_are_figures
  m_are_figures : mg "are_figures" = some (.ref (He.ga K "are_figures"))
  b_are_figures : Binds K d_are_figures ["text", "most"] []
  d_number_in : FuncData
  F_number_in : FnP K "number_in" s_number_in (He.ga K "number_in") d_number_in
  m_number_in : mg "number_in" = some (.ref (He.ga K "number_in"))
  b_number_in : Binds K d_number_in ["text", "most"] []
  d_read_event : FuncData
  F_read_event : FnP K "read_event" s_read_event (He.ga K "read_event") d_read_event
  m_read_event : mg "read_event" = some (.ref (He.ga K "read_event"))
  b_read_event : Binds K d_read_event ["text"] []
  d__law_pool : FuncData
  F__law_pool : FnP K "_law_pool" s__law_pool (He.ga K "_law_pool") d__law_pool
  m__law_pool : mg "_law_pool" = some (.ref (He.ga K "_law_pool"))
  b__law_pool : Binds K d__law_pool ["cell"] []
  d__law_next : FuncData
  F__law_next : FnP K "_law_next" s__law_next (He.ga K "_law_next") d__law_next
  m__law_next : mg "_law_next" = some (.ref (He.ga K "_law_next"))
  b__law_next : Binds K d__law_next ["pool", "base"] []
  d__law_figures : FuncData
  F__law_figures : FnP K "_law_figures" s__law_figures (He.ga K "_law_figures") d__law_figures
  m__law_figures : mg "_law_figures" = some (.ref (He.ga K "_law_figures"))
  b__law_figures : Binds K d__law_figures ["number"] []
  d__law_event : FuncData
  F__law_event : FnP K "_law_event" s__law_event (He.ga K "_law_event") d__law_event
  m__law_event : mg "_law_event" = some (.ref (He.ga K "_law_event"))
  b__law_event : Binds K d__law_event ["pool"] []
  d__law_event_text : FuncData
  F__law_event_text : FnP K "_law_event_text" s__law_event_text (He.ga K "_law_event_text") d__law_event_text
  m__law_event_text : mg "_law_event_text" = some (.ref (He.ga K "_law_event_text"))
  b__law_event_text : Binds K d__law_event_text ["event"] []
  d__law_amiss : FuncData
  F__law_amiss : FnP K "_law_amiss" s__law_amiss (He.ga K "_law_amiss") d__law_amiss
  m__law_amiss : mg "_law_amiss" = some (.ref (He.ga K "_law_amiss"))
  b__law_amiss : Binds K d__law_amiss ["text", "pool"] []
  d__law_refused : FuncData
  F__law_refused : FnP K "_law_refused" s__law_refused (He.ga K "_law_refused") d__law_refused
  m__law_refused : mg "_law_refused" = some (.ref (He.ga K "_law_refused"))
  b__law_refused : Binds K d__law_refused ["thing"] []
  d_law : FuncData
  F_law : FnP K "law" s_law (He.ga K "law") d_law
  m_law : mg "law" = some (.ref (He.ga K "law"))
  b_law : Binds K d_law ["script"] []
  z_abs : mg "abs" = none
  z_all : mg "all" = none
  z_int : mg "int" = none
  z_isinstance : mg "isinstance" = none
  z_len : mg "len" = none
  z_max : mg "max" = none
  z_str : mg "str" = none
  u_ENDS : Value
  k_ENDS : mg "ENDS" = some u_ENDS ∧ KC K c_ENDS u_ENDS
  u_EVENT_FIGURES : Value
  k_EVENT_FIGURES : mg "EVENT_FIGURES" = some u_EVENT_FIGURES ∧ KC K c_EVENT_FIGURES u_EVENT_FIGURES
  u_FIGURES : Value
  k_FIGURES : mg "FIGURES" = some u_FIGURES ∧ KC K c_FIGURES u_FIGURES
  u_ONE_NUMBER : Value
  k_ONE_NUMBER : mg "ONE_NUMBER" = some u_ONE_NUMBER ∧ KC K c_ONE_NUMBER u_ONE_NUMBER
  g_NoText : mg "NoText" = some (.ref (He.ga K "NoText"))
  x_NoText : PySem.W.excIn K (He.ga K "NoText") He.veBase "ValueError.__new__" = true ∧ PySem.W.keepIn K (.ref (He.ga K "NoText")) = true ∧ PySem.W.subIn K (.ref (He.ga K "NoText")) (.type "BaseException") = some true ∧ PySem.W.typeIn K (.ref (He.ga K "NoText")) = some (.type "type")
  e_NoText : PySem.W.exmOne K (.ref (He.ga K "NoText")) (.ref (He.ga K "NoText")) = some true
section
variable {P : Program} {w : World} {K : PySem.W.Frag} {mg : Str → Option Value} {base : Heap} {k : Nat}
/-! ### event_text -/
abbrev N_event_text : List Str := ["event", "thing"]
theorem sc_event_text : FnScope ["event", "thing"] ["event"] (defScope s_event_text) := ⟨rfl, rfl, rfl, by decide +kernel, rfl, by decide +kernel, by decide +kernel⟩
def t_event_text (K : PySem.W.Frag) : DTS :=
  (dRet (dJoin (dC (.str " ")) (dLc (diTup (dVar 0)) (dgName 1) dYes (dCB drStr (dCons (dVar 1) dNil)) [1])))
theorem b_event_text (T : Tx K mg) :
    ∀ cdv A outer s H E, Room k (A.deeper (PyProof.Rows.envOfC "event_text" (defScope s_event_text) s.heap.objs.size (He.ga K "event_text") cdv)) → DSs (bodyX P w K mg base ["event", "thing"] "event_text" (defScope s_event_text) (He.ga K "event_text") cdv A outer s H E) (bodyW E) (defBody s_event_text) (t_event_text K ) := by
  intro cdv A outer s H E hr
  have hu := hr.units
  have hu5 := hu5_of hr
  have nd := sc_event_text.nd
  unfold t_event_text
  exact (dss_one (ds_ret (de_join de_str (de_lc rfl nd (di_tup (de_var 0)) (blkOk_by (own := ([("thing", 1)] : List (Str × Nat))) (N := ["event", "thing"]) (sc := defScope s_event_text) (by decide +kernel)) rfl (by decide) (fun _ _ _ _ _ => (dg_name nd)) (fun _ _ _ _ _ => dts_nil) (fun _ _ _ _ _ => (de_callTy call_strD lk_str T.z_str (by decide +kernel) (da_cons (de_var 1) da_nil)))))))
/-! ### are_figures -/
abbrev N_are_figures : List Str := ["text", "most", "sign"]
theorem sc_are_figures : FnScope ["text", "most", "sign"] ["text", "most"] (defScope s_are_figures) := ⟨rfl, rfl, rfl, by decide +kernel, rfl, by decide +kernel, by decide +kernel⟩
def t_are_figures (K : PySem.W.Frag) : DTS :=
  (dSeq (dIfS (dOr (dNot (dTest (dChain (drI0 fun i j => .bl (decide (i ≤ j))) (drI0 fun i j => .bl (decide (i ≤ j))) (dC (.int 1)) (dCB drLen (dCons (dVar 0) dNil)) (dVar 1)))) (dNot (dTest (dCB (drBls fun bs => bs.all id) (dCons (dLc (diStr (dVar 0)) (dgName 2) dYes (dIn (dVar 2) (dC c_FIGURES)) [2]) dNil))))) (dRet (dC (.bl false))) dNext)
  (dRet (dOrV (dEq (dVar 0) (dC (.str "0"))) (dNe (dIxC 0 (dVar 0)) (dC (.str "0"))))))
theorem b_are_figures (T : Tx K mg) :
    ∀ cdv A outer s H E, Room k (A.deeper (PyProof.Rows.envOfC "are_figures" (defScope s_are_figures) s.heap.objs.size (He.ga K "are_figures") cdv)) → DSs (bodyX P w K mg base ["text", "most", "sign"] "are_figures" (defScope s_are_figures) (He.ga K "are_figures") cdv A outer s H E) (bodyW E) (defBody s_are_figures) (t_are_figures K ) := by
  intro cdv A outer s H E hr
  have hu := hr.units
  have hu5 := hu5_of hr
  have nd := sc_are_figures.nd
  unfold t_are_figures
  exact (dss_cons (ds_if (DW.dt (dw_or (dt_not (dt_chain op_le op_le (lk_intb _) (lk_intb _) de_int (de_callB call_lenA lk_len T.z_len (by decide +kernel) (da_cons (de_var 0) da_nil)) (de_var 1))) (dw_or1 (dt_not (dt_val (de_callB (cr_all rfl) (lk_bls _) T.z_all (by decide +kernel) (da_cons (de_lc rfl nd (di_str (de_var 0)) (blkOk_by (own := ([("sign", 2)] : List (Str × Nat))) (N := ["text", "most", "sign"]) (sc := defScope s_are_figures) (by decide +kernel)) rfl (by decide) (fun _ _ _ _ _ => (dg_name nd)) (fun _ _ _ _ _ => dts_nil) (fun _ _ _ _ _ => (de_in hu5 (de_var 2) (de_glob (u := T.u_FIGURES) rfl T.k_FIGURES.1 T.k_FIGURES.2)))) da_nil))))))) (dss_one (ds_ret de_bl)) dss_nil)
    (dss_one (ds_ret (de_or (de_eq hu (de_var 0) de_str) (de_one (de_ne hu (de_ixC (k := 0) (de_var 0)) de_str))))))
/-! ### number_in -/
abbrev N_number_in : List Str := ["text", "most"]
theorem sc_number_in : FnScope ["text", "most"] ["text", "most"] (defScope s_number_in) := ⟨rfl, rfl, rfl, by decide +kernel, rfl, by decide +kernel, by decide +kernel⟩
def t_number_in (K : PySem.W.Frag) (p_are_figures : DSp) : DTS :=
  (dSeq (dIfS (dNot (dTest (dCall p_are_figures (dCons (dVar 0) (dCons (dVar 1) dNil))))) (dRaise (He.ga K "NoText")) dNext)
  (dRet (dCB drIntS (dCons (dVar 0) dNil))))
theorem b_number_in (T : Tx K mg) {p_are_figures : DSp} (G_are_figures : FnOk P w K mg base (L2.CX P w) k (He.ga K "are_figures") T.d_are_figures ["text", "most"] (LSp K p_are_figures)) :
    ∀ cdv A outer s H E, Room k (A.deeper (PyProof.Rows.envOfC "number_in" (defScope s_number_in) s.heap.objs.size (He.ga K "number_in") cdv)) → DSs (bodyX P w K mg base ["text", "most"] "number_in" (defScope s_number_in) (He.ga K "number_in") cdv A outer s H E) (bodyW E) (defBody s_number_in) (t_number_in K p_are_figures) := by
  intro cdv A outer s H E hr
  have hu := hr.units
  have hu5 := hu5_of hr
  have nd := sc_number_in.nd
  unfold t_number_in
  exact (dss_cons (ds_if (dt_not (dt_val (de_call G_are_figures hr T.m_are_figures T.F_are_figures.kp T.b_are_figures body_takes (da_cons (de_var 0) (da_cons (de_var 1) da_nil))))) (dss_one (ds_raise rfl body_takes (pmk_own PySem.F.excBase_ValueError T.x_NoText.1 T.g_NoText T.x_NoText.2.1 (raises_own T.x_NoText.2.2.1 T.x_NoText.2.2.2) rfl) fun _ _ _ h => h)) dss_nil)
    (dss_one (ds_ret (de_callTy call_int_str lk_intS T.z_int (by decide +kernel) (da_cons (de_var 0) da_nil)))))
/-! ### read_event -/
abbrev N_read_event : List Str := ["text", "words"]
theorem sc_read_event : FnScope ["text", "words"] ["text"] (defScope s_read_event) := ⟨rfl, rfl, rfl, by decide +kernel, rfl, by decide +kernel, by decide +kernel⟩
def t_read_event (K : PySem.W.Frag) (p_number_in : DSp) : DTS :=
  (dSeq (dIfS (dNot (dTest (dIsi "str" (dVar 0)))) (dRaise (He.ga K "NoText")) dNext)
  (dSeq (dAsg (dSplit (dVar 0) (dC (.str " "))) (dgName 1))
  (dSeq (dIfS (dTest (dEq (dVar 1) (dLst (dCons (dC (.str "fresh")) dNil)))) (dRet (dTup (dCons (dC (.str "fresh")) dNil))) dNext)
  (dSeq (dIfS (dAnd (dTest (dEq (dCB drLen (dCons (dVar 1) dNil)) (dC (.int 2)))) (dTest (dIn (dIxC 0 (dVar 1)) (dC c_ONE_NUMBER)))) (dRet (dTup (dCons (dIxC 0 (dVar 1)) (dCons (dCall p_number_in (dCons (dIxC 1 (dVar 1)) (dCons (dC c_EVENT_FIGURES) dNil))) dNil)))) dNext)
  (dSeq (dIfS (dAnd (dTest (dEq (dCB drLen (dCons (dVar 1) dNil)) (dC (.int 3)))) (dAnd (dTest (dEq (dIxC 0 (dVar 1)) (dC (.str "ends")))) (dTest (dIn (dIxC 2 (dVar 1)) (dC c_ENDS))))) (dRet (dTup (dCons (dC (.str "ends")) (dCons (dCall p_number_in (dCons (dIxC 1 (dVar 1)) (dCons (dC c_EVENT_FIGURES) dNil))) (dCons (dIxC 2 (dVar 1)) dNil))))) dNext)
  (dRaise (He.ga K "NoText")))))))
theorem b_read_event (T : Tx K mg) {p_number_in : DSp} (G_number_in : FnOk P w K mg base (L2.CX P w) k (He.ga K "number_in") T.d_number_in ["text", "most"] (LSp K p_number_in)) :
    ∀ cdv A outer s H E, Room k (A.deeper (PyProof.Rows.envOfC "read_event" (defScope s_read_event) s.heap.objs.size (He.ga K "read_event") cdv)) → DSs (bodyX P w K mg base ["text", "words"] "read_event" (defScope s_read_event) (He.ga K "read_event") cdv A outer s H E) (bodyW E) (defBody s_read_event) (t_read_event K p_number_in) := by
  intro cdv A outer s H E hr
  have hu := hr.units
  have hu5 := hu5_of hr
  have nd := sc_read_event.nd
  unfold t_read_event
  exact (dss_cons (ds_if (dt_not (dt_val (de_isi T.z_isinstance T.z_str (by decide +kernel) (de_var 0)))) (dss_one (ds_raise rfl body_takes (pmk_own PySem.F.excBase_ValueError T.x_NoText.1 T.g_NoText T.x_NoText.2.1 (raises_own T.x_NoText.2.2.1 T.x_NoText.2.2.2) rfl) fun _ _ _ h => h)) dss_nil)
    (dss_cons (ds_set 1 nd (de_split (de_var 0) de_str))
    (dss_cons (ds_if (dt_eq hu (de_var 1) (de_lst (da_cons de_str da_nil))) (dss_one (ds_ret (de_tup (da_cons de_str da_nil)))) dss_nil)
    (dss_cons (ds_if (DW.dt (dw_and (dt_eq hu (de_callB call_lenA lk_len T.z_len (by decide +kernel) (da_cons (de_var 1) da_nil)) de_int) (dw_and1 (dt_in hu5 (de_ixC (k := 0) (de_var 1)) (de_glob (u := T.u_ONE_NUMBER) rfl T.k_ONE_NUMBER.1 T.k_ONE_NUMBER.2))))) (dss_one (ds_ret (de_tup (da_cons (de_ixC (k := 0) (de_var 1)) (da_cons (de_call G_number_in hr T.m_number_in T.F_number_in.kp T.b_number_in body_takes (da_cons (de_ixC (k := 1) (de_var 1)) (da_cons (de_glob (u := T.u_EVENT_FIGURES) rfl T.k_EVENT_FIGURES.1 T.k_EVENT_FIGURES.2) da_nil))) da_nil))))) dss_nil)
    (dss_cons (ds_if (DW.dt (dw_and (dt_eq hu (de_callB call_lenA lk_len T.z_len (by decide +kernel) (da_cons (de_var 1) da_nil)) de_int) (dw_and (dt_eq hu (de_ixC (k := 0) (de_var 1)) de_str) (dw_and1 (dt_in hu5 (de_ixC (k := 2) (de_var 1)) (de_glob (u := T.u_ENDS) rfl T.k_ENDS.1 T.k_ENDS.2)))))) (dss_one (ds_ret (de_tup (da_cons de_str (da_cons (de_call G_number_in hr T.m_number_in T.F_number_in.kp T.b_number_in body_takes (da_cons (de_ixC (k := 1) (de_var 1)) (da_cons (de_glob (u := T.u_EVENT_FIGURES) rfl T.k_EVENT_FIGURES.1 T.k_EVENT_FIGURES.2) da_nil))) (da_cons (de_ixC (k := 2) (de_var 1)) da_nil)))))) dss_nil)
    (dss_one (ds_raise rfl body_takes (pmk_own PySem.F.excBase_ValueError T.x_NoText.1 T.g_NoText T.x_NoText.2.1 (raises_own T.x_NoText.2.2.1 T.x_NoText.2.2.2) rfl) fun _ _ _ h => h)))))))
/-! ### _law_pool -/
abbrev N__law_pool : List Str := ["cell"]
theorem sc__law_pool : FnScope ["cell"] ["cell"] (defScope s__law_pool) := ⟨rfl, rfl, rfl, by decide +kernel, rfl, by decide +kernel, by decide +kernel⟩
def t__law_pool (K : PySem.W.Frag) : DTS :=
  (dRet (dLstM (dCons (dCB (dr2I fun i j => if j > i then j else i) (dCons (dC (.int 0)) (dCons (dSub (dVar 0) (dPow (dC (.int 10)) (dC (.int 18)))) dNil))) (dCons (dMod (dVar 0) (dPow (dC (.int 10)) (dC (.int 18)))) (dCons (dC (.int 0)) dNil)))))
theorem b__law_pool (T : Tx K mg) :
    ∀ cdv A outer s H E, Room k (A.deeper (PyProof.Rows.envOfC "_law_pool" (defScope s__law_pool) s.heap.objs.size (He.ga K "_law_pool") cdv)) → DSs (bodyX P w K mg base ["cell"] "_law_pool" (defScope s__law_pool) (He.ga K "_law_pool") cdv A outer s H E) (bodyW E) (defBody s__law_pool) (t__law_pool K ) := by
  intro cdv A outer s H E hr
  have hu := hr.units
  have hu5 := hu5_of hr
  have nd := sc__law_pool.nd
  unfold t__law_pool
  exact (dss_one (ds_ret (de_lstM (da_cons (de_callB (call_max2 rfl) (lk_2I _) T.z_max (by decide +kernel) (da_cons de_int (da_cons (de_sub (de_var 0) (de_pow de_int de_int)) da_nil))) (da_cons (de_mod (de_var 0) (de_pow de_int de_int)) (da_cons de_int da_nil))))))
/-! ### _law_next -/
abbrev N__law_next : List Str := ["pool", "base", "mixed", "stir", "digit"]
theorem sc__law_next : FnScope ["pool", "base", "mixed", "stir", "digit"] ["pool", "base"] (defScope s__law_next) := ⟨rfl, rfl, rfl, by decide +kernel, rfl, by decide +kernel, by decide +kernel⟩
def t__law_next (K : PySem.W.Frag) : DTS :=
  (dSeq (dIfS (dTest (dGt (dIxC 0 (dVar 0)) (dC (.int 0)))) (dSeq (dAsg (dMod (dIxC 0 (dVar 0)) (dVar 1)) (dgName 4))
  (dSeq (dAsg (dFdiv (dIxC 0 (dVar 0)) (dVar 1)) (dgSub (dVar 0) (dC (.int 0))))
  (dRet (dVar 4)))) dNext)
  (dSeq (dAsg (dPlus (dIxC 2 (dVar 0)) (dC (.int 1))) (dgSub (dVar 0) (dC (.int 2))))
  (dSeq (dAsg (dMod (dPlus (dIxC 1 (dVar 0)) (dMul (dC (.int 7919)) (dIxC 2 (dVar 0)))) (dC (.int 1000000007))) (dgName 2))
  (dSeq (dAsg (dMod (dMul (dPlus (dVar 2) (dC (.int 11))) (dPlus (dVar 2) (dC (.int 48271)))) (dC (.int 998244353))) (dgName 3))
  (dRet (dMod (dFdiv (dMod (dMul (dVar 3) (dVar 3)) (dC (.int 2147483647))) (dC (.int 8))) (dVar 1)))))))
theorem b__law_next (T : Tx K mg) :
    ∀ cdv A outer s H E, Room k (A.deeper (PyProof.Rows.envOfC "_law_next" (defScope s__law_next) s.heap.objs.size (He.ga K "_law_next") cdv)) → DSs (bodyX P w K mg base ["pool", "base", "mixed", "stir", "digit"] "_law_next" (defScope s__law_next) (He.ga K "_law_next") cdv A outer s H E) (bodyW E) (defBody s__law_next) (t__law_next K ) := by
  intro cdv A outer s H E hr
  have hu := hr.units
  have hu5 := hu5_of hr
  have nd := sc__law_next.nd
  unfold t__law_next
  exact (dss_cons (ds_if (dt_gt (de_ixC (k := 0) (de_var 0)) de_int) (dss_cons (ds_set 4 nd (de_mod (de_ixC (k := 0) (de_var 0)) (de_var 1)))
    (dss_cons (ds_asg (de_fdiv (de_ixC (k := 0) (de_var 0)) (de_var 1)) (dg_sub (de_var 0) de_int))
    (dss_one (ds_ret (de_var 4))))) dss_nil)
    (dss_cons (ds_asg (de_plus (de_ixC (k := 2) (de_var 0)) de_int) (dg_sub (de_var 0) de_int))
    (dss_cons (ds_set 2 nd (de_mod (de_plus (de_ixC (k := 1) (de_var 0)) (de_mul de_int (de_ixC (k := 2) (de_var 0)))) de_int))
    (dss_cons (ds_set 3 nd (de_mod (de_mul (de_plus (de_var 2) de_int) (de_plus (de_var 2) de_int)) de_int))
    (dss_one (ds_ret (de_mod (de_fdiv (de_mod (de_mul (de_var 3) (de_var 3)) de_int) de_int) (de_var 1))))))))
/-! ### _law_figures -/
abbrev N__law_figures : List Str := ["number", "text", "rest"]
theorem sc__law_figures : FnScope ["number", "text", "rest"] ["number"] (defScope s__law_figures) := ⟨rfl, rfl, rfl, by decide +kernel, rfl, by decide +kernel, by decide +kernel⟩
def t__law_figures (K : PySem.W.Frag) : DTS :=
  (dSeq (dAsg (dC (.str "")) (dgName 1))
  (dSeq (dAsg (dCB drAbs (dCons (dVar 0) dNil)) (dgName 2))
  (dSeq (dWhile (dTest (dGt (dVar 2) (dC (.int 0)))) (dSeq (dAsg (dPlus (dItem (dC (.str "0123456789")) (dMod (dVar 2) (dC (.int 10)))) (dVar 1)) (dgName 1))
  (dAsg (dFdiv (dVar 2) (dC (.int 10))) (dgName 2))))
  (dRet (dPlus (dItem (dLst (dCons (dC (.str "")) (dCons (dC (.str "-")) dNil))) (dCB drInt (dCons (dLt (dVar 0) (dC (.int 0))) dNil))) (dItem (dLst (dCons (dC (.str "0")) (dCons (dVar 1) dNil))) (dCB drInt (dCons (dNe (dVar 0) (dC (.int 0))) dNil))))))))
theorem b__law_figures (T : Tx K mg) :
    ∀ cdv A outer s H E, Room k (A.deeper (PyProof.Rows.envOfC "_law_figures" (defScope s__law_figures) s.heap.objs.size (He.ga K "_law_figures") cdv)) → DSs (bodyX P w K mg base ["number", "text", "rest"] "_law_figures" (defScope s__law_figures) (He.ga K "_law_figures") cdv A outer s H E) (bodyW E) (defBody s__law_figures) (t__law_figures K ) := by
  intro cdv A outer s H E hr
  have hu := hr.units
  have hu5 := hu5_of hr
  have nd := sc__law_figures.nd
  unfold t__law_figures
  exact (dss_cons (ds_set 1 nd de_str)
    (dss_cons (ds_set 2 nd (de_callB call_abs lk_abs T.z_abs (by decide +kernel) (da_cons (de_var 0) da_nil)))
    (dss_cons (ds_while body_passes (dt_gt (de_var 2) de_int) (dss_cons (ds_set 1 nd (de_plus (de_item de_str (de_mod (de_var 2) de_int)) (de_var 1)))
    (dss_one (ds_set 2 nd (de_fdiv (de_var 2) de_int)))))
    (dss_one (ds_ret (de_plus (de_item (de_lst (da_cons de_str (da_cons de_str da_nil))) (de_callTy call_int1 lk_int1 T.z_int (by decide +kernel) (da_cons (de_lt (de_var 0) de_int) da_nil))) (de_item (de_lst (da_cons de_str (da_cons (de_var 1) da_nil))) (de_callTy call_int1 lk_int1 T.z_int (by decide +kernel) (da_cons (de_ne hu (de_var 0) de_int) da_nil)))))))))
/-! ### _law_event -/
abbrev N__law_event : List Str := ["pool", "number", "word"]
theorem sc__law_event : FnScope ["pool", "number", "word"] ["pool"] (defScope s__law_event) := ⟨rfl, rfl, rfl, by decide +kernel, rfl, by decide +kernel, by decide +kernel⟩
def t__law_event (K : PySem.W.Frag) (p__law_next : DSp) : DTS :=
  (dSeq (dAsg (dCall p__law_next (dCons (dVar 0) (dCons (dItem (dLst (dCons (dC (.int 3)) (dCons (dC (.int 12)) (dCons (dC (.int 2000)) (dCons (dPow (dC (.int 10)) (dC (.int 60))) dNil))))) (dCall p__law_next (dCons (dVar 0) (dCons (dC (.int 4)) dNil)))) dNil))) (dgName 1))
  (dSeq (dAsg (dItem (dLst (dCons (dC (.str "bad")) (dCons (dC (.str "spent")) (dCons (dC (.str "well")) dNil)))) (dCall p__law_next (dCons (dVar 0) (dCons (dC (.int 3)) dNil)))) (dgName 2))
  (dRet (dItem (dLst (dCons (dTup (dCons (dC (.str "fresh")) dNil)) (dCons (dTup (dCons (dC (.str "ends")) (dCons (dVar 1) (dCons (dVar 2) dNil)))) (dCons (dTup (dCons (dC (.str "lost")) (dCons (dVar 1) dNil))) (dCons (dTup (dCons (dC (.str "again")) (dCons (dVar 1) dNil))) (dCons (dTup (dCons (dC (.str "up")) (dCons (dVar 1) dNil))) dNil)))))) (dCall p__law_next (dCons (dVar 0) (dCons (dC (.int 5)) dNil)))))))
theorem b__law_event (T : Tx K mg) {p__law_next : DSp} (G__law_next : FnOk P w K mg base (L2.CX P w) k (He.ga K "_law_next") T.d__law_next ["pool", "base"] (LSp K p__law_next)) :
    ∀ cdv A outer s H E, Room k (A.deeper (PyProof.Rows.envOfC "_law_event" (defScope s__law_event) s.heap.objs.size (He.ga K "_law_event") cdv)) → DSs (bodyX P w K mg base ["pool", "number", "word"] "_law_event" (defScope s__law_event) (He.ga K "_law_event") cdv A outer s H E) (bodyW E) (defBody s__law_event) (t__law_event K p__law_next) := by
  intro cdv A outer s H E hr
  have hu := hr.units
  have hu5 := hu5_of hr
  have nd := sc__law_event.nd
  unfold t__law_event
  exact (dss_cons (ds_set 1 nd (de_call G__law_next hr T.m__law_next T.F__law_next.kp T.b__law_next body_takes (da_cons (de_var 0) (da_cons (de_item (de_lst (da_cons de_int (da_cons de_int (da_cons de_int (da_cons (de_pow de_int de_int) da_nil))))) (de_call G__law_next hr T.m__law_next T.F__law_next.kp T.b__law_next body_takes (da_cons (de_var 0) (da_cons de_int da_nil)))) da_nil))))
    (dss_cons (ds_set 2 nd (de_item (de_lst (da_cons de_str (da_cons de_str (da_cons de_str da_nil)))) (de_call G__law_next hr T.m__law_next T.F__law_next.kp T.b__law_next body_takes (da_cons (de_var 0) (da_cons de_int da_nil)))))
    (dss_one (ds_ret (de_item (de_lst (da_cons (de_tup (da_cons de_str da_nil)) (da_cons (de_tup (da_cons de_str (da_cons (de_var 1) (da_cons (de_var 2) da_nil)))) (da_cons (de_tup (da_cons de_str (da_cons (de_var 1) da_nil))) (da_cons (de_tup (da_cons de_str (da_cons (de_var 1) da_nil))) (da_cons (de_tup (da_cons de_str (da_cons (de_var 1) da_nil))) da_nil)))))) (de_call G__law_next hr T.m__law_next T.F__law_next.kp T.b__law_next body_takes (da_cons (de_var 0) (da_cons de_int da_nil))))))))
/-! ### _law_event_text -/
abbrev N__law_event_text : List Str := ["event", "text"]
theorem sc__law_event_text : FnScope ["event", "text"] ["event"] (defScope s__law_event_text) := ⟨rfl, rfl, rfl, by decide +kernel, rfl, by decide +kernel, by decide +kernel⟩
def t__law_event_text (K : PySem.W.Frag) (p__law_figures : DSp) : DTS :=
  (dSeq (dIfS (dTest (dEq (dCB drLen (dCons (dVar 0) dNil)) (dC (.int 1)))) (dRet (dIxC 0 (dVar 0))) dNext)
  (dSeq (dAsg (dPlus (dPlus (dIxC 0 (dVar 0)) (dC (.str " "))) (dCall p__law_figures (dCons (dIxC 1 (dVar 0)) dNil))) (dgName 1))
  (dSeq (dIfS (dTest (dEq (dCB drLen (dCons (dVar 0) dNil)) (dC (.int 3)))) (dAsg (dPlus (dPlus (dVar 1) (dC (.str " "))) (dIxC 2 (dVar 0))) (dgName 1)) dNext)
  (dRet (dVar 1)))))
theorem b__law_event_text (T : Tx K mg) {p__law_figures : DSp} (G__law_figures : FnOk P w K mg base (L2.CX P w) k (He.ga K "_law_figures") T.d__law_figures ["number"] (LSp K p__law_figures)) :
    ∀ cdv A outer s H E, Room k (A.deeper (PyProof.Rows.envOfC "_law_event_text" (defScope s__law_event_text) s.heap.objs.size (He.ga K "_law_event_text") cdv)) → DSs (bodyX P w K mg base ["event", "text"] "_law_event_text" (defScope s__law_event_text) (He.ga K "_law_event_text") cdv A outer s H E) (bodyW E) (defBody s__law_event_text) (t__law_event_text K p__law_figures) := by
  intro cdv A outer s H E hr
  have hu := hr.units
  have hu5 := hu5_of hr
  have nd := sc__law_event_text.nd
  unfold t__law_event_text
  exact (dss_cons (ds_if (dt_eq hu (de_callB call_lenA lk_len T.z_len (by decide +kernel) (da_cons (de_var 0) da_nil)) de_int) (dss_one (ds_ret (de_ixC (k := 0) (de_var 0)))) dss_nil)
    (dss_cons (ds_set 1 nd (de_plus (de_plus (de_ixC (k := 0) (de_var 0)) de_str) (de_call G__law_figures hr T.m__law_figures T.F__law_figures.kp T.b__law_figures body_takes (da_cons (de_ixC (k := 1) (de_var 0)) da_nil))))
    (dss_cons (ds_if (dt_eq hu (de_callB call_lenA lk_len T.z_len (by decide +kernel) (da_cons (de_var 0) da_nil)) de_int) (dss_one (ds_set 1 nd (de_plus (de_plus (de_var 1) de_str) (de_ixC (k := 2) (de_var 0))))) dss_nil)
    (dss_one (ds_ret (de_var 1))))))
/-! ### _law_amiss -/
abbrev N__law_amiss : List Str := ["text", "pool", "some"]
theorem sc__law_amiss : FnScope ["text", "pool", "some"] ["text", "pool"] (defScope s__law_amiss) := ⟨rfl, rfl, rfl, by decide +kernel, rfl, by decide +kernel, by decide +kernel⟩
def t__law_amiss (K : PySem.W.Frag) (p__law_next : DSp) : DTS :=
  (dSeq (dAsg (dLst (dCons (dPlus (dVar 0) (dC (.str " "))) (dCons (dPlus (dC (.str " ")) (dVar 0)) (dCons (dPlus (dVar 0) (dC (.str " 1"))) (dCons (dRepl (dVar 0) " " "  ") (dCons (dUpper (dVar 0)) (dCons (dC (.str "")) (dCons (dC (.str "fresh 0")) (dCons (dC (.str "ends 1")) (dCons (dC (.str "lost")) dNil)))))))))) (dgName 2))
  (dSeq (dAsg (dPlus (dVar 2) (dLst (dCons (dC (.str "ends well 1")) (dCons (dC (.str "ends 1 good")) (dCons (dC (.str "ends 1 bad 1")) (dCons (dC (.str "lost -1")) (dCons (dC (.str "lost 01")) (dCons (dC (.str "again -0")) (dCons (dC (.str "up 1 1")) (dCons (dC (.str "up x")) dNil)))))))))) (dgName 2))
  (dSeq (dAsg (dPlus (dVar 2) (dLst (dCons (dPlus (dC (.str "lost 1")) (dMulS (dC (.str "0")) (dC (.int 60)))) (dCons (dPlus (dPlus (dC (.str "ends 1")) (dMulS (dC (.str "0")) (dC (.int 60)))) (dC (.str " bad"))) (dCons (dC (.str "again +1")) (dCons (dC (.str "done 1")) (dCons (dC (.str "lost 1_0")) (dCons (dPlus (dVar 0) (dC (.str "\n"))) dNil)))))))) (dgName 2))
  (dRet (dItem (dVar 2) (dCall p__law_next (dCons (dVar 1) (dCons (dCB drLen (dCons (dVar 2) dNil)) dNil))))))))
theorem b__law_amiss (T : Tx K mg) {p__law_next : DSp} (G__law_next : FnOk P w K mg base (L2.CX P w) k (He.ga K "_law_next") T.d__law_next ["pool", "base"] (LSp K p__law_next)) :
    ∀ cdv A outer s H E, Room k (A.deeper (PyProof.Rows.envOfC "_law_amiss" (defScope s__law_amiss) s.heap.objs.size (He.ga K "_law_amiss") cdv)) → DSs (bodyX P w K mg base ["text", "pool", "some"] "_law_amiss" (defScope s__law_amiss) (He.ga K "_law_amiss") cdv A outer s H E) (bodyW E) (defBody s__law_amiss) (t__law_amiss K p__law_next) := by
  intro cdv A outer s H E hr
  have hu := hr.units
  have hu5 := hu5_of hr
  have nd := sc__law_amiss.nd
  unfold t__law_amiss
  exact (dss_cons (ds_set 2 nd (de_lst (da_consG (de_var 0) (dat_cons (DE.det (de_plus de_str (de_var 0))) (dat_cons (DE.det (de_plus (de_var 0) de_str)) (dat_cons (det_repl (de_var 0)) (dat_cons (DE.det (de_upper (de_var 0))) (dat_cons (DE.det de_str) (dat_cons (DE.det de_str) (dat_cons (DE.det de_str) (dat_cons (DE.det de_str) dat_nil)))))))))))
    (dss_cons (ds_set 2 nd (de_plus (de_var 2) (de_lst (da_cons de_str (da_cons de_str (da_cons de_str (da_cons de_str (da_cons de_str (da_cons de_str (da_cons de_str (da_cons de_str da_nil)))))))))))
    (dss_cons (ds_set 2 nd (de_plus (de_var 2) (de_lst (da_cons (de_plus de_str (de_mulS de_str de_int)) (da_cons (de_plus (de_plus de_str (de_mulS de_str de_int)) de_str) (da_cons de_str (da_cons de_str (da_cons de_str (da_cons (de_plus (de_var 0) de_str) da_nil)))))))))
    (dss_one (ds_ret (de_item (de_var 2) (de_call G__law_next hr T.m__law_next T.F__law_next.kp T.b__law_next body_takes (da_cons (de_var 1) (da_cons (de_callB call_lenA lk_len T.z_len (by decide +kernel) (da_cons (de_var 2) da_nil)) da_nil)))))))))
/-! ### _law_refused -/
abbrev N__law_refused : List Str := ["thing", "signs"]
theorem sc__law_refused : FnScope ["thing", "signs"] ["thing"] (defScope s__law_refused) := ⟨rfl, rfl, rfl, by decide +kernel, rfl, by decide +kernel, by decide +kernel⟩
def t__law_refused (K : PySem.W.Frag) (p_read_event : DSp) : DTS :=
  (dSeq (dAsg (dLstM dNil) (dgName 1))
  (dSeq (dTry K (.ref (He.ga K "NoText")) (dDrop (dCall p_read_event (dCons (dVar 0) dNil))) (dDrop (dBM tyL drAppend (dVar 1) (dCons (dC (.bl true)) dNil))))
  (dRet (dEq (dVar 1) (dLst (dCons (dC (.bl true)) dNil))))))
theorem b__law_refused (T : Tx K mg) {p_read_event : DSp} (G_read_event : FnOk P w K mg base (L2.CX P w) k (He.ga K "read_event") T.d_read_event ["text"] (LSp K p_read_event)) :
    ∀ cdv A outer s H E, Room k (A.deeper (PyProof.Rows.envOfC "_law_refused" (defScope s__law_refused) s.heap.objs.size (He.ga K "_law_refused") cdv)) → DSs (bodyX P w K mg base ["thing", "signs"] "_law_refused" (defScope s__law_refused) (He.ga K "_law_refused") cdv A outer s H E) (bodyW E) (defBody s__law_refused) (t__law_refused K p_read_event) := by
  intro cdv A outer s H E hr
  have hu := hr.units
  have hu5 := hu5_of hr
  have nd := sc__law_refused.nd
  unfold t__law_refused
  exact (dss_cons (ds_set 1 nd (de_lstM da_nil))
    (dss_cons (ds_try ⟨rfl, by decide, .inl T.g_NoText⟩ body_takes (fun W pn xe tk po => (dss_one (ds_expr (de_call G_read_event hr T.m_read_event T.F_read_event.kp T.b_read_event tk (da_cons (de_var 0) da_nil))))) (fun a pn => (dss_one (ds_expr (de_bm PySem.F.plainAttrs_list PySem.F.slot_list_append PySem.F.type_list_append mt_append lk_append lt_L (de_var 1) (da_cons de_bl da_nil))))))
    (dss_one (ds_ret (de_eq hu (de_var 1) (de_lst (da_cons de_bl da_nil)))))))
/-! ### law -/
abbrev N_law : List Str := ["script", "event", "cell", "pool", "text", "odd", "wrong"]
theorem sc_law : FnScope ["script", "event", "cell", "pool", "text", "odd", "wrong"] ["script"] (defScope s_law) := ⟨rfl, rfl, rfl, by decide +kernel, rfl, by decide +kernel, by decide +kernel⟩
def t_law (K : PySem.W.Frag) (p_read_event : DSp) (p__law_event_text : DSp) (p_event_text : DSp) (p__law_pool : DSp) (p__law_event : DSp) (p__law_next : DSp) (p__law_amiss : DSp) (p__law_refused : DSp) : DTS :=
  (dSeq (dFor (diLst (dLst (dCons (dTup (dCons (dC (.str "lost")) (dCons (dSub (dPow (dC (.int 10)) (dC (.int 60))) (dC (.int 1))) dNil))) (dCons (dTup (dCons (dC (.str "ends")) (dCons (dC (.int 0)) (dCons (dC (.str "bad")) dNil)))) (dCons (dTup (dCons (dC (.str "fresh")) dNil)) dNil))))) (dgName 1) (dIfS (dOr (dTest (dNe (dCall p_read_event (dCons (dCall p__law_event_text (dCons (dVar 1) dNil)) dNil)) (dVar 1))) (dTest (dNe (dCall p_event_text (dCons (dVar 1) dNil)) (dCall p__law_event_text (dCons (dVar 1) dNil))))) (dRet (dC (.bl false))) dNext))
  (dSeq (dFor (diLst (dPlus (dLst (dCons (dC (.int 0)) dNil)) (dVar 0))) (dgName 2) (dSeq (dAsg (dCall p__law_pool (dCons (dVar 2) dNil)) (dgName 3))
  (dSeq (dAsg (dCall p__law_event (dCons (dVar 3) dNil)) (dgName 1))
  (dSeq (dAsg (dCall p__law_event_text (dCons (dVar 1) dNil)) (dgName 4))
  (dSeq (dIfS (dOr (dTest (dNe (dCall p_event_text (dCons (dVar 1) dNil)) (dVar 4))) (dTest (dNe (dCall p_read_event (dCons (dVar 4) dNil)) (dVar 1)))) (dRet (dC (.bl false))) dNext)
  (dSeq (dAsg (dItem (dLst (dCons (dC .non) (dCons (dC (.int 7)) (dCons (dVar 1) (dCons (dLst (dCons (dVar 4) dNil)) (dCons (dTup (dCons (dC (.str "fresh")) dNil)) (dCons (dC (.bl true)) dNil))))))) (dCall p__law_next (dCons (dVar 3) (dCons (dC (.int 6)) dNil)))) (dgName 5))
  (dSeq (dAsg (dCall p__law_amiss (dCons (dVar 4) (dCons (dVar 3) dNil))) (dgName 6))
  (dIfS (dOr (dAnd (dTest (dNe (dVar 6) (dC (.str "fresh")))) (dNot (dTest (dCall p__law_refused (dCons (dVar 6) dNil))))) (dNot (dTest (dCall p__law_refused (dCons (dVar 5) dNil))))) (dRet (dC (.bl false))) dNext))))))))
  (dRet (dC (.bl true)))))
theorem b_law (T : Tx K mg) {p_read_event p__law_event_text p_event_text p__law_pool p__law_event p__law_next p__law_amiss p__law_refused : DSp} (G_read_event : FnOk P w K mg base (L2.CX P w) k (He.ga K "read_event") T.d_read_event ["text"] (LSp K p_read_event)) (G__law_event_text : FnOk P w K mg base (L2.CX P w) k (He.ga K "_law_event_text") T.d__law_event_text ["event"] (LSp K p__law_event_text)) (G_event_text : FnOk P w K mg base (L2.CX P w) k (He.ga K "event_text") T.d_event_text ["event"] (LSp K p_event_text)) (G__law_pool : FnOk P w K mg base (L2.CX P w) k (He.ga K "_law_pool") T.d__law_pool ["cell"] (LSp K p__law_pool)) (G__law_event : FnOk P w K mg base (L2.CX P w) k (He.ga K "_law_event") T.d__law_event ["pool"] (LSp K p__law_event)) (G__law_next : FnOk P w K mg base (L2.CX P w) k (He.ga K "_law_next") T.d__law_next ["pool", "base"] (LSp K p__law_next)) (G__law_amiss : FnOk P w K mg base (L2.CX P w) k (He.ga K "_law_amiss") T.d__law_amiss ["text", "pool"] (LSp K p__law_amiss)) (G__law_refused : FnOk P w K mg base (L2.CX P w) k (He.ga K "_law_refused") T.d__law_refused ["thing"] (LSp K p__law_refused)) :
    ∀ cdv A outer s H E, Room k (A.deeper (PyProof.Rows.envOfC "law" (defScope s_law) s.heap.objs.size (He.ga K "law") cdv)) → DSs (bodyX P w K mg base ["script", "event", "cell", "pool", "text", "odd", "wrong"] "law" (defScope s_law) (He.ga K "law") cdv A outer s H E) (bodyW E) (defBody s_law) (t_law K p_read_event p__law_event_text p_event_text p__law_pool p__law_event p__law_next p__law_amiss p__law_refused) := by
  intro cdv A outer s H E hr
  have hu := hr.units
  have hu5 := hu5_of hr
  have nd := sc_law.nd
  unfold t_law
  exact (dss_cons (ds_for body_passes rfl (di_lst (de_lst (da_cons (de_tup (da_cons de_str (da_cons (de_sub (de_pow de_int de_int) de_int) da_nil))) (da_cons (de_tup (da_cons de_str (da_cons de_int (da_cons de_str da_nil)))) (da_cons (de_tup (da_cons de_str da_nil)) da_nil))))) (dg_name nd) (dss_one (ds_if (DW.dt (dw_or (dt_ne hu (de_call G_read_event hr T.m_read_event T.F_read_event.kp T.b_read_event body_takes (da_cons (de_call G__law_event_text hr T.m__law_event_text T.F__law_event_text.kp T.b__law_event_text body_takes (da_cons (de_var 1) da_nil)) da_nil)) (de_var 1)) (dw_or1 (dt_ne hu (de_call G_event_text hr T.m_event_text T.F_event_text.kp T.b_event_text body_takes (da_cons (de_var 1) da_nil)) (de_call G__law_event_text hr T.m__law_event_text T.F__law_event_text.kp T.b__law_event_text body_takes (da_cons (de_var 1) da_nil)))))) (dss_one (ds_ret de_bl)) dss_nil)))
    (dss_cons (ds_for body_passes rfl (di_lst (de_plus (de_lst (da_cons de_int da_nil)) (de_var 0))) (dg_name nd) (dss_cons (ds_set 3 nd (de_call G__law_pool hr T.m__law_pool T.F__law_pool.kp T.b__law_pool body_takes (da_cons (de_var 2) da_nil)))
    (dss_cons (ds_set 1 nd (de_call G__law_event hr T.m__law_event T.F__law_event.kp T.b__law_event body_takes (da_cons (de_var 3) da_nil)))
    (dss_cons (ds_set 4 nd (de_call G__law_event_text hr T.m__law_event_text T.F__law_event_text.kp T.b__law_event_text body_takes (da_cons (de_var 1) da_nil)))
    (dss_cons (ds_if (DW.dt (dw_or (dt_ne hu (de_call G_event_text hr T.m_event_text T.F_event_text.kp T.b_event_text body_takes (da_cons (de_var 1) da_nil)) (de_var 4)) (dw_or1 (dt_ne hu (de_call G_read_event hr T.m_read_event T.F_read_event.kp T.b_read_event body_takes (da_cons (de_var 4) da_nil)) (de_var 1))))) (dss_one (ds_ret de_bl)) dss_nil)
    (dss_cons (ds_set 5 nd (de_item (de_lst (da_cons de_non (da_cons de_int (da_cons (de_var 1) (da_cons (de_lst (da_cons (de_var 4) da_nil)) (da_cons (de_tup (da_cons de_str da_nil)) (da_cons de_bl da_nil))))))) (de_call G__law_next hr T.m__law_next T.F__law_next.kp T.b__law_next body_takes (da_cons (de_var 3) (da_cons de_int da_nil)))))
    (dss_cons (ds_set 6 nd (de_call G__law_amiss hr T.m__law_amiss T.F__law_amiss.kp T.b__law_amiss body_takes (da_cons (de_var 4) (da_cons (de_var 3) da_nil))))
    (dss_one (ds_if (DW.dt (dw_or (DW.dt (dw_and (dt_ne hu (de_var 6) de_str) (dw_and1 (dt_not (dt_val (de_call G__law_refused hr T.m__law_refused T.F__law_refused.kp T.b__law_refused body_takes (da_cons (de_var 6) da_nil))))))) (dw_or1 (dt_not (dt_val (de_call G__law_refused hr T.m__law_refused T.F__law_refused.kp T.b__law_refused body_takes (da_cons (de_var 5) da_nil))))))) (dss_one (ds_ret de_bl)) dss_nil)))))))))
    (dss_one (ds_ret de_bl))))
end

def dd_event_text : He.DefD := ⟨("event_text", none), "event_text", "event_text", defArgs s_event_text, defBody s_event_text, defScope s_event_text, [], []⟩
def dd_are_figures : He.DefD := ⟨("are_figures", none), "are_figures", "are_figures", defArgs s_are_figures, defBody s_are_figures, defScope s_are_figures, [], []⟩
def dd_number_in : He.DefD := ⟨("number_in", none), "number_in", "number_in", defArgs s_number_in, defBody s_number_in, defScope s_number_in, [], []⟩
def dd_read_event : He.DefD := ⟨("read_event", none), "read_event", "read_event", defArgs s_read_event, defBody s_read_event, defScope s_read_event, [], []⟩
def dd__law_pool : He.DefD := ⟨("_law_pool", none), "_law_pool", "_law_pool", defArgs s__law_pool, defBody s__law_pool, defScope s__law_pool, [], []⟩
def dd__law_next : He.DefD := ⟨("_law_next", none), "_law_next", "_law_next", defArgs s__law_next, defBody s__law_next, defScope s__law_next, [], []⟩
def dd__law_figures : He.DefD := ⟨("_law_figures", none), "_law_figures", "_law_figures", defArgs s__law_figures, defBody s__law_figures, defScope s__law_figures, [], []⟩
def dd__law_event : He.DefD := ⟨("_law_event", none), "_law_event", "_law_event", defArgs s__law_event, defBody s__law_event, defScope s__law_event, [], []⟩
def dd__law_event_text : He.DefD := ⟨("_law_event_text", none), "_law_event_text", "_law_event_text", defArgs s__law_event_text, defBody s__law_event_text, defScope s__law_event_text, [], []⟩
def dd__law_amiss : He.DefD := ⟨("_law_amiss", none), "_law_amiss", "_law_amiss", defArgs s__law_amiss, defBody s__law_amiss, defScope s__law_amiss, [], []⟩
def dd__law_refused : He.DefD := ⟨("_law_refused", none), "_law_refused", "_law_refused", defArgs s__law_refused, defBody s__law_refused, defScope s__law_refused, [], []⟩
def dd_law : He.DefD := ⟨("law", none), "law", "law", defArgs s_law, defBody s_law, defScope s_law, [], []⟩
def fn : List He.DefD := [dd_event_text, dd_are_figures, dd_number_in, dd_read_event, dd__law_pool, dd__law_next, dd__law_figures, dd__law_event, dd__law_event_text, dd__law_amiss, dd__law_refused, dd_law]
def fa : List He.Fa := [.glo "event_text", .glo "are_figures", .glo "number_in", .glo "read_event", .glo "_law_pool", .glo "_law_next", .glo "_law_figures", .glo "_law_event", .glo "_law_event_text", .glo "_law_amiss", .glo "_law_refused", .glo "law", .free "abs", .free "all", .free "int", .free "isinstance", .free "len", .free "max", .free "str", .glo "NoText", .exc "NoText", .exm "NoText" "NoText" true, .glo "ENDS", .int "EVENT_FIGURES" 60, .str "FIGURES" "0123456789", .glo "ONE_NUMBER"]
def tv_ENDS : List He.Dv := [.str "bad", .str "spent", .str "well"]
def tv_ONE_NUMBER : List He.Dv := [.str "lost", .str "again", .str "up"]
def ex (K : PySem.W.Frag) : Bool := (He.tupB K "ENDS" tv_ENDS) && (He.tupB K "ONE_NUMBER" tv_ONE_NUMBER)
theorem tx_of {K : PySem.W.Frag} {h : Heap} {mg : Str → Option Value} (X : K.In h) (G : h.Ns mainGlobals mg) (c : He.SaysD fa fn K) (ce : ex K = true) : Nonempty (Tx K mg) := by
  obtain ⟨d_event_text, F_event_text⟩ := c.def_ 0 (d := dd_event_text) rfl
  obtain ⟨d_are_figures, F_are_figures⟩ := c.def_ 1 (d := dd_are_figures) rfl
  obtain ⟨d_number_in, F_number_in⟩ := c.def_ 2 (d := dd_number_in) rfl
  obtain ⟨d_read_event, F_read_event⟩ := c.def_ 3 (d := dd_read_event) rfl
  obtain ⟨d__law_pool, F__law_pool⟩ := c.def_ 4 (d := dd__law_pool) rfl
  obtain ⟨d__law_next, F__law_next⟩ := c.def_ 5 (d := dd__law_next) rfl
  obtain ⟨d__law_figures, F__law_figures⟩ := c.def_ 6 (d := dd__law_figures) rfl
  obtain ⟨d__law_event, F__law_event⟩ := c.def_ 7 (d := dd__law_event) rfl
  obtain ⟨d__law_event_text, F__law_event_text⟩ := c.def_ 8 (d := dd__law_event_text) rfl
  obtain ⟨d__law_amiss, F__law_amiss⟩ := c.def_ 9 (d := dd__law_amiss) rfl
  obtain ⟨d__law_refused, F__law_refused⟩ := c.def_ 10 (d := dd__law_refused) rfl
  obtain ⟨d_law, F_law⟩ := c.def_ 11 (d := dd_law) rfl
  obtain ⟨tk_EVENT_FIGURES, hk_EVENT_FIGURES⟩ := He.int_ok X G (c.fact 23 (f := .int "EVENT_FIGURES" 60) rfl)
  obtain ⟨tk_FIGURES, hk_FIGURES⟩ := He.str_ok X G (c.fact 24 (f := .str "FIGURES" "0123456789") rfl)
  obtain ⟨ce1, ct_ONE_NUMBER⟩ := He.ba ce
  have ct_ENDS := ce1
  exact ⟨{
    d_event_text := d_event_text, F_event_text := F_event_text, m_event_text := He.glo_ok X G (c.fact 0 (f := .glo "event_text") rfl), b_event_text := F_event_text.bindsN fun _ _ _ _ _ _ us hl => match us, hl with | [_], _ => rfl,
    d_are_figures := d_are_figures, F_are_figures := F_are_figures, m_are_figures := He.glo_ok X G (c.fact 1 (f := .glo "are_figures") rfl), b_are_figures := F_are_figures.bindsN fun _ _ _ _ _ _ us hl => match us, hl with | [_, _], _ => rfl,
    d_number_in := d_number_in, F_number_in := F_number_in, m_number_in := He.glo_ok X G (c.fact 2 (f := .glo "number_in") rfl), b_number_in := F_number_in.bindsN fun _ _ _ _ _ _ us hl => match us, hl with | [_, _], _ => rfl,
    d_read_event := d_read_event, F_read_event := F_read_event, m_read_event := He.glo_ok X G (c.fact 3 (f := .glo "read_event") rfl), b_read_event := F_read_event.bindsN fun _ _ _ _ _ _ us hl => match us, hl with | [_], _ => rfl,
    d__law_pool := d__law_pool, F__law_pool := F__law_pool, m__law_pool := He.glo_ok X G (c.fact 4 (f := .glo "_law_pool") rfl), b__law_pool := F__law_pool.bindsN fun _ _ _ _ _ _ us hl => match us, hl with | [_], _ => rfl,
    d__law_next := d__law_next, F__law_next := F__law_next, m__law_next := He.glo_ok X G (c.fact 5 (f := .glo "_law_next") rfl), b__law_next := F__law_next.bindsN fun _ _ _ _ _ _ us hl => match us, hl with | [_, _], _ => rfl,
    d__law_figures := d__law_figures, F__law_figures := F__law_figures, m__law_figures := He.glo_ok X G (c.fact 6 (f := .glo "_law_figures") rfl), b__law_figures := F__law_figures.bindsN fun _ _ _ _ _ _ us hl => match us, hl with | [_], _ => rfl,
    d__law_event := d__law_event, F__law_event := F__law_event, m__law_event := He.glo_ok X G (c.fact 7 (f := .glo "_law_event") rfl), b__law_event := F__law_event.bindsN fun _ _ _ _ _ _ us hl => match us, hl with | [_], _ => rfl,
    d__law_event_text := d__law_event_text, F__law_event_text := F__law_event_text, m__law_event_text := He.glo_ok X G (c.fact 8 (f := .glo "_law_event_text") rfl), b__law_event_text := F__law_event_text.bindsN fun _ _ _ _ _ _ us hl => match us, hl with | [_], _ => rfl,
    d__law_amiss := d__law_amiss, F__law_amiss := F__law_amiss, m__law_amiss := He.glo_ok X G (c.fact 9 (f := .glo "_law_amiss") rfl), b__law_amiss := F__law_amiss.bindsN fun _ _ _ _ _ _ us hl => match us, hl with | [_, _], _ => rfl,
    d__law_refused := d__law_refused, F__law_refused := F__law_refused, m__law_refused := He.glo_ok X G (c.fact 10 (f := .glo "_law_refused") rfl), b__law_refused := F__law_refused.bindsN fun _ _ _ _ _ _ us hl => match us, hl with | [_], _ => rfl,
    d_law := d_law, F_law := F_law, m_law := He.glo_ok X G (c.fact 11 (f := .glo "law") rfl), b_law := F_law.bindsN fun _ _ _ _ _ _ us hl => match us, hl with | [_], _ => rfl,
    z_abs := He.free_ok X G (c.fact 12 (f := .free "abs") rfl),
    z_all := He.free_ok X G (c.fact 13 (f := .free "all") rfl),
    z_int := He.free_ok X G (c.fact 14 (f := .free "int") rfl),
    z_isinstance := He.free_ok X G (c.fact 15 (f := .free "isinstance") rfl),
    z_len := He.free_ok X G (c.fact 16 (f := .free "len") rfl),
    z_max := He.free_ok X G (c.fact 17 (f := .free "max") rfl),
    z_str := He.free_ok X G (c.fact 18 (f := .free "str") rfl),
    u_ENDS := .ref (He.ga K "ENDS"), k_ENDS := ⟨He.glo_ok X G (c.fact 22 (f := .glo "ENDS") rfl), .ref (He.ga K "ENDS"), rfl, fun F => .tup (He.tupB_ok ct_ENDS F) (by repeat (first | exact RVs.nil | refine RVs.cons (RV.str _) ?_ | refine RVs.cons (RV.int _) ?_))⟩,
    u_EVENT_FIGURES := .int 60 tk_EVENT_FIGURES, k_EVENT_FIGURES := ⟨hk_EVENT_FIGURES, .int 60, ⟨_, rfl⟩, fun F => .int _⟩,
    u_FIGURES := .str "0123456789" tk_FIGURES, k_FIGURES := ⟨hk_FIGURES, .str "0123456789", ⟨_, rfl⟩, fun F => .str _⟩,
    u_ONE_NUMBER := .ref (He.ga K "ONE_NUMBER"), k_ONE_NUMBER := ⟨He.glo_ok X G (c.fact 25 (f := .glo "ONE_NUMBER") rfl), .ref (He.ga K "ONE_NUMBER"), rfl, fun F => .tup (He.tupB_ok ct_ONE_NUMBER F) (by repeat (first | exact RVs.nil | refine RVs.cons (RV.str _) ?_ | refine RVs.cons (RV.int _) ?_))⟩,
    g_NoText := He.glo_ok X G (c.fact 19 (f := .glo "NoText") rfl), x_NoText := He.exc_ok (c.fact 20 (f := .exc "NoText") rfl), e_NoText := He.exm_ok (c.fact 21 (f := .exm "NoText" "NoText" true) rfl)
  }⟩

end Lw

/-! texts of events: plain -/
namespace Lm
open PySem L2 TL
/-- a number's text -/
def numS (n : Nat) : Str := Str.ofString (toString (n : Int))
theorem tl_num (n : Nat) : tl (numS n) = numL n := PySem.W.KIN.signs_num n
/-- its signs, none of nought -/
def dg (n : Nat) : List Nat := if n = 0 then [] else numL n
theorem dg_step {n : Nat} (h : 0 < n) : dg n = dg (n / 10) ++ [48 + n % 10] := by
  unfold dg
  rw [if_neg (by omega)]
  have hc : ∀ d : Nat, d < 10 → (Nat.digitChar d).toNat = 48 + d := by decide
  by_cases h10 : n < 10
  · rw [if_pos (by omega)]
    unfold numL
    rw [Nat.toDigits_of_lt_base h10, Nat.mod_eq_of_lt h10]
    simp [hc n h10]
  · rw [if_neg (by omega)]
    unfold numL
    have hm : n % 10 < 10 := Nat.mod_lt n (by decide)
    have t : Nat.toDigits 10 (n / 10) ++ Nat.toDigits 10 (n % 10) = Nat.toDigits 10 (10 * (n / 10) + n % 10) := Nat.toDigits_append_toDigits (by decide) (by omega) hm
    rw [Nat.div_add_mod] at t
    rw [← t, List.map_append, Nat.toDigits_of_lt_base hm]
    simp [hc _ hm]
theorem dg_len : ∀ (k n : Nat), n < 10 ^ k → (dg n).length ≤ k
  | 0, n, h => by
    have : n = 0 := by omega
    subst this; simp [dg]
  | k + 1, n, h => by
    by_cases hn : n = 0
    · subst hn; simp [dg]
    · rw [dg_step (by omega), List.length_append]
      have := dg_len k (n / 10) (by rw [Nat.pow_succ] at h; omega)
      simp; omega
theorem num_zero : numS 0 = Str.ofString "0" := rfl
theorem num_pos {n : Nat} (h : n ≠ 0) : tl (numS n) = dg n := by rw [tl_num]; unfold dg; rw [if_neg h]
theorem num_len {k n : Nat} (hk : 0 < k) (h : n < 10 ^ k) : (numS n).length ≤ k := by
  by_cases hn : n = 0
  · subst hn; exact hk
  · have e : (numS n).length = (tl (numS n)).length := len_tl _
    rw [e, num_pos hn]
    exact dg_len k n h
theorem dg_digit : ∀ (n : Nat), ∀ c ∈ dg n, 48 ≤ c ∧ c ≤ 57 := by
  intro n
  induction n using Nat.strongRecOn with
  | _ n ih =>
    by_cases hn : n = 0
    · subst hn; simp [dg]
    · rw [dg_step (by omega)]
      intro c hc
      rcases List.mem_append.mp hc with h | h
      · exact ih (n / 10) (by omega) c h
      · simp at h; omega
theorem num_digit (n : Nat) : ∀ c ∈ tl (numS n), 48 ≤ c ∧ c ≤ 57 := by
  by_cases hn : n = 0
  · subst hn
    have e : tl (numS 0) = [48] := by decide +kernel
    rw [e]; simp
  · rw [num_pos hn]; exact dg_digit n
theorem dg_ne {n : Nat} (h : n ≠ 0) : dg n ≠ [] := by
  rw [dg_step (by omega)]; simp
theorem dg_head : ∀ (n : Nat), n ≠ 0 → ∃ c r, dg n = c :: r ∧ c ≠ 48 := by
  intro n
  induction n using Nat.strongRecOn with
  | _ n ih =>
    intro hn
    rw [dg_step (by omega)]
    by_cases h : n / 10 = 0
    · rw [h]
      refine ⟨48 + n % 10, [], by simp [dg], ?_⟩
      omega
    · obtain ⟨c, r, e, hc⟩ := ih (n / 10) (by omega) h
      exact ⟨c, r ++ [48 + n % 10], by rw [e]; rfl, hc⟩
/-- a number from 0 on, of at most m figures -/
def isNum (z : Str) (m : Nat) : Bool := decide (1 ≤ z.length) && decide (z.length ≤ m) && (tl z).all (fun c => decide (48 ≤ c ∧ c ≤ 57)) && (decide (tl z = [48]) || decide ((tl z).head? ≠ some 48))
theorem isNum_num {n m : Nat} (hm : 0 < m) (h : n < 10 ^ m) : isNum (numS n) m = true := by
  unfold isNum
  have h1 : (numS n).length = (tl (numS n)).length := len_tl _
  have h2 := num_len hm h
  have h3 := num_digit n
  by_cases hn : n = 0
  · subst hn
    have e : tl (numS 0) = [48] := by decide +kernel
    rw [h1, e]
    simp; omega
  · obtain ⟨c, r, e, hc⟩ := dg_head n hn
    have e2 : tl (numS n) = c :: r := by rw [num_pos hn, e]
    have h4 : 1 ≤ (numS n).length := by rw [h1, e2]; simp
    rw [decide_eq_true h4, decide_eq_true h2]
    rw [e2] at h3 ⊢
    have e3 : ((c :: r).all fun c => decide (48 ≤ c ∧ c ≤ 57)) = true := List.all_eq_true.mpr fun x hx => decide_eq_true (h3 x hx)
    rw [e3]
    simp [hc]
theorem read_num {z : Str} {m : Nat} (h : isNum z m = true) (hm : m ≤ 640) : ∃ n : Nat, PySem.intText? z = some (n : Int) ∧ n = NumText.digitsVal (tl z) ∧ z.length ≤ 640 := by
  unfold isNum at h
  simp only [Bool.and_eq_true, decide_eq_true_eq] at h
  obtain ⟨⟨⟨h1, h2⟩, h3⟩, _⟩ := h
  refine ⟨NumText.digitsVal (tl z), PySem.intText_digits (fun c hc => ?_) (fun e => ?_) (by omega), rfl, by omega⟩
  · exact of_decide_eq_true (List.all_eq_true.mp h3 c hc)
  · have : z.length = (tl z).length := len_tl z
    rw [show tl z = z.cps.toList from rfl, e] at this
    simp at this; omega
theorem val_num (n : Nat) : NumText.digitsVal (tl (numS n)) = n := by
  rw [tl_num]; exact PySem.W.KIN.val_back n

/-! ### events -/
inductive Ev where
  | fresh | ends (n : Nat) (w : Str) | lost (n : Nat) | again (n : Nat) | up (n : Nat)
def endWords : List Str := ["bad", "spent", "well"]
def oneWords : List Str := ["lost", "again", "up"]
def Ev.ok : Ev → Prop
  | .fresh => True
  | .ends n w => n < 10 ^ 60 ∧ w ∈ endWords
  | .lost n => n < 10 ^ 60
  | .again n => n < 10 ^ 60
  | .up n => n < 10 ^ 60
def Ev.words : Ev → List Str
  | .fresh => ["fresh"]
  | .ends n w => ["ends", numS n, w]
  | .lost n => ["lost", numS n]
  | .again n => ["again", numS n]
  | .up n => ["up", numS n]
def sp : Str := " "
def Ev.txt (e : Ev) : Str := Txt.join sp e.words
/-- the event that words write -/
def parseW : List Str → Option Ev
  | [a] => if a = "fresh" then some .fresh else none
  | [a, b] => if a ∈ oneWords then (if isNum b 60 = true then some (if a = "lost" then .lost (NumText.digitsVal (tl b)) else if a = "again" then .again (NumText.digitsVal (tl b)) else .up (NumText.digitsVal (tl b))) else none) else none
  | [a, b, c] => if a = "ends" ∧ c ∈ endWords then (if isNum b 60 = true then some (.ends (NumText.digitsVal (tl b)) c) else none) else none
  | _ => none
def parse (z : Str) : Option Ev := parseW (Txt.split z sp)
theorem parseW_words (e : Ev) (h : e.ok) : parseW e.words = some e := by
  cases e with
  | fresh => rfl
  | ends n w =>
    have h1 := isNum_num (n := n) (m := 60) (by decide) h.1
    simp only [Ev.words, parseW, h.2, h1, val_num, and_self, if_true]
  | lost n =>
    have h1 := isNum_num (n := n) (m := 60) (by decide) h
    have e1 : ("lost" : Str) ∈ oneWords := by decide +kernel
    simp only [Ev.words, parseW, h1, val_num, e1, if_true]
  | again n =>
    have h1 := isNum_num (n := n) (m := 60) (by decide) h
    have e1 : ("again" : Str) ∈ oneWords := by decide +kernel
    have e2 : ¬ ("again" : Str) = "lost" := by decide +kernel
    simp only [Ev.words, parseW, h1, val_num, e1, e2, if_true, if_false]
  | up n =>
    have h1 := isNum_num (n := n) (m := 60) (by decide) h
    have e1 : ("up" : Str) ∈ oneWords := by decide +kernel
    have e2 : ¬ ("up" : Str) = "lost" := by decide +kernel
    have e3 : ¬ ("up" : Str) = "again" := by decide +kernel
    simp only [Ev.words, parseW, h1, val_num, e1, e2, e3, if_true, if_false]
/-- no blank in it -/
abbrev bare (z : Str) : Prop := 32 ∉ tl z
theorem num_bare (n : Nat) : bare (numS n) := fun h => by have := num_digit n 32 h; omega
theorem words_bare (e : Ev) (h : e.ok) : ∀ w ∈ e.words, bare w := by
  cases e with
  | fresh => intro w hw; simp [Ev.words] at hw; subst hw; decide +kernel
  | ends n w =>
    intro x hx
    simp [Ev.words] at hx
    rcases hx with rfl | rfl | rfl
    · decide +kernel
    · exact num_bare n
    · have := h.2
      simp [endWords] at this
      rcases this with rfl | rfl | rfl <;> decide +kernel
  | lost n => intro x hx; simp [Ev.words] at hx; rcases hx with rfl | rfl; decide +kernel; exact num_bare n
  | again n => intro x hx; simp [Ev.words] at hx; rcases hx with rfl | rfl; decide +kernel; exact num_bare n
  | up n => intro x hx; simp [Ev.words] at hx; rcases hx with rfl | rfl; decide +kernel; exact num_bare n
theorem words_ne (e : Ev) : e.words ≠ [] := by cases e <;> simp [Ev.words]
theorem split_words {ws : List Str} (h : ws ≠ []) (hb : ∀ w ∈ ws, bare w) : Txt.split (Txt.join sp ws) sp = ws := split_join (s := 32) (S := []) (by decide +kernel) (by decide +kernel) h hb
theorem parse_txt (e : Ev) (h : e.ok) : parse e.txt = some e := by
  unfold parse Ev.txt
  rw [split_words (words_ne e) (words_bare e h), parseW_words e h]
/-! ### what is amiss -/
theorem ofS_inj {a b : String} : Str.ofString a = Str.ofString b ↔ a = b := by
  constructor
  · intro h
    have h2 : tl (Str.ofString a) = tl (Str.ofString b) := by rw [h]
    rw [tl_ofString, tl_ofString] at h2
    exact String.toList_inj.mp ((List.map_inj_right fun x y h => Char.ext (UInt32.toNat_inj.mp h)).mp h2)
  · rintro rfl; rfl
abbrev wok (w : Str) : Prop := bare w ∧ DL.okS w ∧ w.length ≤ 100
theorem num_wok {n : Nat} (h : n < 10 ^ 60) : wok (numS n) := ⟨num_bare n, fun c hc => by have := num_digit n c hc; omega, num_len (k := 100) (by decide) (Nat.lt_trans h (by decide +kernel))⟩
def bad (z : Str) : Prop := z.length ≤ 1000 ∧ DL.okS z ∧ (z = "fresh" ∨ parse z = none)
theorem sum_le : ∀ ws : List Str, (∀ w ∈ ws, w.length ≤ 100) → (ws.map (·.length)).sum ≤ ws.length * 100
  | [], _ => by simp
  | w :: ws, h => by
    have h1 := h w List.mem_cons_self
    have h2 := sum_le ws fun x hx => h x (List.mem_cons_of_mem _ hx)
    simp only [List.map_cons, List.sum_cons, List.length_cons]; omega
theorem join_eq (ws : List Str) : Txt.join sp ws = Str.join sp ws := StrLaws.glued_eq_join sp ws
theorem join_fit {ws : List Str} (hb : ∀ w ∈ ws, wok w) (hl : ws.length ≤ 8) : (Txt.join sp ws).length ≤ 1000 ∧ DL.okS (Txt.join sp ws) := by
  refine ⟨?_, DL.okS_join (by decide +kernel) fun w hw => (hb w hw).2.1⟩
  rw [join_eq]
  have h1 := StrLaws.join_length_le sp ws
  have h2 := sum_le ws fun w hw => (hb w hw).2.2
  have h3 : sp.length = 1 := by decide +kernel
  rw [h3] at h1
  omega
theorem bad_words {ws : List Str} {z : Str} (hz : tl z = tl (Txt.join sp ws)) (hne : ws ≠ []) (hb : ∀ w ∈ ws, wok w) (hl : ws.length ≤ 8) (hp : parseW ws = none) : bad z := by
  have e := ext_tl hz
  subst e
  obtain ⟨h1, h2⟩ := join_fit hb hl
  exact ⟨h1, h2, .inr (by unfold parse; rw [split_words hne fun w hw => (hb w hw).1, hp])⟩
theorem words_wok (e : Ev) (h : e.ok) : ∀ w ∈ e.words, wok w := by
  have lit : ∀ w ∈ ([("fresh" : Str), "ends", "bad", "spent", "well", "lost", "again", "up"] : List Str), wok w := by decide +kernel
  cases e with
  | fresh => intro w hw; exact lit w (by simp [Ev.words] at hw ⊢; exact .inl hw)
  | ends n w =>
    intro x hx
    simp [Ev.words] at hx
    rcases hx with rfl | rfl | rfl
    · exact lit _ (by simp)
    · exact num_wok h.1
    · have := h.2
      simp [endWords] at this
      rcases this with rfl | rfl | rfl <;> exact lit _ (by simp)
  | lost n => intro x hx; simp [Ev.words] at hx; rcases hx with rfl | rfl; exact lit _ (by simp); exact num_wok h
  | again n => intro x hx; simp [Ev.words] at hx; rcases hx with rfl | rfl; exact lit _ (by simp); exact num_wok h
  | up n => intro x hx; simp [Ev.words] at hx; rcases hx with rfl | rfl; exact lit _ (by simp); exact num_wok h
theorem words_len (e : Ev) : e.words.length ≤ 3 := by cases e <;> simp [Ev.words]
/-- an event's words, in three kinds -/
theorem kinds (e : Ev) (h : e.ok) : e.words = ([("fresh" : Str)] : List Str) ∨ (∃ (a : Str) (n : Nat), e.words = [a, numS n] ∧ a ∈ oneWords ∧ n < 10 ^ 60) ∨ ∃ (n : Nat) (w : Str), e.words = [("ends" : Str), numS n, w] ∧ w ∈ endWords ∧ n < 10 ^ 60 := by
  cases e with
  | fresh => exact .inl rfl
  | ends n w => exact .inr (.inr ⟨n, w, rfl, h.2, h.1⟩)
  | lost n => exact .inr (.inl ⟨_, n, rfl, by simp [oneWords], h⟩)
  | again n => exact .inr (.inl ⟨_, n, rfl, by simp [oneWords], h⟩)
  | up n => exact .inr (.inl ⟨_, n, rfl, by simp [oneWords], h⟩)
theorem tl_joins : (∀ a, tl (Txt.join sp [a]) = tl a) ∧ ∀ a b r, tl (Txt.join sp (a :: b :: r)) = tl a ++ 32 :: tl (Txt.join sp (b :: r)) := by
  refine ⟨fun a => by rw [join_eq]; rfl, fun a b r => ?_⟩
  rw [join_eq, join_eq]
  show tl (a ++ sp ++ Str.join sp (b :: r)) = _
  rw [tl_append, tl_append, show tl sp = [32] by decide +kernel]
  simp
theorem tl_snoc (x : Str) : ∀ ws : List Str, ws ≠ [] → tl (Txt.join sp (ws ++ [x])) = tl (Txt.join sp ws) ++ 32 :: tl x
  | [a], _ => by rw [List.singleton_append, tl_joins.2, tl_joins.1, tl_joins.1]
  | a :: b :: r, _ => by
    have ih := tl_snoc x (b :: r) (by simp)
    have e : (a :: b :: r) ++ [x] = a :: b :: (r ++ [x]) := by simp
    rw [e, tl_joins.2, tl_joins.2]
    have e2 : (b :: r) ++ [x] = b :: (r ++ [x]) := by simp
    rw [e2] at ih
    rw [ih]; simp
theorem tl_cons (x : Str) {ws : List Str} (h : ws ≠ []) : tl (Txt.join sp (x :: ws)) = tl x ++ 32 :: tl (Txt.join sp ws) := by
  cases ws with
  | nil => exact (h rfl).elim
  | cons b r => exact tl_joins.2 x b r
theorem one_ne {a : Str} (h : a ∈ oneWords) : a ≠ "ends" := by
  simp [oneWords] at h
  rcases h with rfl | rfl | rfl <;> decide +kernel
theorem bad_snoc {e : Ev} (h : e.ok) {x z : Str} (hx : x = "" ∨ x = "1") (hz : tl z = tl e.txt ++ 32 :: tl x) : bad z := by
  have hw : wok x := by rcases hx with rfl | rfl <;> decide +kernel
  have hx2 : x ∉ endWords := by rcases hx with rfl | rfl <;> decide +kernel
  refine bad_words (ws := e.words ++ [x]) (by rw [hz, tl_snoc x _ (words_ne e)]; rfl) (by simp) (fun w hm => ?_) (by have := words_len e; simp; omega) ?_
  · rcases List.mem_append.mp hm with hm | hm
    · exact words_wok e h w hm
    · rw [List.mem_singleton.mp hm]; exact hw
  · rcases kinds e h with hk | ⟨a, n, hk, ha, _⟩ | ⟨n, w, hk, _⟩
    · rw [hk]
      simp only [List.cons_append, List.nil_append, parseW]
      rw [if_neg (by decide +kernel)]
    · rw [hk]
      simp only [List.cons_append, List.nil_append, parseW]
      rw [if_neg (fun h => hx2 h.2)]
    · rw [hk]; rfl
theorem bad_cons {e : Ev} (h : e.ok) {z : Str} (hz : tl z = 32 :: tl e.txt) : bad z := by
  refine bad_words (ws := "" :: e.words) (by rw [hz, tl_cons _ (words_ne e)]; rfl) (by simp) (fun w hm => ?_) (by have := words_len e; simp; omega) ?_
  · rcases List.mem_cons.mp hm with rfl | hm
    · decide +kernel
    · exact words_wok e h w hm
  · rcases kinds e h with hk | ⟨a, n, hk, ha, _⟩ | ⟨n, w, hk, _⟩
    · rw [hk]
      simp only [List.cons_append, List.nil_append, parseW]
      rw [if_neg (by decide +kernel)]
    · rw [hk]
      simp only [List.cons_append, List.nil_append, parseW]
      rw [if_neg (fun h => absurd h.1 (by decide +kernel))]
    · rw [hk]; rfl
/-- blanks twice -/
theorem repl_two : ∀ l : List Nat, StrLaws.replL [32] [32, 32] l = l.flatMap fun c => if c = 32 then [32, 32] else [c]
  | [] => StrLaws.replL_nil
  | c :: r => by
    by_cases hc : c = 32
    · subst hc
      rw [StrLaws.replL_hit (by simp) rfl]
      show [32, 32] ++ StrLaws.replL _ _ r = _
      rw [repl_two r]; rfl
    · rw [StrLaws.replL_miss (by simpa using hc), repl_two r]
      simp [hc]
theorem flat_bare {w : Str} (h : bare w) : ((tl w).flatMap fun c => if c = 32 then [32, 32] else [c]) = tl w := by
  unfold bare at h
  generalize tl w = l at h ⊢
  induction l with
  | nil => rfl
  | cons c r ih =>
    have hc : c ≠ 32 := fun e => h (by rw [e]; exact List.mem_cons_self)
    rw [List.flatMap_cons, ih fun e => h (List.mem_cons_of_mem _ e), if_neg hc]
    rfl
theorem bad_repl {e : Ev} (h : e.ok) : bad (Txt.replace e.txt " " "  ") := by
  have hb := words_wok e h
  have e1 : tl (Txt.replace e.txt " " "  ") = (tl (Txt.join sp e.words)).flatMap fun c => if c = 32 then [32, 32] else [c] := by
    rw [← repl_two]
    exact StrLaws.replace_list (x := e.txt) (y := " ") (z := "  ") (by decide +kernel)
  rcases kinds e h with hk | ⟨a, n, hk, ha, _⟩ | ⟨n, w, hk, _⟩
  · rw [hk, tl_joins.1, flat_bare (by decide +kernel)] at e1
    rw [ext_tl e1]
    exact ⟨by decide +kernel, by decide +kernel, .inl rfl⟩
  · rw [hk] at hb
    rw [hk, tl_joins.2, tl_joins.1, List.flatMap_append, List.flatMap_cons, flat_bare (hb a (by simp)).1, flat_bare (hb (numS n) (by simp)).1] at e1
    refine bad_words (ws := [a, "", numS n]) (by rw [e1, tl_joins.2, tl_joins.2, tl_joins.1]; rfl) (by simp) (fun w hm => ?_) (by simp) ?_
    · simp at hm
      rcases hm with rfl | rfl | rfl
      · exact hb _ (by simp)
      · decide +kernel
      · exact hb _ (by simp)
    · simp only [List.cons_append, List.nil_append, parseW]
      rw [if_neg (fun h => one_ne ha h.1)]
  · rw [hk] at hb
    rw [hk, tl_joins.2, tl_joins.2, tl_joins.1, List.flatMap_append, List.flatMap_cons, List.flatMap_append, List.flatMap_cons, flat_bare (hb "ends" (by simp)).1, flat_bare (hb (numS n) (by simp)).1, flat_bare (hb w (by simp)).1] at e1
    refine bad_words (ws := ["ends", "", numS n, "", w]) (by rw [e1, tl_joins.2, tl_joins.2, tl_joins.2, tl_joins.2, tl_joins.1]; rfl) (by simp) (fun x hm => ?_) (by simp) rfl
    simp at hm
    rcases hm with rfl | rfl | rfl | rfl | rfl
    · exact hb _ (by simp)
    · decide +kernel
    · exact hb _ (by simp)
    · decide +kernel
    · exact hb _ (by simp)
/-- great letters -/
theorem up_num (n : Nat) : (tl (numS n)).map PyProof.Rows.up1 = tl (numS n) := by
  have h := num_digit n
  have hu : ∀ c, 48 ≤ c → c ≤ 57 → PyProof.Rows.up1 c = c := by
    intro c h1 h2
    have : ∀ d, d < 10 → PyProof.Rows.up1 (48 + d) = 48 + d := by decide
    have := this (c - 48) (by omega)
    rwa [show 48 + (c - 48) = c by omega] at this
  generalize tl (numS n) = l at h ⊢
  induction l with
  | nil => rfl
  | cons c r ih =>
    rw [List.map_cons, ih fun x hx => h x (List.mem_cons_of_mem _ hx), hu c (h c List.mem_cons_self).1 (h c List.mem_cons_self).2]
theorem bad_upper {e : Ev} (h : e.ok) : bad (Txt.upper e.txt) := by
  have hA : ∀ c ∈ tl e.txt, c < 128 := by
    have hn : ∀ n, ∀ c ∈ tl (numS n), c < 128 := fun n c hc => by have := num_digit n c hc; omega
    have lit : ∀ w ∈ ([("fresh" : Str), "ends", "bad", "spent", "well", "lost", "again", "up"] : List Str), ∀ c ∈ tl w, c < 128 := by decide +kernel
    rcases kinds e h with hk | ⟨a, n, hk, ha, _⟩ | ⟨n, w, hk, hw, _⟩
    · unfold Ev.txt; rw [hk, tl_joins.1]; exact lit _ (by simp)
    · unfold Ev.txt; rw [hk, tl_joins.2, tl_joins.1]
      intro c hc
      rcases List.mem_append.mp hc with hc | hc
      · refine lit a ?_ c hc
        simp [oneWords] at ha
        rcases ha with rfl | rfl | rfl <;> simp
      · rcases List.mem_cons.mp hc with rfl | hc
        · decide
        · exact hn n c hc
    · unfold Ev.txt; rw [hk, tl_joins.2, tl_joins.2, tl_joins.1]
      intro c hc
      rcases List.mem_append.mp hc with hc | hc
      · exact lit "ends" (by simp) c hc
      · rcases List.mem_cons.mp hc with rfl | hc
        · decide
        · rcases List.mem_append.mp hc with hc | hc
          · exact hn n c hc
          · rcases List.mem_cons.mp hc with rfl | hc
            · decide
            · refine lit w ?_ c hc
              simp [endWords] at hw
              rcases hw with rfl | rfl | rfl <;> simp
  have e1 : tl (Txt.upper e.txt) = (tl e.txt).map PyProof.Rows.up1 := by
    rw [PyProof.Rows.upper_ascii hA]
    simp [tl]
  have u32 : PyProof.Rows.up1 32 = 32 := by decide
  have upw : ∀ a b : Str, (tl a).map PyProof.Rows.up1 = tl b → True := fun _ _ _ => trivial
  rcases kinds e h with hk | ⟨a, n, hk, ha, hn⟩ | ⟨n, w, hk, hw, hn⟩
  · unfold Ev.txt at e1
    rw [hk, tl_joins.1] at e1
    refine bad_words (ws := ["FRESH"]) (by unfold Ev.txt; rw [hk, e1, tl_joins.1]; decide +kernel) (by simp) (by decide +kernel) (by simp) ?_
    simp only [List.cons_append, List.nil_append, parseW]
    rw [if_neg (by decide +kernel)]
  · unfold Ev.txt at e1
    rw [hk, tl_joins.2, tl_joins.1, List.map_append, List.map_cons, up_num, u32] at e1
    have key : ∀ b : Str, (tl a).map PyProof.Rows.up1 = tl b → wok b → b ∉ oneWords → bad (Txt.upper e.txt) := by
      intro b hb hw ho
      refine bad_words (ws := [b, numS n]) (by unfold Ev.txt; rw [hk, e1, tl_joins.2, tl_joins.1, hb]) (by simp) (fun x hx => ?_) (by simp) ?_
      · simp at hx
        rcases hx with rfl | rfl
        · exact hw
        · exact num_wok hn
      · simp only [List.cons_append, List.nil_append, parseW]
        rw [if_neg ho]
    simp [oneWords] at ha
    rcases ha with rfl | rfl | rfl
    · exact key "LOST" (by decide +kernel) (by decide +kernel) (by decide +kernel)
    · exact key "AGAIN" (by decide +kernel) (by decide +kernel) (by decide +kernel)
    · exact key "UP" (by decide +kernel) (by decide +kernel) (by decide +kernel)
  · unfold Ev.txt at e1
    rw [hk, tl_joins.2, tl_joins.2, tl_joins.1, List.map_append, List.map_cons, List.map_append, List.map_cons, up_num, u32] at e1
    have key : ∀ b : Str, (tl w).map PyProof.Rows.up1 = tl b → wok b → bad (Txt.upper e.txt) := by
      intro b hb hw
      refine bad_words (ws := ["ENDS", numS n, b]) (by unfold Ev.txt; rw [hk, e1, tl_joins.2, tl_joins.2, tl_joins.1, hb, show (tl ("ends" : Str)).map PyProof.Rows.up1 = tl "ENDS" by decide +kernel]) (by simp) (fun x hx => ?_) (by simp) ?_
      · simp at hx
        rcases hx with rfl | rfl | rfl
        · decide +kernel
        · exact num_wok hn
        · exact hw
      · simp only [List.cons_append, List.nil_append, parseW]
        rw [if_neg (fun h => absurd h.1 (by decide +kernel))]
    simp [endWords] at hw
    rcases hw with rfl | rfl | rfl
    · exact key "BAD" (by decide +kernel) (by decide +kernel)
    · exact key "SPENT" (by decide +kernel) (by decide +kernel)
    · exact key "WELL" (by decide +kernel) (by decide +kernel)
/-- a line's end behind it -/
theorem bad_line {e : Ev} (h : e.ok) {z : Str} (hz : tl z = tl e.txt ++ [10]) : bad z := by
  have hb := words_wok e h
  have wl : ∀ w : Str, bare w → DL.okS w → w.length ≤ 99 → wok (w ++ "\n") := by
    intro w h1 h2 h3
    refine ⟨?_, DL.okS_append h2 (by decide +kernel), ?_⟩
    · unfold bare at h1 ⊢
      rw [tl_append]
      intro hm
      rcases List.mem_append.mp hm with hm | hm
      · exact h1 hm
      · exact absurd hm (by decide +kernel)
    · rw [Str.length_append]
      have : ("\n" : Str).length = 1 := by decide +kernel
      omega
  have e10 : tl ("\n" : Str) = [10] := by decide +kernel
  rcases kinds e h with hk | ⟨a, n, hk, ha, hn⟩ | ⟨n, w, hk, hw, hn⟩
  · refine bad_words (ws := ["fresh\n"]) (by unfold Ev.txt at hz; rw [hk, tl_joins.1] at hz; rw [hz, tl_joins.1]; decide +kernel) (by simp) (by decide +kernel) (by simp) ?_
    simp only [List.cons_append, List.nil_append, parseW]
    rw [if_neg (by decide +kernel)]
  · refine bad_words (ws := [a, numS n ++ "\n"]) (by unfold Ev.txt at hz; rw [hk, tl_joins.2, tl_joins.1] at hz; rw [hz, tl_joins.2, tl_joins.1, tl_append, e10]; simp) (by simp) (fun x hx => ?_) (by simp) ?_
    · simp at hx
      rcases hx with rfl | rfl
      · exact hb _ (by rw [hk]; simp)
      · exact wl _ (num_wok hn).1 (num_wok hn).2.1 (num_len (k := 99) (by decide) (Nat.lt_trans hn (by decide +kernel)))
    · simp only [parseW]
      have : isNum (numS n ++ "\n") 60 = false := by
        unfold isNum
        have : (tl (numS n ++ "\n")).all (fun c => decide (48 ≤ c ∧ c ≤ 57)) = false := by
          rw [tl_append, e10, List.all_append]; simp
        rw [this]; simp
      rw [this]; simp
  · refine bad_words (ws := ["ends", numS n, w ++ "\n"]) (by unfold Ev.txt at hz; rw [hk, tl_joins.2, tl_joins.2, tl_joins.1] at hz; rw [hz, tl_joins.2, tl_joins.2, tl_joins.1, tl_append, e10]; simp) (by simp) (fun x hx => ?_) (by simp) ?_
    · simp at hx
      rcases hx with rfl | rfl | rfl
      · decide +kernel
      · exact num_wok hn
      · have h1 := hb w (by rw [hk]; simp)
        refine wl _ h1.1 h1.2.1 ?_
        simp [endWords] at hw
        rcases hw with rfl | rfl | rfl <;> decide +kernel
    · simp only [List.cons_append, List.nil_append, parseW]
      rw [if_neg (fun h => ?_)]
      have h2 := h.2
      simp [endWords] at hw
      rcases hw with rfl | rfl | rfl <;> exact absurd h2 (by decide +kernel)
/-- those that are bad at any event -/
theorem bad_lit : ∀ z ∈ ([("" : Str), "fresh 0", "ends 1", "lost", "ends well 1", "ends 1 good", "ends 1 bad 1", "lost -1", "lost 01", "again -0", "up 1 1", "up x", "again +1", "done 1", "lost 1_0", "lost 1" ++ DL.mulS "0" 60, "ends 1" ++ DL.mulS "0" 60 ++ " bad"] : List Str), bad z := by
  have : ∀ z ∈ ([("" : Str), "fresh 0", "ends 1", "lost", "ends well 1", "ends 1 good", "ends 1 bad 1", "lost -1", "lost 01", "again -0", "up 1 1", "up x", "again +1", "done 1", "lost 1_0", "lost 1" ++ DL.mulS "0" 60, "ends 1" ++ DL.mulS "0" 60 ++ " bad"] : List Str), z.length ≤ 1000 ∧ DL.okS z ∧ (parse z).isNone = true := by decide +kernel
  intro z hz
  obtain ⟨h1, h2, h3⟩ := this z hz
  exact ⟨h1, h2, .inr (Option.isNone_iff_eq_none.mp h3)⟩
theorem txt_fit {e : Ev} (h : e.ok) : e.txt.length ≤ 1000 ∧ DL.okS e.txt := join_fit (words_wok e h) (by have := words_len e; omega)
end Lm

namespace Lw
open PySem L2 DL TL Lm
/-! ### a pool of digits: any draw -/
def PoolIs (M : MH) (p : Addr) (c : Nat) : Prop := ∃ (a b z : Int), M p = some (.lst [.int a, .int b, .int z]) ∧ 0 ≤ a ∧ 0 ≤ b ∧ b < 1000000000000000000 ∧ 0 ≤ z ∧ z ≤ c
/-- a draw: any number below the base; the pool changes -/
def sp__law_next (K : PySem.W.Frag) : DSp := fun ds M Q _ => ∃ (p : Addr) (base : Int) (c : Nat), ds = [.ref p, .int base] ∧ PoolIs M p c ∧ c < 1000000 ∧ 0 < base ∧ base.natAbs.log2 < 9000 ∧
  ∀ (r : Int) (o : MO), 0 ≤ r → r < base → PoolIs (updM M p o) p (c + 1) → Q (.int r) (updM M p o)
theorem len__law_next (K : PySem.W.Frag) : ∀ ds M Q E, sp__law_next K ds M Q E → ds.length = 2 := by
  rintro ds M Q E ⟨p, base, c, rfl, _⟩
  rfl
theorem sem__law_next (K : PySem.W.Frag) : ∀ ds M Q E, sp__law_next K ds M Q E → t__law_next K (fun cls fx _ M' => E cls fx M') { nx := fun _ M' => Q .non M', rt := Q } (startD N__law_next ds) M := by
  rintro ds M Q E ⟨p, base, c, rfl, ⟨a, b, z, hM, ha, hb, hb2, hz, hz2⟩, hc, hb0, hb1, k⟩
  simp only [t__law_next, N__law_next, dVar, dC, dOp, dTest, drI0, drI, dIsN, dNotN, isNonD, dAnd, dOr, dNot, dAndV, dOrV, dNotV, dIf, dChain, dNil, dCons, dTup, dLst, dLstM, dFrz, dIxC, seqOf, lstOf, ownOf, dNoPart, dPart, dSl, dCB, drLen, drAbs, drInt, drIntS, drStr, dr2I, drTuple, drList, drListM, drBls, drSum, dgName, dgNil, dgCons, dgTup, dgLst, dgSub, dNext, dSeq, dDrop, dRet, dRetN, dIfS, dAsg, dPar, dCall, dRaise, drPlus, drIxA, drSl, dBM, drAppend, drExtend, dIsi, tyD, startD, List.map, List.length_cons, List.length_nil, List.replicate, List.append_nil, List.nil_append, List.cons_append, List.set, List.getElem?_cons_zero, List.getElem?_cons_succ, Nat.reduceAdd, Nat.reduceSub, Nat.reduceLeDiff, true_and, and_true, if_true, if_false, Bool.false_eq_true, ite_true, ite_false, reduceIte, updM_same, updM_updM, ixN_0, ixN_1, ixN_2, ixN_3, ixN_m1, dJoin, dSplit, dUpper, diLst, diTup, diStr, dLc, dLcM, wipeD, dYes, List.length_singleton, drEq_str, drEq_int, drEq_bl, Bool.not_false, Bool.not_true, Option.bind_some, Bool.false_bne, Bool.true_bne, decide_true, decide_false, hM]
  split
  · refine ⟨hb0, cdiv_of hb0 hb1, k _ _ (Int.emod_nonneg _ (by omega)) (Int.emod_lt_of_pos _ hb0) ⟨a / base, b, z, updM_same, Int.ediv_nonneg ha (by omega), hb, hb2, hz, by omega⟩⟩
  · have hm : ∀ x : Int, 0 ≤ x % 1000000007 ∧ x % 1000000007 < 1000000007 := fun x => ⟨Int.emod_nonneg _ (by decide), Int.emod_lt_of_pos _ (by decide)⟩
    have hs : ∀ x : Int, 0 ≤ x % 998244353 ∧ x % 998244353 < 998244353 := fun x => ⟨Int.emod_nonneg _ (by decide), Int.emod_lt_of_pos _ (by decide)⟩
    refine ⟨cmul_of 20 30 (by decide) (by omega) (by decide), by decide, ?_⟩
    generalize hx : (b + 7919 * (z + 1)) % 1000000007 = x
    have h1 := hm (b + 7919 * (z + 1))
    rw [hx] at h1
    refine ⟨cmul_of 40 40 (by omega) (by omega) (by decide), by decide, ?_⟩
    generalize hy : (x + 11) * (x + 48271) % 998244353 = y
    have h2 := hs ((x + 11) * (x + 48271))
    rw [hy] at h2
    refine ⟨cmul_of 40 40 (by omega) (by omega) (by decide), by decide, cdiv_of (by decide) (by decide +kernel), hb0, k _ _ (Int.emod_nonneg _ (by omega)) (Int.emod_lt_of_pos _ hb0) ⟨a, b, z + 1, updM_same, ha, hb, hb2, by omega, by omega⟩⟩
/-- a pool anew -/
def sp__law_pool (K : PySem.W.Frag) : DSp := fun ds M Q _ => ∃ (cell : Int), ds = [.int cell] ∧ ∀ (p : Addr) (o : MO), M p = none → PoolIs (updM M p o) p 0 → Q (.ref p) (updM M p o)
theorem len__law_pool (K : PySem.W.Frag) : ∀ ds M Q E, sp__law_pool K ds M Q E → ds.length = 1 := by
  rintro ds M Q E ⟨cell, rfl, _⟩
  rfl
theorem sem__law_pool (K : PySem.W.Frag) : ∀ ds M Q E, sp__law_pool K ds M Q E → t__law_pool K (fun cls fx _ M' => E cls fx M') { nx := fun _ M' => Q .non M', rt := Q } (startD N__law_pool ds) M := by
  rintro ds M Q E ⟨cell, rfl, k⟩
  simp only [t__law_pool, N__law_pool, dVar, dC, dOp, dTest, drI0, drI, dIsN, dNotN, isNonD, dAnd, dOr, dNot, dAndV, dOrV, dNotV, dIf, dChain, dNil, dCons, dTup, dLst, dLstM, dFrz, dIxC, seqOf, lstOf, ownOf, dNoPart, dPart, dSl, dCB, drLen, drAbs, drInt, drIntS, drStr, dr2I, drTuple, drList, drListM, drBls, drSum, dgName, dgNil, dgCons, dgTup, dgLst, dgSub, dNext, dSeq, dDrop, dRet, dRetN, dIfS, dAsg, dPar, dCall, dRaise, drPlus, drIxA, drSl, dBM, drAppend, drExtend, dIsi, tyD, startD, List.map, List.length_cons, List.length_nil, List.replicate, List.append_nil, List.nil_append, List.cons_append, List.set, List.getElem?_cons_zero, List.getElem?_cons_succ, Nat.reduceAdd, Nat.reduceSub, Nat.reduceLeDiff, true_and, and_true, if_true, if_false, Bool.false_eq_true, ite_true, ite_false, reduceIte, updM_same, updM_updM, ixN_0, ixN_1, ixN_2, ixN_3, ixN_m1, dJoin, dSplit, dUpper, diLst, diTup, diStr, dLc, dLcM, wipeD, dYes, List.length_singleton, drEq_str, drEq_int, drEq_bl, Bool.not_false, Bool.not_true, Option.bind_some, Bool.false_bne, Bool.true_bne, decide_true, decide_false]
  have hp : CPow 10 18 := ⟨by decide, by decide, by decide⟩
  have e : (10 : Int) ^ (Int.toNat 18) = 1000000000000000000 := by decide
  refine ⟨hp, hp, by rw [e]; decide, fun p hp => k p _ hp ⟨_, _, _, updM_same, ?_, ?_, ?_, by decide, by decide⟩⟩
  · split <;> omega
  · rw [e]; exact Int.emod_nonneg _ (by decide)
  · rw [e]; exact Int.emod_lt_of_pos _ (by decide)

def sp_are_figures (K : PySem.W.Frag) : DSp := fun ds M Q _ => ∃ (z : Str) (m : Nat), ds = [.str z, .int m] ∧ z.length ≤ 16777216 ∧ Q (.bl (isNum z m)) M
theorem len_are_figures (K : PySem.W.Frag) : ∀ ds M Q E, sp_are_figures K ds M Q E → ds.length = 2 := by
  rintro ds M Q E ⟨z, m, rfl, _⟩
  rfl
theorem sem_are_figures (K : PySem.W.Frag) : ∀ ds M Q E, sp_are_figures K ds M Q E → t_are_figures K (fun cls fx _ M' => E cls fx M') { nx := fun _ M' => Q .non M', rt := Q } (startD N_are_figures ds) M := by
  rintro ds M Q E ⟨z, m, rfl, hz, k⟩
  simp only [t_are_figures, N_are_figures, dVar, dC, dOp, dTest, drI0, drI, dIsN, dNotN, isNonD, dAnd, dOr, dNot, dAndV, dOrV, dNotV, dIf, dChain, dNil, dCons, dTup, dLst, dLstM, dFrz, dIxC, seqOf, lstOf, ownOf, dNoPart, dPart, dSl, dCB, drLen, drAbs, drInt, drIntS, drStr, dr2I, drTuple, drList, drListM, drBls, drSum, dgName, dgNil, dgCons, dgTup, dgLst, dgSub, dNext, dSeq, dDrop, dRet, dRetN, dIfS, dAsg, dPar, dCall, dRaise, drPlus, drIxA, drSl, dBM, drAppend, drExtend, dIsi, tyD, startD, List.map, List.length_cons, List.length_nil, List.replicate, List.append_nil, List.nil_append, List.cons_append, List.set, List.getElem?_cons_zero, List.getElem?_cons_succ, Nat.reduceAdd, Nat.reduceSub, Nat.reduceLeDiff, true_and, and_true, if_true, if_false, Bool.false_eq_true, ite_true, ite_false, reduceIte, updM_same, updM_updM, ixN_0, ixN_1, ixN_2, ixN_3, ixN_m1, dJoin, dSplit, dUpper, diLst, diTup, diStr, dLc, dLcM, wipeD, dYes, List.length_singleton, drEq_str, drEq_int, drEq_bl, Bool.not_false, Bool.not_true, Option.bind_some, Bool.false_bne, Bool.true_bne, decide_true, decide_false, hz]
  have hl : z.length = (tl z).length := len_tl z
  have main : 1 ≤ z.length → z.length ≤ m → dLcR [some (D.str z), some (D.int ↑m), none] (dgName 2) dYes (dIn (dVar 2) (dC c_FIGURES)) [2]
        (fun acc M => match blsOf acc with
          | some bs => if (!bs.all id) = true then Q (D.bl false) M else if decide (z = Str.ofString "0") = true then Q (D.bl true) M else match z.cps.toList[0]? with
                    | some c => Q (D.bl (!decide (({ cps := #[c] } : Str) = Str.ofString "0"))) M
                    | none => False
          | none => False) (signs z) (fun x => True) M := fun h1 h2 => by
    refine lc_map (tl z) (fun c => D.str ⟨#[c]⟩) (fun c => D.bl (decide (48 ≤ c ∧ c ≤ 57))) rfl (by show ((tl z).map _).length ≤ _; rw [List.length_map]; omega) trivial (fun c hc R S r => ?_) ?_
    · simp only [dVar, dC, dOp, dTest, drI0, drI, dIsN, dNotN, isNonD, dAnd, dOr, dNot, dAndV, dOrV, dNotV, dIf, dChain, dNil, dCons, dTup, dLst, dLstM, dFrz, dIxC, seqOf, lstOf, ownOf, dNoPart, dPart, dSl, dCB, drLen, drAbs, drInt, drIntS, drStr, dr2I, drTuple, drList, drListM, drBls, drSum, dgName, dgNil, dgCons, dgTup, dgLst, dgSub, dNext, dSeq, dDrop, dRet, dRetN, dIfS, dAsg, dPar, dCall, dRaise, drPlus, drIxA, drSl, dBM, drAppend, drExtend, dIsi, tyD, startD, List.map, List.length_cons, List.length_nil, List.replicate, List.append_nil, List.nil_append, List.cons_append, List.set, List.getElem?_cons_zero, List.getElem?_cons_succ, Nat.reduceAdd, Nat.reduceSub, Nat.reduceLeDiff, true_and, and_true, if_true, if_false, Bool.false_eq_true, ite_true, ite_false, reduceIte, updM_same, updM_updM, ixN_0, ixN_1, ixN_2, ixN_3, ixN_m1, dJoin, dSplit, dUpper, diLst, diTup, diStr, dLc, dLcM, wipeD, dYes, List.length_singleton, drEq_str, drEq_int, drEq_bl, Bool.not_false, Bool.not_true, Option.bind_some, Bool.false_bne, Bool.true_bne, decide_true, decide_false, drIn]
      refine ⟨c, rfl, ?_⟩
      have e : decide (c ∈ (Str.ofString "0123456789").cps.toList) = decide (48 ≤ c ∧ c ≤ 57) := by
        have e2 : (Str.ofString "0123456789").cps.toList = [48, 49, 50, 51, 52, 53, 54, 55, 56, 57] := by decide +kernel
        rw [e2]
        refine decide_eq_decide.mpr ?_
        simp
        omega
      rw [e]
      exact r
    · have eb : (tl z).map (fun c => D.bl (decide (48 ≤ c ∧ c ≤ 57))) = ((tl z).map fun c => decide (48 ≤ c ∧ c ≤ 57)).map D.bl := by simp
      rw [eb, blsOf_map]
      simp only
      have ea : ((tl z).map fun c => decide (48 ≤ c ∧ c ≤ 57)).all id = (tl z).all fun c => decide (48 ≤ c ∧ c ≤ 57) := by
        rw [List.all_map]; rfl
      rw [ea]
      have k' := k
      unfold isNum at k'
      rw [decide_eq_true h1, decide_eq_true h2] at k'
      simp only [Bool.true_and] at k'
      cases hall : (tl z).all fun c => decide (48 ≤ c ∧ c ≤ 57) with
      | false => rw [hall] at k'; simpa using k'
      | true =>
        rw [hall] at k'
        have e0 : tl (Str.ofString "0") = [48] := by decide +kernel
        have ez : decide (z = Str.ofString "0") = decide (tl z = [48]) := by
          refine decide_eq_decide.mpr ⟨fun h => by rw [h, e0], fun h => ext_tl (by rw [h, e0])⟩
        rw [ez]
        simp only [Bool.true_and] at k'
        by_cases hz0 : tl z = [48]
        · rw [decide_eq_true hz0] at k' ⊢
          simpa using k'
        · rw [decide_eq_false hz0] at k' ⊢
          simp only [Bool.not_true, Bool.false_eq_true, if_false, Bool.false_or] at k' ⊢
          cases hh : tl z with
          | nil => rw [hl, hh] at h1; simp at h1
          | cons c r =>
            rw [hh] at k'
            have ec : decide (({ cps := #[c] } : Str) = Str.ofString "0") = decide (c = 48) := by
              refine decide_eq_decide.mpr ⟨fun h => ?_, fun h => by subst h; rfl⟩
              have h3 : ([c] : List Nat) = [48] := (show tl ({ cps := #[c] } : Str) = [48] from by rw [h, e0])
              simpa using h3
            rw [show z.cps.toList = c :: r from hh]
            show Q (D.bl (!decide (({ cps := #[c] } : Str) = Str.ofString "0"))) M
            rw [ec]
            simpa using k'
  by_cases h1 : 1 ≤ z.length
  · rw [decide_eq_true (show (1 : Int) ≤ z.length by omega)]
    simp only [if_true]
    by_cases h2 : z.length ≤ m
    · rw [decide_eq_true (show (z.length : Int) ≤ m by omega)]
      simp only [Bool.not_true, Bool.false_eq_true, if_false]
      exact main h1 h2
    · rw [decide_eq_false (show ¬ (z.length : Int) ≤ m by omega)]
      simp only [Bool.not_false, if_true]
      have e : isNum z m = false := by unfold isNum; rw [decide_eq_false h2]; simp
      rw [e] at k
      exact k
  · rw [decide_eq_false (show ¬ (1 : Int) ≤ z.length by omega)]
    simp only [Bool.false_eq_true, if_false]
    have e : isNum z m = false := by unfold isNum; rw [decide_eq_false h1]; simp
    rw [e] at k
    exact k

def eNT (K : PySem.W.Frag) : Value := .ref (He.ga K "NoText")
def sp_number_in (K : PySem.W.Frag) : DSp := fun ds M Q E => ∃ (z : Str) (m : Nat), ds = [.str z, .int m] ∧ z.length ≤ 16777216 ∧ m ≤ 640 ∧ (isNum z m = true → Q (.int (NumText.digitsVal (tl z) : Nat)) M) ∧ (isNum z m = false → E (eNT K) none M)
theorem len_number_in (K : PySem.W.Frag) : ∀ ds M Q E, sp_number_in K ds M Q E → ds.length = 2 := by
  rintro ds M Q E ⟨z, m, rfl, _⟩
  rfl
theorem sem_number_in (K : PySem.W.Frag) : ∀ ds M Q E, sp_number_in K ds M Q E → t_number_in K (sp_are_figures K) (fun cls fx _ M' => E cls fx M') { nx := fun _ M' => Q .non M', rt := Q } (startD N_number_in ds) M := by
  rintro ds M Q E ⟨z, m, rfl, hz, hm, k1, k2⟩
  simp only [t_number_in, N_number_in, dVar, dC, dOp, dTest, drI0, drI, dIsN, dNotN, isNonD, dAnd, dOr, dNot, dAndV, dOrV, dNotV, dIf, dChain, dNil, dCons, dTup, dLst, dLstM, dFrz, dIxC, seqOf, lstOf, ownOf, dNoPart, dPart, dSl, dCB, drLen, drAbs, drInt, drIntS, drStr, dr2I, drTuple, drList, drListM, drBls, drSum, dgName, dgNil, dgCons, dgTup, dgLst, dgSub, dNext, dSeq, dDrop, dRet, dRetN, dIfS, dAsg, dPar, dCall, dRaise, drPlus, drIxA, drSl, dBM, drAppend, drExtend, dIsi, tyD, startD, List.map, List.length_cons, List.length_nil, List.replicate, List.append_nil, List.nil_append, List.cons_append, List.set, List.getElem?_cons_zero, List.getElem?_cons_succ, Nat.reduceAdd, Nat.reduceSub, Nat.reduceLeDiff, true_and, and_true, if_true, if_false, Bool.false_eq_true, ite_true, ite_false, reduceIte, updM_same, updM_updM, ixN_0, ixN_1, ixN_2, ixN_3, ixN_m1, dJoin, dSplit, dUpper, diLst, diTup, diStr, dLc, dLcM, wipeD, dYes, List.length_singleton, drEq_str, drEq_int, drEq_bl, Bool.not_false, Bool.not_true, Option.bind_some, Bool.false_bne, Bool.true_bne, decide_true, decide_false]
  refine ⟨z, m, rfl, hz, ?_⟩
  cases h : isNum z m with
  | false => simp only [Bool.not_false, if_true]; exact k2 h
  | true =>
    simp only [Bool.not_true, Bool.false_eq_true, if_false]
    obtain ⟨n, h1, h2, h3⟩ := read_num h hm
    exact ⟨_, h1, h3, by rw [h2]; exact k1 h⟩
/-- an event as a tree -/
def dEv : Ev → D
  | .fresh => .tup [.str "fresh"]
  | .ends n w => .tup [.str "ends", .int n, .str w]
  | .lost n => .tup [.str "lost", .int n]
  | .again n => .tup [.str "again", .int n]
  | .up n => .tup [.str "up", .int n]
def sp_read_event (K : PySem.W.Frag) : DSp := fun ds M Q E => ∃ d, ds = [d] ∧ ((∃ z, d = .str z ∧ z.length ≤ 1000 ∧ okS z ∧ (∀ e, parse z = some e → Q (dEv e) M) ∧ (parse z = none → E (eNT K) none M)) ∨ ((∃ T, tyD M d = some T ∧ kitB T "str" = some false) ∧ E (eNT K) none M))
theorem len_read_event (K : PySem.W.Frag) : ∀ ds M Q E, sp_read_event K ds M Q E → ds.length = 1 := by
  rintro ds M Q E ⟨z, rfl, _⟩
  rfl
theorem sem_read_event (K : PySem.W.Frag) : ∀ ds M Q E, sp_read_event K ds M Q E → t_read_event K (sp_number_in K) (fun cls fx _ M' => E cls fx M') { nx := fun _ M' => Q .non M', rt := Q } (startD N_read_event ds) M := by
  rintro ds M Q E ⟨d, rfl, ⟨z, rfl, hz, hok, k1, k2⟩ | ⟨⟨T, h1, h2⟩, k⟩⟩
  · have e1 : kitB "str" "str" = some true := by decide +kernel
    have hw : ∀ w ∈ Txt.split z sp, okS w ∧ w.length ≤ 1000 := fun w hw => ⟨okS_split (by decide +kernel) (by decide +kernel) hok w hw, Nat.le_trans (split_len (by decide +kernel) (by decide +kernel) hw) hz⟩
    have hp : parse z = parseW (Txt.split z sp) := rfl
    simp only [t_read_event, N_read_event, dVar, dC, dOp, dTest, drI0, drI, dIsN, dNotN, isNonD, dAnd, dOr, dNot, dAndV, dOrV, dNotV, dIf, dChain, dNil, dCons, dTup, dLst, dLstM, dFrz, dIxC, seqOf, lstOf, ownOf, dNoPart, dPart, dSl, dCB, drLen, drAbs, drInt, drIntS, drStr, dr2I, drTuple, drList, drListM, drBls, drSum, dgName, dgNil, dgCons, dgTup, dgLst, dgSub, dNext, dSeq, dDrop, dRet, dRetN, dIfS, dAsg, dPar, dCall, dRaise, drPlus, drIxA, drSl, dBM, drAppend, drExtend, dIsi, tyD, startD, List.map, List.length_cons, List.length_nil, List.replicate, List.append_nil, List.nil_append, List.cons_append, List.set, List.getElem?_cons_zero, List.getElem?_cons_succ, Nat.reduceAdd, Nat.reduceSub, Nat.reduceLeDiff, true_and, and_true, if_true, if_false, Bool.false_eq_true, ite_true, ite_false, reduceIte, updM_same, updM_updM, ixN_0, ixN_1, ixN_2, ixN_3, ixN_m1, dJoin, dSplit, dUpper, diLst, diTup, diStr, dLc, dLcM, wipeD, dYes, List.length_singleton, drEq_str, drEq_int, drEq_bl, Bool.not_false, Bool.not_true, Option.bind_some, Bool.false_bne, Bool.true_bne, decide_true, decide_false, e1]
    refine ⟨by decide +kernel, by omega, ?_⟩
    rw [hp] at k1 k2
    rw [show Txt.split z (Str.ofString " ") = Txt.split z sp from rfl]
    clear hp
    generalize Txt.split z sp = ws at hw k1 k2 ⊢
    have e2 := fun Q' : DK => drEq_strs (neg := false) (a := ws) (b := [("fresh" : Str)]) (M := M) (Q := Q') (fun u hu => (hw u hu).1) (fun u hu => by rw [List.mem_singleton.mp hu]; decide +kernel)
    rw [show (D.lst [D.str (Str.ofString "fresh")]) = D.lst (([("fresh" : Str)]).map D.str) from rfl, e2]
    simp only [Bool.false_bne]
    have nf : ∀ a b : Str, ∀ r, decide (a :: b :: r = [("fresh" : Str)]) = false := fun a b r => decide_eq_false (by simp)
    have en : ∀ ws : List Str, parseW ws = none → E (eNT K) none M → E (.ref (He.ga K "NoText")) none M := fun _ _ h => h
    match ws with
    | [] =>
      have e3 : decide (([] : List Str) = [("fresh" : Str)]) = false := by simp
      rw [e3]
      simp only [List.map_nil, List.length_nil, Bool.false_eq_true, if_false]
      exact k2 rfl
    | [a] =>
      by_cases ha : a = ("fresh" : Str)
      · subst ha
        simp only [decide_true, if_true]
        exact k1 .fresh (by simp [parseW])
      · rw [decide_eq_false (show ¬ [a] = [("fresh" : Str)] by simpa using ha)]
        simp only [Bool.false_eq_true, if_false, List.map_cons, List.map_nil, List.length_cons, List.length_nil]
        exact k2 (by simp [parseW, ha])
    | [a, b] =>
      rw [nf a b []]
      have hi : ∀ Q' : DK, drIn false (.str a) c_ONE_NUMBER M Q' = Q' (.bl (decide (a ∈ oneWords))) M := fun Q' => by
        rw [show c_ONE_NUMBER = .tup (oneWords.map D.str) from rfl, drIn_strs]; simp
      simp only [Bool.false_eq_true, if_false, List.map_cons, List.map_nil, List.length_cons, List.length_nil, Nat.zero_add, Nat.reduceAdd, List.getElem?_cons_zero, List.getElem?_cons_succ, hi]
      simp only [show decide (((2 : Nat) : Int) = 2) = true from rfl, show decide (((2 : Nat) : Int) = 3) = false from rfl, if_true, Bool.false_eq_true, if_false]
      have k1' := k1
      have k2' := k2
      simp only [parseW] at k1' k2'
      by_cases ha : a ∈ oneWords
      · rw [decide_eq_true ha]
        rw [if_pos ha] at k1' k2'
        simp only [if_true]
        refine ⟨b, 60, rfl, Nat.le_trans (hw b (by simp)).2 (by decide), by decide, fun hn => ?_, fun hn => ?_⟩
        · rw [if_pos hn] at k1'
          have := k1' _ rfl
          by_cases h1 : a = ("lost" : Str)
          · subst h1; simpa [dEv] using this
          · by_cases h2 : a = ("again" : Str)
            · subst h2; simpa [dEv, h1] using this
            · have h3 : a = ("up" : Str) := by simpa [oneWords, h1, h2] using ha
              subst h3; simpa [dEv, h1, h2] using this
        · rw [if_neg (by rw [hn]; simp)] at k2'
          exact k2' rfl
      · rw [decide_eq_false ha]
        rw [if_neg ha] at k2'
        simp only [Bool.false_eq_true, if_false]
        exact k2' rfl
    | [a, b, c] =>
      rw [nf a b [c]]
      have hi : ∀ Q' : DK, drIn false (.str c) c_ENDS M Q' = Q' (.bl (decide (c ∈ endWords))) M := fun Q' => by
        rw [show c_ENDS = .tup (endWords.map D.str) from rfl, drIn_strs]; simp
      simp only [Bool.false_eq_true, if_false, List.map_cons, List.map_nil, List.length_cons, List.length_nil, Nat.zero_add, Nat.reduceAdd, List.getElem?_cons_zero, List.getElem?_cons_succ, hi, drEq_str, Bool.false_bne]
      simp only [show decide (((3 : Nat) : Int) = 2) = false from rfl, show decide (((3 : Nat) : Int) = 3) = true from rfl, if_true, Bool.false_eq_true, if_false]
      have k1' := k1
      have k2' := k2
      simp only [parseW] at k1' k2'
      by_cases ha : a = ("ends" : Str)
      · rw [decide_eq_true (show a = Str.ofString "ends" from ha)]
        simp only [if_true]
        by_cases hc : c ∈ endWords
        · rw [decide_eq_true hc]
          rw [if_pos ⟨ha, hc⟩] at k1' k2'
          simp only [if_true]
          refine ⟨b, 60, rfl, Nat.le_trans (hw b (by simp)).2 (by decide), by decide, fun hn => ?_, fun hn => ?_⟩
          · rw [if_pos hn] at k1'
            exact k1' _ rfl
          · rw [if_neg (by rw [hn]; simp)] at k2'
            exact k2' rfl
        · rw [decide_eq_false hc]
          rw [if_neg (fun h => hc h.2)] at k2'
          simp only [Bool.false_eq_true, if_false]
          exact k2' rfl
      · rw [decide_eq_false (show ¬ a = Str.ofString "ends" from ha)]
        rw [if_neg (fun h => ha h.1)] at k2'
        simp only [Bool.false_eq_true, if_false]
        exact k2' rfl
    | a :: b :: c :: d :: r =>
      rw [nf a b _]
      simp only [Bool.false_eq_true, if_false, List.map_cons, List.length_cons, List.length_map]
      rw [decide_eq_false (by omega), decide_eq_false (by omega)]
      simp only [Bool.false_eq_true, if_false]
      exact k2 rfl
  · simp only [t_read_event, N_read_event, dVar, dC, dOp, dTest, drI0, drI, dIsN, dNotN, isNonD, dAnd, dOr, dNot, dAndV, dOrV, dNotV, dIf, dChain, dNil, dCons, dTup, dLst, dLstM, dFrz, dIxC, seqOf, lstOf, ownOf, dNoPart, dPart, dSl, dCB, drLen, drAbs, drInt, drIntS, drStr, dr2I, drTuple, drList, drListM, drBls, drSum, dgName, dgNil, dgCons, dgTup, dgLst, dgSub, dNext, dSeq, dDrop, dRet, dRetN, dIfS, dAsg, dPar, dCall, dRaise, drPlus, drIxA, drSl, dBM, drAppend, drExtend, dIsi, tyD, startD, List.map, List.length_cons, List.length_nil, List.replicate, List.append_nil, List.nil_append, List.cons_append, List.set, List.getElem?_cons_zero, List.getElem?_cons_succ, Nat.reduceAdd, Nat.reduceSub, Nat.reduceLeDiff, true_and, and_true, if_true, if_false, Bool.false_eq_true, ite_true, ite_false, reduceIte, updM_same, updM_updM, ixN_0, ixN_1, ixN_2, ixN_3, ixN_m1, dJoin, dSplit, dUpper, diLst, diTup, diStr, dLc, dLcM, wipeD, dYes, List.length_singleton, drEq_str, drEq_int, drEq_bl, Bool.not_false, Bool.not_true, Option.bind_some, Bool.false_bne, Bool.true_bne, decide_true, decide_false] at h1 ⊢
    rw [h1]
    simp only [h2]
    exact k
/-! ### writing -/
theorem dig_at {r : Nat} (h : r < 10) : atI (Str.ofString "0123456789").cps.toList (r : Int) = some (48 + r) := by
  have e : ∀ r : Nat, r < 10 → atI ([48, 49, 50, 51, 52, 53, 54, 55, 56, 57] : List Nat) (r : Int) = some (48 + r) := by decide
  have e2 : (Str.ofString "0123456789").cps.toList = [48, 49, 50, 51, 52, 53, 54, 55, 56, 57] := by decide +kernel
  rw [e2]
  exact e r h
def sp__law_figures (K : PySem.W.Frag) : DSp := fun ds M Q _ => ∃ n : Nat, ds = [.int n] ∧ n < 10 ^ 100 ∧ Q (.str (numS n)) M
theorem len__law_figures (K : PySem.W.Frag) : ∀ ds M Q E, sp__law_figures K ds M Q E → ds.length = 1 := by
  rintro ds M Q E ⟨z, rfl, _⟩
  rfl
theorem sem__law_figures (K : PySem.W.Frag) : ∀ ds M Q E, sp__law_figures K ds M Q E → t__law_figures K (fun cls fx _ M' => E cls fx M') { nx := fun _ M' => Q .non M', rt := Q } (startD N__law_figures ds) M := by
  rintro ds M Q E ⟨n, rfl, hn, k⟩
  simp only [t__law_figures, N__law_figures, dVar, dC, dOp, dTest, drI0, drI, dIsN, dNotN, isNonD, dAnd, dOr, dNot, dAndV, dOrV, dNotV, dIf, dChain, dNil, dCons, dTup, dLst, dLstM, dFrz, dIxC, seqOf, lstOf, ownOf, dNoPart, dPart, dSl, dCB, drLen, drAbs, drInt, drIntS, drStr, dr2I, drTuple, drList, drListM, drBls, drSum, dgName, dgNil, dgCons, dgTup, dgLst, dgSub, dNext, dSeq, dDrop, dRet, dRetN, dIfS, dAsg, dPar, dCall, dRaise, drPlus, drIxA, drSl, dBM, drAppend, drExtend, dIsi, tyD, startD, List.map, List.length_cons, List.length_nil, List.replicate, List.append_nil, List.nil_append, List.cons_append, List.set, List.getElem?_cons_zero, List.getElem?_cons_succ, Nat.reduceAdd, Nat.reduceSub, Nat.reduceLeDiff, true_and, and_true, if_true, if_false, Bool.false_eq_true, ite_true, ite_false, reduceIte, updM_same, updM_updM, ixN_0, ixN_1, ixN_2, ixN_3, ixN_m1, dJoin, dSplit, dUpper, diLst, diTup, diStr, dLc, dLcM, wipeD, dYes, List.length_singleton, drEq_str, drEq_int, drEq_bl, Bool.not_false, Bool.not_true, Option.bind_some, Bool.false_bne, Bool.true_bne, decide_true, decide_false]
  have hn0 : ¬ ((n : Int) < 0) := by omega
  rw [if_neg hn0]
  refine ⟨fun m ρ M' => M' = M ∧ ∃ (r : Nat) (t : Str), ρ = [some (.int n), some (.str t), some (.int r)] ∧ m = r ∧ dg r ++ tl t = dg n, ⟨n, rfl, n, _, rfl, rfl, by simp; rfl⟩, ?_⟩
  rintro r ρ M' ⟨rfl, _, t, rfl, rfl, ht⟩
  simp only [dVar, dC, dOp, dTest, drI0, drI, dIsN, dNotN, isNonD, dAnd, dOr, dNot, dAndV, dOrV, dNotV, dIf, dChain, dNil, dCons, dTup, dLst, dLstM, dFrz, dIxC, seqOf, lstOf, ownOf, dNoPart, dPart, dSl, dCB, drLen, drAbs, drInt, drIntS, drStr, dr2I, drTuple, drList, drListM, drBls, drSum, dgName, dgNil, dgCons, dgTup, dgLst, dgSub, dNext, dSeq, dDrop, dRet, dRetN, dIfS, dAsg, dPar, dCall, dRaise, drPlus, drIxA, drSl, dBM, drAppend, drExtend, dIsi, tyD, startD, List.map, List.length_cons, List.length_nil, List.replicate, List.append_nil, List.nil_append, List.cons_append, List.set, List.getElem?_cons_zero, List.getElem?_cons_succ, Nat.reduceAdd, Nat.reduceSub, Nat.reduceLeDiff, true_and, and_true, if_true, if_false, Bool.false_eq_true, ite_true, ite_false, reduceIte, updM_same, updM_updM, ixN_0, ixN_1, ixN_2, ixN_3, ixN_m1, dJoin, dSplit, dUpper, diLst, diTup, diStr, dLc, dLcM, wipeD, dYes, List.length_singleton, drEq_str, drEq_int, drEq_bl, Bool.not_false, Bool.not_true, Option.bind_some, Bool.false_bne, Bool.true_bne, decide_true, decide_false]
  have hl : t.length ≤ 100 := by
    have h1 := dg_len 100 n hn
    have h2 := congrArg List.length ht
    rw [List.length_append] at h2
    rw [len_tl]; omega
  by_cases hr : 0 < r
  · rw [decide_eq_true (show (0 : Int) < r by omega)]
    simp only [if_true]
    have e1 : ((r : Int) % 10) = ((r % 10 : Nat) : Int) := by omega
    have e2 : ((r : Int) / 10) = ((r / 10 : Nat) : Int) := by omega
    rw [e1, e2]
    simp only [dig_at (show r % 10 < 10 by omega), dVar, dC, dOp, dTest, drI0, drI, dIsN, dNotN, isNonD, dAnd, dOr, dNot, dAndV, dOrV, dNotV, dIf, dChain, dNil, dCons, dTup, dLst, dLstM, dFrz, dIxC, seqOf, lstOf, ownOf, dNoPart, dPart, dSl, dCB, drLen, drAbs, drInt, drIntS, drStr, dr2I, drTuple, drList, drListM, drBls, drSum, dgName, dgNil, dgCons, dgTup, dgLst, dgSub, dNext, dSeq, dDrop, dRet, dRetN, dIfS, dAsg, dPar, dCall, dRaise, drPlus, drIxA, drSl, dBM, drAppend, drExtend, dIsi, tyD, startD, List.map, List.length_cons, List.length_nil, List.replicate, List.append_nil, List.nil_append, List.cons_append, List.set, List.getElem?_cons_zero, List.getElem?_cons_succ, Nat.reduceAdd, Nat.reduceSub, Nat.reduceLeDiff, true_and, and_true, if_true, if_false, Bool.false_eq_true, ite_true, ite_false, reduceIte, updM_same, updM_updM, ixN_0, ixN_1, ixN_2, ixN_3, ixN_m1, dJoin, dSplit, dUpper, diLst, diTup, diStr, dLc, dLcM, wipeD, dYes, List.length_singleton, drEq_str, drEq_int, drEq_bl, Bool.not_false, Bool.not_true, Option.bind_some, Bool.false_bne, Bool.true_bne, decide_true, decide_false]
    refine ⟨by decide, by decide, by show 1 + t.length ≤ _; omega, cdiv_of (by decide) (by decide +kernel), r / 10, by omega, r / 10, _, rfl, rfl, ?_⟩
    rw [tl_append]
    rw [dg_step hr] at ht
    rw [← ht]
    simp [tl]
  · have h0 : r = 0 := by omega
    subst h0
    simp only [show decide ((0 : Int) < ((0 : Nat) : Int)) = false from rfl, Bool.false_eq_true, if_false]
    have et : tl t = dg n := by simpa [dg] using ht
    rw [decide_eq_false hn0]
    simp only [Bool.false_eq_true, if_false]
    have a0 : atI [D.str (Str.ofString ""), D.str (Str.ofString "-")] 0 = some (D.str (Str.ofString "")) := rfl
    have a1 : atI [D.str (Str.ofString "0"), D.str t] (if (!decide ((n : Int) = 0)) = true then 1 else 0) = some (D.str (numS n)) := by
      by_cases h : n = 0
      · subst h; rfl
      · rw [decide_eq_false (show ¬ (n : Int) = 0 by omega)]
        have : t = numS n := ext_tl (by rw [num_pos h, et])
        rw [this]; rfl
    rw [a0, a1]
    have e0 : Str.ofString "" ++ numS n = numS n := ext_tl (by rw [tl_append]; rfl)
    show (Str.ofString "").length + (numS n).length ≤ 16777216 ∧ Q (.str (Str.ofString "" ++ numS n)) M'
    rw [e0]
    exact ⟨by have := num_len (k := 100) (by decide) hn; show 0 + (numS n).length ≤ _; omega, k⟩
def sp_event_text (K : PySem.W.Frag) : DSp := fun ds M Q _ => ∃ e : Ev, ds = [dEv e] ∧ e.ok ∧ Q (.str e.txt) M
theorem len_event_text (K : PySem.W.Frag) : ∀ ds M Q E, sp_event_text K ds M Q E → ds.length = 1 := by
  rintro ds M Q E ⟨z, rfl, _⟩
  rfl
theorem log_of {n k : Nat} (h : n < 10 ^ 60) : (n : Int).natAbs.log2 < 1920 := by
  have : n < 2 ^ (1919 + 1) := Nat.lt_of_lt_of_le h (by decide +kernel)
  exact log2_lt this
theorem strsOf_map : ∀ ws : List Str, strsOf (ws.map D.str) = some ws
  | [] => rfl
  | w :: ws => by
    show (strsOf (ws.map D.str)).map (w :: ·) = _
    rw [strsOf_map ws]; rfl
theorem sem_event_text (K : PySem.W.Frag) : ∀ ds M Q E, sp_event_text K ds M Q E → t_event_text K (fun cls fx _ M' => E cls fx M') { nx := fun _ M' => Q .non M', rt := Q } (startD N_event_text ds) M := by
  rintro ds M Q E ⟨e, rfl, he, k⟩
  have key : ∀ (l : List D), dEv e = .tup l → l.length ≤ 3 → (∀ d ∈ l, (∃ z, d = .str z ∧ z.length ≤ 100) ∨ ∃ n : Nat, d = .int n ∧ n < 10 ^ 60) → (l.map fun d => match d with | .int i => (toString i : Str) | .str z => z | _ => "") = e.words → t_event_text K (fun cls fx _ M' => E cls fx M') { nx := fun _ M' => Q .non M', rt := Q } (startD N_event_text [dEv e]) M := by
    intro l el hl hd hw
    rw [el]
    simp only [t_event_text, N_event_text, dVar, dC, dOp, dTest, drI0, drI, dIsN, dNotN, isNonD, dAnd, dOr, dNot, dAndV, dOrV, dNotV, dIf, dChain, dNil, dCons, dTup, dLst, dLstM, dFrz, dIxC, seqOf, lstOf, ownOf, dNoPart, dPart, dSl, dCB, drLen, drAbs, drInt, drIntS, drStr, dr2I, drTuple, drList, drListM, drBls, drSum, dgName, dgNil, dgCons, dgTup, dgLst, dgSub, dNext, dSeq, dDrop, dRet, dRetN, dIfS, dAsg, dPar, dCall, dRaise, drPlus, drIxA, drSl, dBM, drAppend, drExtend, dIsi, tyD, startD, List.map, List.length_cons, List.length_nil, List.replicate, List.append_nil, List.nil_append, List.cons_append, List.set, List.getElem?_cons_zero, List.getElem?_cons_succ, Nat.reduceAdd, Nat.reduceSub, Nat.reduceLeDiff, true_and, and_true, if_true, if_false, Bool.false_eq_true, ite_true, ite_false, reduceIte, updM_same, updM_updM, ixN_0, ixN_1, ixN_2, ixN_3, ixN_m1, dJoin, dSplit, dUpper, diLst, diTup, diStr, dLc, dLcM, wipeD, dYes, List.length_singleton, drEq_str, drEq_int, drEq_bl, Bool.not_false, Bool.not_true, Option.bind_some, Bool.false_bne, Bool.true_bne, decide_true, decide_false]
    intro _
    refine lc_map l id (fun d => D.str (match d with | .int i => (toString i : Str) | .str z => z | _ => "")) (by simp) (by omega) trivial (fun d hx R S r => ?_) ?_
    · simp only [dVar, dC, dOp, dTest, drI0, drI, dIsN, dNotN, isNonD, dAnd, dOr, dNot, dAndV, dOrV, dNotV, dIf, dChain, dNil, dCons, dTup, dLst, dLstM, dFrz, dIxC, seqOf, lstOf, ownOf, dNoPart, dPart, dSl, dCB, drLen, drAbs, drInt, drIntS, drStr, dr2I, drTuple, drList, drListM, drBls, drSum, dgName, dgNil, dgCons, dgTup, dgLst, dgSub, dNext, dSeq, dDrop, dRet, dRetN, dIfS, dAsg, dPar, dCall, dRaise, drPlus, drIxA, drSl, dBM, drAppend, drExtend, dIsi, tyD, startD, List.map, List.length_cons, List.length_nil, List.replicate, List.append_nil, List.nil_append, List.cons_append, List.set, List.getElem?_cons_zero, List.getElem?_cons_succ, Nat.reduceAdd, Nat.reduceSub, Nat.reduceLeDiff, true_and, and_true, if_true, if_false, Bool.false_eq_true, ite_true, ite_false, reduceIte, updM_same, updM_updM, ixN_0, ixN_1, ixN_2, ixN_3, ixN_m1, dJoin, dSplit, dUpper, diLst, diTup, diStr, dLc, dLcM, wipeD, dYes, List.length_singleton, drEq_str, drEq_int, drEq_bl, Bool.not_false, Bool.not_true, Option.bind_some, Bool.false_bne, Bool.true_bne, decide_true, decide_false, id]
      rcases hd d hx with ⟨z, rfl, _⟩ | ⟨n, rfl, hn⟩
      · exact r
      · exact ⟨log_of (k := 0) hn, r⟩
    · have e1 : (l.map fun d => D.str (match d with | .int i => (toString i : Str) | .str z => z | _ => "")) = e.words.map D.str := by rw [← hw, List.map_map]; rfl
      simp only [dVar, dC, dOp, dTest, drI0, drI, dIsN, dNotN, isNonD, dAnd, dOr, dNot, dAndV, dOrV, dNotV, dIf, dChain, dNil, dCons, dTup, dLst, dLstM, dFrz, dIxC, seqOf, lstOf, ownOf, dNoPart, dPart, dSl, dCB, drLen, drAbs, drInt, drIntS, drStr, dr2I, drTuple, drList, drListM, drBls, drSum, dgName, dgNil, dgCons, dgTup, dgLst, dgSub, dNext, dSeq, dDrop, dRet, dRetN, dIfS, dAsg, dPar, dCall, dRaise, drPlus, drIxA, drSl, dBM, drAppend, drExtend, dIsi, tyD, startD, List.map, List.length_cons, List.length_nil, List.replicate, List.append_nil, List.nil_append, List.cons_append, List.set, List.getElem?_cons_zero, List.getElem?_cons_succ, Nat.reduceAdd, Nat.reduceSub, Nat.reduceLeDiff, true_and, and_true, if_true, if_false, Bool.false_eq_true, ite_true, ite_false, reduceIte, updM_same, updM_updM, ixN_0, ixN_1, ixN_2, ixN_3, ixN_m1, dJoin, dSplit, dUpper, diLst, diTup, diStr, dLc, dLcM, wipeD, dYes, List.length_singleton, drEq_str, drEq_int, drEq_bl, Bool.not_false, Bool.not_true, Option.bind_some, Bool.false_bne, Bool.true_bne, decide_true, decide_false, e1, strsOf_map]
      refine ⟨?_, k⟩
      have hlen : e.words.length ≤ 3 := by rw [← hw, List.length_map]; exact hl
      have hall : ∀ w ∈ e.words, w.length ≤ 100 := by
        intro w hw2
        rw [← hw] at hw2
        obtain ⟨d, hd2, rfl⟩ := List.mem_map.mp hw2
        rcases hd d hd2 with ⟨z, rfl, hz⟩ | ⟨n, rfl, hn⟩
        · exact hz
        · exact num_len (k := 100) (by decide) (Nat.lt_trans hn (by decide +kernel))
      have hs : (e.words.map (·.length)).sum ≤ 3 * 100 := by
        have : ∀ ws : List Str, (∀ w ∈ ws, w.length ≤ 100) → (ws.map (·.length)).sum ≤ ws.length * 100 := by
          intro ws
          induction ws with
          | nil => intro _; simp
          | cons w ws ih =>
            intro h
            have h1 := h w List.mem_cons_self
            have h2 := ih fun x hx => h x (List.mem_cons_of_mem _ hx)
            simp only [List.map_cons, List.sum_cons, List.length_cons]; omega
        have := this e.words hall
        omega
      have : (Str.ofString " ").length = 1 := by decide +kernel
      rw [this]; omega
  have hn : ∀ n : Nat, (toString (n : Int) : Str) = numS n := fun n => rfl
  cases e with
  | fresh => exact key _ rfl (by decide) (fun d hd => by rw [List.mem_singleton.mp hd]; exact .inl ⟨_, rfl, by decide +kernel⟩) rfl
  | ends n w =>
    refine key _ rfl (by simp) (fun d hd => ?_) rfl
    simp only [List.mem_cons, List.not_mem_nil, or_false] at hd
    rcases hd with rfl | rfl | rfl
    · exact .inl ⟨_, rfl, by decide +kernel⟩
    · exact .inr ⟨n, rfl, he.1⟩
    · refine .inl ⟨_, rfl, ?_⟩
      have := he.2
      simp [endWords] at this
      rcases this with rfl | rfl | rfl <;> decide +kernel
  | lost n =>
    refine key _ rfl (by simp) (fun d hd => ?_) rfl
    simp only [List.mem_cons, List.not_mem_nil, or_false] at hd
    rcases hd with rfl | rfl
    · exact .inl ⟨_, rfl, by decide +kernel⟩
    · exact .inr ⟨n, rfl, he⟩
  | again n =>
    refine key _ rfl (by simp) (fun d hd => ?_) rfl
    simp only [List.mem_cons, List.not_mem_nil, or_false] at hd
    rcases hd with rfl | rfl
    · exact .inl ⟨_, rfl, by decide +kernel⟩
    · exact .inr ⟨n, rfl, he⟩
  | up n =>
    refine key _ rfl (by simp) (fun d hd => ?_) rfl
    simp only [List.mem_cons, List.not_mem_nil, or_false] at hd
    rcases hd with rfl | rfl
    · exact .inl ⟨_, rfl, by decide +kernel⟩
    · exact .inr ⟨n, rfl, he⟩
/-! ### drawing -/
def sp__law_event (K : PySem.W.Frag) : DSp := fun ds M Q _ => ∃ (p : Addr) (c : Nat), ds = [.ref p] ∧ PoolIs M p c ∧ c < 900000 ∧ ∀ (e : Ev) (o : MO), e.ok → PoolIs (updM M p o) p (c + 4) → Q (dEv e) (updM M p o)
theorem len__law_event (K : PySem.W.Frag) : ∀ ds M Q E, sp__law_event K ds M Q E → ds.length = 1 := by
  rintro ds M Q E ⟨p, c, rfl, _⟩
  rfl
theorem sem__law_event (K : PySem.W.Frag) : ∀ ds M Q E, sp__law_event K ds M Q E → t__law_event K (sp__law_next K) (fun cls fx _ M' => E cls fx M') { nx := fun _ M' => Q .non M', rt := Q } (startD N__law_event ds) M := by
  rintro ds M Q E ⟨p, c, rfl, hp, hc, k⟩
  simp only [t__law_event, N__law_event, dVar, dC, dOp, dTest, drI0, drI, dIsN, dNotN, isNonD, dAnd, dOr, dNot, dAndV, dOrV, dNotV, dIf, dChain, dNil, dCons, dTup, dLst, dLstM, dFrz, dIxC, seqOf, lstOf, ownOf, dNoPart, dPart, dSl, dCB, drLen, drAbs, drInt, drIntS, drStr, dr2I, drTuple, drList, drListM, drBls, drSum, dgName, dgNil, dgCons, dgTup, dgLst, dgSub, dNext, dSeq, dDrop, dRet, dRetN, dIfS, dAsg, dPar, dCall, dRaise, drPlus, drIxA, drSl, dBM, drAppend, drExtend, dIsi, tyD, startD, List.map, List.length_cons, List.length_nil, List.replicate, List.append_nil, List.nil_append, List.cons_append, List.set, List.getElem?_cons_zero, List.getElem?_cons_succ, Nat.reduceAdd, Nat.reduceSub, Nat.reduceLeDiff, true_and, and_true, if_true, if_false, Bool.false_eq_true, ite_true, ite_false, reduceIte, updM_same, updM_updM, ixN_0, ixN_1, ixN_2, ixN_3, ixN_m1, dJoin, dSplit, dUpper, diLst, diTup, diStr, dLc, dLcM, wipeD, dYes, List.length_singleton, drEq_str, drEq_int, drEq_bl, Bool.not_false, Bool.not_true, Option.bind_some, Bool.false_bne, Bool.true_bne, decide_true, decide_false]
  have hpw : CPow 10 60 := ⟨by decide, by decide, by decide⟩
  have e60 : (10 : Int) ^ (Int.toNat 60) = 1000000000000000000000000000000000000000000000000000000000000 := by decide
  refine ⟨hpw, p, 4, c, rfl, hp, by omega, by decide, by decide +kernel, fun r1 o1 h1 h1' p1 => ?_⟩
  dsimp only
  refine item_of h1 ?_ fun d hd => ?_
  · exact h1'
  have hd : ∃ b : Int, d = .int b ∧ 0 < b ∧ b ≤ 10 ^ 60 := by
    simp only [List.mem_cons, List.not_mem_nil, or_false] at hd
    rcases hd with rfl | rfl | rfl | rfl
    · exact ⟨_, rfl, by decide, by decide⟩
    · exact ⟨_, rfl, by decide, by decide⟩
    · exact ⟨_, rfl, by decide, by decide⟩
    · exact ⟨_, rfl, by rw [e60]; decide, by rw [e60]; decide⟩
  obtain ⟨b, rfl, hb0, hb1⟩ := hd
  have hbl : b.natAbs.log2 < 9000 := by
    have : b.natAbs < 2 ^ (8999 + 1) := by
      have : b.natAbs ≤ 10 ^ 60 := by omega
      exact Nat.lt_of_le_of_lt this (by decide +kernel)
    exact log2_lt this
  refine ⟨p, b, _, rfl, p1, by omega, hb0, hbl, fun r2 o2 h2 h2' p2 => ?_⟩
  refine ⟨p, 3, _, rfl, p2, by omega, by decide, by decide +kernel, fun r3 o3 h3 h3' p3 => ?_⟩
  dsimp only
  refine item_of h3 ?_ fun d hd => ?_
  · exact h3'
  have hd : ∃ w, d = .str w ∧ w ∈ endWords := by
    simp only [List.mem_cons, List.not_mem_nil, or_false] at hd
    rcases hd with rfl | rfl | rfl <;> exact ⟨_, rfl, by decide +kernel⟩
  obtain ⟨w, rfl, hw⟩ := hd
  refine ⟨p, 5, _, rfl, p3, by omega, by decide, by decide +kernel, fun r4 o4 h4 h4' p4 => ?_⟩
  have e4 : updM (updM (updM (updM M p o1) p o2) p o3) p o4 = updM M p o4 := by rw [updM_updM, updM_updM, updM_updM]
  rw [e4] at p4 ⊢
  have hn : r2.toNat < 10 ^ 60 := by omega
  have er : r2 = (r2.toNat : Int) := by omega
  dsimp only
  refine item_of h4 ?_ fun d hd => ?_
  · exact h4'
  have fin := fun e he => k e o4 he p4
  simp only [List.mem_cons, List.not_mem_nil, or_false] at hd
  rcases hd with rfl | rfl | rfl | rfl | rfl
  · exact fin .fresh trivial
  · rw [er]; exact fin (.ends r2.toNat w) ⟨hn, hw⟩
  · rw [er]; exact fin (.lost r2.toNat) hn
  · rw [er]; exact fin (.again r2.toNat) hn
  · rw [er]; exact fin (.up r2.toNat) hn
def sp__law_event_text (K : PySem.W.Frag) : DSp := fun ds M Q _ => ∃ e : Ev, ds = [dEv e] ∧ e.ok ∧ Q (.str e.txt) M
theorem len__law_event_text (K : PySem.W.Frag) : ∀ ds M Q E, sp__law_event_text K ds M Q E → ds.length = 1 := by
  rintro ds M Q E ⟨z, rfl, _⟩
  rfl
theorem txt1 (a : Str) : Txt.join sp [a] = a := by
  rw [show Txt.join sp [a] = Str.join sp [a] from StrLaws.glued_eq_join sp [a]]; rfl
theorem txt2 (a b : Str) : Txt.join sp [a, b] = a ++ sp ++ b := by
  rw [show Txt.join sp [a, b] = Str.join sp [a, b] from StrLaws.glued_eq_join sp [a, b]]; rfl
theorem txt3 (a b c : Str) : Txt.join sp [a, b, c] = a ++ sp ++ b ++ sp ++ c := by
  rw [show Txt.join sp [a, b, c] = Str.join sp [a, b, c] from StrLaws.glued_eq_join sp [a, b, c]]
  show a ++ sp ++ (b ++ sp ++ c) = _
  refine ext_tl ?_
  simp only [tl_append, List.append_assoc]
theorem sem__law_event_text (K : PySem.W.Frag) : ∀ ds M Q E, sp__law_event_text K ds M Q E → t__law_event_text K (sp__law_figures K) (fun cls fx _ M' => E cls fx M') { nx := fun _ M' => Q .non M', rt := Q } (startD N__law_event_text ds) M := by
  rintro ds M Q E ⟨e, rfl, he, k⟩
  have hb : ∀ n : Nat, n < 10 ^ 60 → (numS n).length ≤ 100 := fun n hn => num_len (k := 100) (by decide) (Nat.lt_trans hn (by decide +kernel))
  have hb2 : ∀ n : Nat, n < 10 ^ 60 → n < 10 ^ 100 := fun n hn => Nat.lt_trans hn (by decide +kernel)
  have two : ∀ (a : Str) (n : Nat), a.length ≤ 10 → n < 10 ^ 60 → Q (.str (a ++ sp ++ numS n)) M → t__law_event_text K (sp__law_figures K) (fun cls fx _ M' => E cls fx M') { nx := fun _ M' => Q .non M', rt := Q } (startD N__law_event_text [.tup [.str a, .int n]]) M := by
    intro a n ha hn k
    have h1 : (Str.ofString " ").length = 1 := by decide +kernel
    have h3 := hb n hn
    simp only [t__law_event_text, N__law_event_text, dVar, dC, dOp, dTest, drI0, drI, dIsN, dNotN, isNonD, dAnd, dOr, dNot, dAndV, dOrV, dNotV, dIf, dChain, dNil, dCons, dTup, dLst, dLstM, dFrz, dIxC, seqOf, lstOf, ownOf, dNoPart, dPart, dSl, dCB, drLen, drAbs, drInt, drIntS, drStr, dr2I, drTuple, drList, drListM, drBls, drSum, dgName, dgNil, dgCons, dgTup, dgLst, dgSub, dNext, dSeq, dDrop, dRet, dRetN, dIfS, dAsg, dPar, dCall, dRaise, drPlus, drIxA, drSl, dBM, drAppend, drExtend, dIsi, tyD, startD, List.map, List.length_cons, List.length_nil, List.replicate, List.append_nil, List.nil_append, List.cons_append, List.set, List.getElem?_cons_zero, List.getElem?_cons_succ, Nat.reduceAdd, Nat.reduceSub, Nat.reduceLeDiff, true_and, and_true, if_true, if_false, Bool.false_eq_true, ite_true, ite_false, reduceIte, updM_same, updM_updM, ixN_0, ixN_1, ixN_2, ixN_3, ixN_m1, dJoin, dSplit, dUpper, diLst, diTup, diStr, dLc, dLcM, wipeD, dYes, List.length_singleton, drEq_str, drEq_int, drEq_bl, Bool.not_false, Bool.not_true, Option.bind_some, Bool.false_bne, Bool.true_bne, decide_true, decide_false]
    simp only [show decide (((2 : Nat) : Int) = 1) = false from rfl, show decide (((2 : Nat) : Int) = 3) = false from rfl, Bool.false_eq_true, if_false]
    refine ⟨by omega, n, rfl, hb2 n hn, ?_, k⟩
    rw [Str.length_append]; omega
  cases e with
  | fresh =>
    simp only [dEv, t__law_event_text, N__law_event_text, dVar, dC, dOp, dTest, drI0, drI, dIsN, dNotN, isNonD, dAnd, dOr, dNot, dAndV, dOrV, dNotV, dIf, dChain, dNil, dCons, dTup, dLst, dLstM, dFrz, dIxC, seqOf, lstOf, ownOf, dNoPart, dPart, dSl, dCB, drLen, drAbs, drInt, drIntS, drStr, dr2I, drTuple, drList, drListM, drBls, drSum, dgName, dgNil, dgCons, dgTup, dgLst, dgSub, dNext, dSeq, dDrop, dRet, dRetN, dIfS, dAsg, dPar, dCall, dRaise, drPlus, drIxA, drSl, dBM, drAppend, drExtend, dIsi, tyD, startD, List.map, List.length_cons, List.length_nil, List.replicate, List.append_nil, List.nil_append, List.cons_append, List.set, List.getElem?_cons_zero, List.getElem?_cons_succ, Nat.reduceAdd, Nat.reduceSub, Nat.reduceLeDiff, true_and, and_true, if_true, if_false, Bool.false_eq_true, ite_true, ite_false, reduceIte, updM_same, updM_updM, ixN_0, ixN_1, ixN_2, ixN_3, ixN_m1, dJoin, dSplit, dUpper, diLst, diTup, diStr, dLc, dLcM, wipeD, dYes, List.length_singleton, drEq_str, drEq_int, drEq_bl, Bool.not_false, Bool.not_true, Option.bind_some, Bool.false_bne, Bool.true_bne, decide_true, decide_false]
    simp only [show decide (((1 : Nat) : Int) = 1) = true from rfl, if_true]
    exact k
  | ends n w =>
    have h1 : (Str.ofString " ").length = 1 := by decide +kernel
    have h2 : (Str.ofString "ends").length = 4 := by decide +kernel
    have h3 := hb n he.1
    have h4 : w.length ≤ 10 := by
      have := he.2
      simp [endWords] at this
      rcases this with rfl | rfl | rfl <;> decide +kernel
    simp only [dEv, t__law_event_text, N__law_event_text, dVar, dC, dOp, dTest, drI0, drI, dIsN, dNotN, isNonD, dAnd, dOr, dNot, dAndV, dOrV, dNotV, dIf, dChain, dNil, dCons, dTup, dLst, dLstM, dFrz, dIxC, seqOf, lstOf, ownOf, dNoPart, dPart, dSl, dCB, drLen, drAbs, drInt, drIntS, drStr, dr2I, drTuple, drList, drListM, drBls, drSum, dgName, dgNil, dgCons, dgTup, dgLst, dgSub, dNext, dSeq, dDrop, dRet, dRetN, dIfS, dAsg, dPar, dCall, dRaise, drPlus, drIxA, drSl, dBM, drAppend, drExtend, dIsi, tyD, startD, List.map, List.length_cons, List.length_nil, List.replicate, List.append_nil, List.nil_append, List.cons_append, List.set, List.getElem?_cons_zero, List.getElem?_cons_succ, Nat.reduceAdd, Nat.reduceSub, Nat.reduceLeDiff, true_and, and_true, if_true, if_false, Bool.false_eq_true, ite_true, ite_false, reduceIte, updM_same, updM_updM, ixN_0, ixN_1, ixN_2, ixN_3, ixN_m1, dJoin, dSplit, dUpper, diLst, diTup, diStr, dLc, dLcM, wipeD, dYes, List.length_singleton, drEq_str, drEq_int, drEq_bl, Bool.not_false, Bool.not_true, Option.bind_some, Bool.false_bne, Bool.true_bne, decide_true, decide_false]
    simp only [show decide (((3 : Nat) : Int) = 1) = false from rfl, show decide (((3 : Nat) : Int) = 3) = true from rfl, Bool.false_eq_true, if_false, if_true]
    have k' : Q (.str (Txt.join sp ["ends", numS n, w])) M := k
    rw [txt3] at k'
    refine ⟨by omega, n, rfl, hb2 n he.1, ?_, ?_, ?_, k'⟩ <;> simp only [Str.length_append] <;> omega
  | lost n =>
    have k' : Q (.str (Txt.join sp ["lost", numS n])) M := k
    rw [txt2] at k'
    exact two _ n (by decide +kernel) he k'
  | again n =>
    have k' : Q (.str (Txt.join sp ["again", numS n])) M := k
    rw [txt2] at k'
    exact two _ n (by decide +kernel) he k'
  | up n =>
    have k' : Q (.str (Txt.join sp ["up", numS n])) M := k
    rw [txt2] at k'
    exact two _ n (by decide +kernel) he k'
/-! ### refusing -/
def sp__law_refused (K : PySem.W.Frag) : DSp := fun ds M Q _ => ∃ d, ds = [d] ∧ ((∃ z, d = .str z ∧ z.length ≤ 1000 ∧ okS z ∧ parse z = none) ∨ (∃ T, tyD M d = some T ∧ kitB T "str" = some false)) ∧ ∀ a o, M a = none → Q (.bl true) (updM M a o)
theorem len__law_refused (K : PySem.W.Frag) : ∀ ds M Q E, sp__law_refused K ds M Q E → ds.length = 1 := by
  rintro ds M Q E ⟨z, rfl, _⟩
  rfl
theorem sem__law_refused (K : PySem.W.Frag) (hx : PySem.W.exmOne K (eNT K) (eNT K) = some true) : ∀ ds M Q E, sp__law_refused K ds M Q E → t__law_refused K (sp_read_event K) (fun cls fx _ M' => E cls fx M') { nx := fun _ M' => Q .non M', rt := Q } (startD N__law_refused ds) M := by
  rintro ds M Q E ⟨d, rfl, hd, k⟩
  simp only [t__law_refused, N__law_refused, dVar, dC, dOp, dTest, drI0, drI, dIsN, dNotN, isNonD, dAnd, dOr, dNot, dAndV, dOrV, dNotV, dIf, dChain, dNil, dCons, dTup, dLst, dLstM, dFrz, dIxC, seqOf, lstOf, ownOf, dNoPart, dPart, dSl, dCB, drLen, drAbs, drInt, drIntS, drStr, dr2I, drTuple, drList, drListM, drBls, drSum, dgName, dgNil, dgCons, dgTup, dgLst, dgSub, dNext, dSeq, dDrop, dRet, dRetN, dIfS, dAsg, dPar, dCall, dRaise, drPlus, drIxA, drSl, dBM, drAppend, drExtend, dIsi, tyD, startD, List.map, List.length_cons, List.length_nil, List.replicate, List.append_nil, List.nil_append, List.cons_append, List.set, List.getElem?_cons_zero, List.getElem?_cons_succ, Nat.reduceAdd, Nat.reduceSub, Nat.reduceLeDiff, true_and, and_true, if_true, if_false, Bool.false_eq_true, ite_true, ite_false, reduceIte, updM_same, updM_updM, ixN_0, ixN_1, ixN_2, ixN_3, ixN_m1, dJoin, dSplit, dUpper, diLst, diTup, diStr, dLc, dLcM, wipeD, dYes, List.length_singleton, drEq_str, drEq_int, drEq_bl, Bool.not_false, Bool.not_true, Option.bind_some, Bool.false_bne, Bool.true_bne, decide_true, decide_false, dTry]
  intro a ha
  have go : (fun M2 : MH => tyL (.ref a) M2 ∧ match M2 a with | some (MO.lst l) => l.length < 16777216 ∧ drEq false (.ref a) (.lst [.bl true]) (updM M2 a (.lst (l ++ [.bl true]))) Q | _ => False) (updM M a (.lst [])) := by
    refine ⟨⟨[], ?_⟩, ?_⟩
    · show lstOf _ (.ref a) = _
      simp only [lstOf, updM_same]
    · simp only [updM_same, updM_updM]
      refine ⟨by decide, ?_⟩
      rw [drEq_fin (e1 := .lst [.bl true]) (e2 := .lst [.bl true]) (by simp only [res, updM_same]; rfl) rfl ⟨by decide, trivial, trivial⟩ ⟨by decide, trivial, trivial⟩]
      exact k a _ ha
  rcases hd with ⟨z, rfl, h1, h2, h3⟩ | ⟨T, h1, h2⟩
  · exact ⟨_, rfl, .inl ⟨z, rfl, h1, h2, fun e he => by rw [h3] at he; (cases he), fun _ => ⟨true, hx, fun _ => go, fun h => nomatch h⟩⟩⟩
  · refine ⟨_, rfl, .inr ⟨⟨T, ?_, h2⟩, ⟨true, hx, fun _ => go, fun h => nomatch h⟩⟩⟩
    cases d with
    | ref b =>
      by_cases hb : b = a
      · subst hb
        rw [tyD, ha] at h1
        cases h1
      · rw [tyD] at h1 ⊢
        rw [updM_ne hb]; exact h1
    | _ => exact h1
/-! ### what is amiss -/
def sp__law_amiss (K : PySem.W.Frag) : DSp := fun ds M Q _ => ∃ (e : Ev) (p : Addr) (c : Nat), ds = [.str e.txt, .ref p] ∧ e.ok ∧ PoolIs M p c ∧ c < 900000 ∧ ∀ (z : Str) (o : MO), bad z → PoolIs (updM M p o) p (c + 1) → Q (.str z) (updM M p o)
theorem len__law_amiss (K : PySem.W.Frag) : ∀ ds M Q E, sp__law_amiss K ds M Q E → ds.length = 2 := by
  rintro ds M Q E ⟨e, p, c, rfl, _⟩
  rfl
theorem sem__law_amiss (K : PySem.W.Frag) : ∀ ds M Q E, sp__law_amiss K ds M Q E → t__law_amiss K (sp__law_next K) (fun cls fx _ M' => E cls fx M') { nx := fun _ M' => Q .non M', rt := Q } (startD N__law_amiss ds) M := by
  rintro ds M Q E ⟨e, p, c, rfl, he, hp, hc, k⟩
  have hl := (txt_fit he).1
  have a1 : ("" : Str).length = 0 := by decide +kernel
  have a2 : (" " : Str).length = 1 := by decide +kernel
  have a3 : (" 1" : Str).length = 2 := by decide +kernel
  have a4 : ("  " : Str).length = 2 := by decide +kernel
  have a5 : ("\n" : Str).length = 1 := by decide +kernel
  have m1 : 0 < ("0" : Str).length ∧ ("0" : Str).length ≤ 1000 ∧ (mulS "0" (Int.toNat 60)).length ≤ 16777216 := by decide +kernel
  have m2 : ("lost 1" : Str).length + (mulS "0" (Int.toNat 60)).length ≤ 16777216 := by decide +kernel
  have m3 : ("ends 1" : Str).length + (mulS "0" (Int.toNat 60)).length ≤ 16777216 := by decide +kernel
  have m4 : (("ends 1" : Str) ++ (mulS "0" (Int.toNat 60))).length + (" bad" : Str).length ≤ 16777216 := by decide +kernel
  unfold t__law_amiss
  refine seqE fun NX hNX => ?_
  simp only [N__law_amiss, dVar, dC, dOp, dTest, drI0, drI, dIsN, dNotN, isNonD, dAnd, dOr, dNot, dAndV, dOrV, dNotV, dIf, dChain, dNil, dCons, dTup, dLst, dLstM, dFrz, dIxC, seqOf, lstOf, ownOf, dNoPart, dPart, dSl, dCB, drLen, drAbs, drInt, drIntS, drStr, dr2I, drTuple, drList, drListM, drBls, drSum, dgName, dgNil, dgCons, dgTup, dgLst, dgSub, dNext, dSeq, dDrop, dRet, dRetN, dIfS, dAsg, dPar, dCall, dRaise, drPlus, drIxA, drSl, dBM, drAppend, drExtend, dIsi, tyD, startD, List.map, List.length_cons, List.length_nil, List.replicate, List.append_nil, List.nil_append, List.cons_append, List.set, List.getElem?_cons_zero, List.getElem?_cons_succ, Nat.reduceAdd, Nat.reduceSub, Nat.reduceLeDiff, true_and, and_true, if_true, if_false, Bool.false_eq_true, ite_true, ite_false, reduceIte, updM_same, updM_updM, ixN_0, ixN_1, ixN_2, ixN_3, ixN_m1, dJoin, dSplit, dUpper, diLst, diTup, diStr, dLc, dLcM, wipeD, dYes, List.length_singleton, drEq_str, drEq_int, drEq_bl, Bool.not_false, Bool.not_true, Option.bind_some, Bool.false_bne, Bool.true_bne, decide_true, decide_false, dRepl, lstOf]
  refine ⟨by rw [show (Str.ofString " ").length = 1 from a2]; omega, by rw [show (Str.ofString " ").length = 1 from a2]; omega, by rw [show (Str.ofString " 1").length = 2 from a3]; omega, by rw [show (Str.ofString "  ").length = 2 from a4]; omega, by omega, ?_⟩
  refine (hNX _ _).mpr ?_
  have lit := bad_lit
  have g1 : ∀ d ∈ [D.str (e.txt ++ Str.ofString " "), D.str (Str.ofString " " ++ e.txt), D.str (e.txt ++ Str.ofString " 1"), D.str (Txt.replace e.txt (Str.ofString " ") (Str.ofString "  ")), D.str (Txt.upper e.txt), D.str (Str.ofString ""), D.str (Str.ofString "fresh 0"), D.str (Str.ofString "ends 1"), D.str (Str.ofString "lost")], ∃ z, d = .str z ∧ bad z := by
    intro d hd
    simp only [List.mem_cons, List.not_mem_nil, or_false] at hd
    rcases hd with rfl | rfl | rfl | rfl | rfl | rfl | rfl | rfl | rfl
    · exact ⟨_, rfl, bad_snoc he (.inl rfl) (by rw [tl_append]; rfl)⟩
    · exact ⟨_, rfl, bad_cons he (by rw [tl_append]; rfl)⟩
    · exact ⟨_, rfl, bad_snoc he (.inr rfl) (by rw [tl_append]; rfl)⟩
    · exact ⟨_, rfl, bad_repl he⟩
    · exact ⟨_, rfl, bad_upper he⟩
    all_goals exact ⟨_, rfl, lit _ (by simp)⟩
  have n1 : ([D.str (e.txt ++ Str.ofString " "), D.str (Str.ofString " " ++ e.txt), D.str (e.txt ++ Str.ofString " 1"), D.str (Txt.replace e.txt (Str.ofString " ") (Str.ofString "  ")), D.str (Txt.upper e.txt), D.str (Str.ofString ""), D.str (Str.ofString "fresh 0"), D.str (Str.ofString "ends 1"), D.str (Str.ofString "lost")]).length = 9 := rfl
  revert g1 n1
  generalize [D.str (e.txt ++ Str.ofString " "), D.str (Str.ofString " " ++ e.txt), D.str (e.txt ++ Str.ofString " 1"), D.str (Txt.replace e.txt (Str.ofString " ") (Str.ofString "  ")), D.str (Txt.upper e.txt), D.str (Str.ofString ""), D.str (Str.ofString "fresh 0"), D.str (Str.ofString "ends 1"), D.str (Str.ofString "lost")] = A
  intro g1 n1
  clear hNX NX
  refine seqE fun NX hNX => ?_
  simp only [dVar, dC, dOp, dTest, drI0, drI, dIsN, dNotN, isNonD, dAnd, dOr, dNot, dAndV, dOrV, dNotV, dIf, dChain, dNil, dCons, dTup, dLst, dLstM, dFrz, dIxC, seqOf, lstOf, ownOf, dNoPart, dPart, dSl, dCB, drLen, drAbs, drInt, drIntS, drStr, dr2I, drTuple, drList, drListM, drBls, drSum, dgName, dgNil, dgCons, dgTup, dgLst, dgSub, dNext, dSeq, dDrop, dRet, dRetN, dIfS, dAsg, dPar, dCall, dRaise, drPlus, drIxA, drSl, dBM, drAppend, drExtend, dIsi, tyD, startD, List.map, List.length_cons, List.length_nil, List.replicate, List.append_nil, List.nil_append, List.cons_append, List.set, List.getElem?_cons_zero, List.getElem?_cons_succ, Nat.reduceAdd, Nat.reduceSub, Nat.reduceLeDiff, true_and, and_true, if_true, if_false, Bool.false_eq_true, ite_true, ite_false, reduceIte, updM_same, updM_updM, ixN_0, ixN_1, ixN_2, ixN_3, ixN_m1, dJoin, dSplit, dUpper, diLst, diTup, diStr, dLc, dLcM, wipeD, dYes, List.length_singleton, drEq_str, drEq_int, drEq_bl, Bool.not_false, Bool.not_true, Option.bind_some, Bool.false_bne, Bool.true_bne, decide_true, decide_false, lstOf]
  refine ⟨by rw [n1]; decide, ?_⟩
  refine (hNX _ _).mpr ?_
  have g2 : ∀ d ∈ A ++ [D.str (Str.ofString "ends well 1"), D.str (Str.ofString "ends 1 good"), D.str (Str.ofString "ends 1 bad 1"), D.str (Str.ofString "lost -1"), D.str (Str.ofString "lost 01"), D.str (Str.ofString "again -0"), D.str (Str.ofString "up 1 1"), D.str (Str.ofString "up x")], ∃ z, d = .str z ∧ bad z := by
    intro d hd
    rcases List.mem_append.mp hd with hd | hd
    · exact g1 d hd
    · simp only [List.mem_cons, List.not_mem_nil, or_false] at hd
      rcases hd with rfl | rfl | rfl | rfl | rfl | rfl | rfl | rfl
      all_goals exact ⟨_, rfl, lit _ (by simp)⟩
  have n2 : (A ++ [D.str (Str.ofString "ends well 1"), D.str (Str.ofString "ends 1 good"), D.str (Str.ofString "ends 1 bad 1"), D.str (Str.ofString "lost -1"), D.str (Str.ofString "lost 01"), D.str (Str.ofString "again -0"), D.str (Str.ofString "up 1 1"), D.str (Str.ofString "up x")]).length = 17 := by rw [List.length_append, n1]; rfl
  revert g2 n2
  generalize A ++ [D.str (Str.ofString "ends well 1"), D.str (Str.ofString "ends 1 good"), D.str (Str.ofString "ends 1 bad 1"), D.str (Str.ofString "lost -1"), D.str (Str.ofString "lost 01"), D.str (Str.ofString "again -0"), D.str (Str.ofString "up 1 1"), D.str (Str.ofString "up x")] = B
  intro g2 n2
  clear hNX NX
  refine seqE fun NX hNX => ?_
  simp only [dVar, dC, dOp, dTest, drI0, drI, dIsN, dNotN, isNonD, dAnd, dOr, dNot, dAndV, dOrV, dNotV, dIf, dChain, dNil, dCons, dTup, dLst, dLstM, dFrz, dIxC, seqOf, lstOf, ownOf, dNoPart, dPart, dSl, dCB, drLen, drAbs, drInt, drIntS, drStr, dr2I, drTuple, drList, drListM, drBls, drSum, dgName, dgNil, dgCons, dgTup, dgLst, dgSub, dNext, dSeq, dDrop, dRet, dRetN, dIfS, dAsg, dPar, dCall, dRaise, drPlus, drIxA, drSl, dBM, drAppend, drExtend, dIsi, tyD, startD, List.map, List.length_cons, List.length_nil, List.replicate, List.append_nil, List.nil_append, List.cons_append, List.set, List.getElem?_cons_zero, List.getElem?_cons_succ, Nat.reduceAdd, Nat.reduceSub, Nat.reduceLeDiff, true_and, and_true, if_true, if_false, Bool.false_eq_true, ite_true, ite_false, reduceIte, updM_same, updM_updM, ixN_0, ixN_1, ixN_2, ixN_3, ixN_m1, dJoin, dSplit, dUpper, diLst, diTup, diStr, dLc, dLcM, wipeD, dYes, List.length_singleton, drEq_str, drEq_int, drEq_bl, Bool.not_false, Bool.not_true, Option.bind_some, Bool.false_bne, Bool.true_bne, decide_true, decide_false, lstOf, drMulS]
  refine ⟨⟨by decide, by decide, m1⟩, m2, ⟨by decide, by decide, m1⟩, m3, m4, by rw [show (Str.ofString "\n").length = 1 from a5]; omega, by omega, ?_⟩
  refine (hNX _ _).mpr ?_
  have g3 : ∀ d ∈ B ++ [D.str (Str.ofString "lost 1" ++ mulS (Str.ofString "0") (Int.toNat 60)), D.str (Str.ofString "ends 1" ++ mulS (Str.ofString "0") (Int.toNat 60) ++ Str.ofString " bad"), D.str (Str.ofString "again +1"), D.str (Str.ofString "done 1"), D.str (Str.ofString "lost 1_0"), D.str (e.txt ++ Str.ofString "\n")], ∃ z, d = .str z ∧ bad z := by
    intro d hd
    rcases List.mem_append.mp hd with hd | hd
    · exact g2 d hd
    · simp only [List.mem_cons, List.not_mem_nil, or_false] at hd
      rcases hd with rfl | rfl | rfl | rfl | rfl | rfl
      · exact ⟨_, rfl, lit _ (by simp [show (Int.toNat 60) = 60 from rfl])⟩
      · exact ⟨_, rfl, lit _ (by simp [show (Int.toNat 60) = 60 from rfl])⟩
      · exact ⟨_, rfl, lit _ (by simp)⟩
      · exact ⟨_, rfl, lit _ (by simp)⟩
      · exact ⟨_, rfl, lit _ (by simp)⟩
      · exact ⟨_, rfl, bad_line he (by rw [tl_append]; rfl)⟩
  have n3 : (B ++ [D.str (Str.ofString "lost 1" ++ mulS (Str.ofString "0") (Int.toNat 60)), D.str (Str.ofString "ends 1" ++ mulS (Str.ofString "0") (Int.toNat 60) ++ Str.ofString " bad"), D.str (Str.ofString "again +1"), D.str (Str.ofString "done 1"), D.str (Str.ofString "lost 1_0"), D.str (e.txt ++ Str.ofString "\n")]).length = 23 := by rw [List.length_append, n2]; rfl
  revert g3 n3
  generalize B ++ [D.str (Str.ofString "lost 1" ++ mulS (Str.ofString "0") (Int.toNat 60)), D.str (Str.ofString "ends 1" ++ mulS (Str.ofString "0") (Int.toNat 60) ++ Str.ofString " bad"), D.str (Str.ofString "again +1"), D.str (Str.ofString "done 1"), D.str (Str.ofString "lost 1_0"), D.str (e.txt ++ Str.ofString "\n")] = C
  intro g3 n3
  simp only [dVar, dC, dOp, dTest, drI0, drI, dIsN, dNotN, isNonD, dAnd, dOr, dNot, dAndV, dOrV, dNotV, dIf, dChain, dNil, dCons, dTup, dLst, dLstM, dFrz, dIxC, seqOf, lstOf, ownOf, dNoPart, dPart, dSl, dCB, drLen, drAbs, drInt, drIntS, drStr, dr2I, drTuple, drList, drListM, drBls, drSum, dgName, dgNil, dgCons, dgTup, dgLst, dgSub, dNext, dSeq, dDrop, dRet, dRetN, dIfS, dAsg, dPar, dCall, dRaise, drPlus, drIxA, drSl, dBM, drAppend, drExtend, dIsi, tyD, startD, List.map, List.length_cons, List.length_nil, List.replicate, List.append_nil, List.nil_append, List.cons_append, List.set, List.getElem?_cons_zero, List.getElem?_cons_succ, Nat.reduceAdd, Nat.reduceSub, Nat.reduceLeDiff, true_and, and_true, if_true, if_false, Bool.false_eq_true, ite_true, ite_false, reduceIte, updM_same, updM_updM, ixN_0, ixN_1, ixN_2, ixN_3, ixN_m1, dJoin, dSplit, dUpper, diLst, diTup, diStr, dLc, dLcM, wipeD, dYes, List.length_singleton, drEq_str, drEq_int, drEq_bl, Bool.not_false, Bool.not_true, Option.bind_some, Bool.false_bne, Bool.true_bne, decide_true, decide_false, lstOf, n3]
  refine ⟨p, 23, c, rfl, hp, by omega, by decide, by decide +kernel, fun r o h0 h1 hq => ?_⟩
  dsimp only
  refine item_of h0 (by rw [n3]; exact h1) fun d hd => ?_
  obtain ⟨z, rfl, hz⟩ := g3 d hd
  exact k z o hz hq
/-! ### the law -/
def sp_law (K : PySem.W.Frag) : DSp := spLawD
theorem len_law (K : PySem.W.Frag) : ∀ ds M Q E, sp_law K ds M Q E → ds.length = 1 := by
  rintro ds M Q E ⟨z, rfl, _⟩
  rfl
theorem fin_ev {e : Ev} (h : e.ok) : finD 60 (dEv e) := by
  have lit : okS "fresh" ∧ okS "ends" ∧ okS "lost" ∧ okS "again" ∧ okS "up" := by decide +kernel
  cases e with
  | fresh => exact ⟨by decide, lit.1, trivial⟩
  | ends n w =>
    refine ⟨by decide, lit.2.1, trivial, ?_, trivial⟩
    have := h.2
    simp [endWords] at this
    show okS w
    rcases this with rfl | rfl | rfl <;> decide +kernel
  | lost n => exact ⟨by decide, lit.2.2.1, trivial, trivial⟩
  | again n => exact ⟨by decide, lit.2.2.2.1, trivial, trivial⟩
  | up n => exact ⟨by decide, lit.2.2.2.2, trivial, trivial⟩
theorem res_ev (M : MH) (e : Ev) : res M (dEv e) = dEv e := by cases e <;> rfl
theorem ne_ev {e : Ev} (h : e.ok) {M : MH} {Q : DK} (k : Q (.bl false) M) : drEq true (dEv e) (dEv e) M Q := by
  rw [drEq_fin (res_ev M e) (res_ev M e) (fin_ev h) (fin_ev h), eqD_refl' (fin_ev h)]
  exact k
theorem read_ok {K : PySem.W.Frag} {e : Ev} (h : e.ok) {M : MH} {Q : DK} {E : DX} (k : Q (dEv e) M) : sp_read_event K [.str e.txt] M Q E := by
  refine ⟨_, rfl, .inl ⟨_, rfl, (txt_fit h).1, (txt_fit h).2, fun e' he' => ?_, fun hn => ?_⟩⟩
  · rw [parse_txt e h] at he'
    cases he'
    exact k
  · rw [parse_txt e h] at hn
    cases hn
theorem sem_law (K : PySem.W.Frag) : ∀ ds M Q E, sp_law K ds M Q E → t_law K (sp_read_event K) (sp__law_event_text K) (sp_event_text K) (sp__law_pool K) (sp__law_event K) (sp__law_next K) (sp__law_amiss K) (sp__law_refused K) (fun cls fx _ M' => E cls fx M') { nx := fun _ M' => Q .non M', rt := Q } (startD N_law ds) M := by
  rintro ds M Q E ⟨ns, rfl, hl, _, k⟩
  unfold t_law
  refine seqE fun NX hNX => ?_
  refine forE fun R hR => ?_
  simp only [N_law, dVar, dC, dOp, dTest, drI0, drI, dIsN, dNotN, isNonD, dAnd, dOr, dNot, dAndV, dOrV, dNotV, dIf, dChain, dNil, dCons, dTup, dLst, dLstM, dFrz, dIxC, seqOf, lstOf, ownOf, dNoPart, dPart, dSl, dCB, drLen, drAbs, drInt, drIntS, drStr, dr2I, drTuple, drList, drListM, drBls, drSum, dgName, dgNil, dgCons, dgTup, dgLst, dgSub, dNext, dSeq, dDrop, dRet, dRetN, dIfS, dAsg, dPar, dCall, dRaise, drPlus, drIxA, drSl, dBM, drAppend, drExtend, dIsi, tyD, startD, List.map, List.length_cons, List.length_nil, List.replicate, List.append_nil, List.nil_append, List.cons_append, List.set, List.getElem?_cons_zero, List.getElem?_cons_succ, Nat.reduceAdd, Nat.reduceSub, Nat.reduceLeDiff, true_and, and_true, if_true, if_false, Bool.false_eq_true, ite_true, ite_false, reduceIte, updM_same, updM_updM, ixN_0, ixN_1, ixN_2, ixN_3, ixN_m1, dJoin, dSplit, dUpper, diLst, diTup, diStr, dLc, dLcM, wipeD, dYes, List.length_singleton, drEq_str, drEq_int, drEq_bl, Bool.not_false, Bool.not_true, Option.bind_some, Bool.false_bne, Bool.true_bne, decide_true, decide_false, lstOf]
  have hpw : CPow 10 60 := ⟨by decide, by decide, by decide⟩
  have e60 : (10 : Int) ^ (Int.toNat 60) - 1 = ((10 ^ 60 - 1 : Nat) : Int) := by decide
  refine ⟨hpw, fun _ => ?_⟩
  rw [e60]
  refine hR _ _ _ ?_
  refine for_run ([.lost (10 ^ 60 - 1), .ends 0 "bad", .fresh] : List Ev) dEv rfl (fun i ρ M' => M' = M ∧ ∃ o, ρ = [some (.scr (ns.map D.int)), o, none, none, none, none, none]) ⟨rfl, none, rfl⟩ (fun _ _ _ _ => trivial) ?_ ?_
  · rintro i e ρ M' he ⟨rfl, o, rfl⟩
    have hok : e.ok := by
      have hm := List.mem_of_getElem? he
      simp only [List.mem_cons, List.not_mem_nil, or_false] at hm
      rcases hm with rfl | rfl | rfl
      · show (10 ^ 60 - 1 : Nat) < 10 ^ 60; decide
      · exact ⟨by decide, by simp [endWords]⟩
      · trivial
    simp only [dVar, dC, dOp, dTest, drI0, drI, dIsN, dNotN, isNonD, dAnd, dOr, dNot, dAndV, dOrV, dNotV, dIf, dChain, dNil, dCons, dTup, dLst, dLstM, dFrz, dIxC, seqOf, lstOf, ownOf, dNoPart, dPart, dSl, dCB, drLen, drAbs, drInt, drIntS, drStr, dr2I, drTuple, drList, drListM, drBls, drSum, dgName, dgNil, dgCons, dgTup, dgLst, dgSub, dNext, dSeq, dDrop, dRet, dRetN, dIfS, dAsg, dPar, dCall, dRaise, drPlus, drIxA, drSl, dBM, drAppend, drExtend, dIsi, tyD, startD, List.map, List.length_cons, List.length_nil, List.replicate, List.append_nil, List.nil_append, List.cons_append, List.set, List.getElem?_cons_zero, List.getElem?_cons_succ, Nat.reduceAdd, Nat.reduceSub, Nat.reduceLeDiff, true_and, and_true, if_true, if_false, Bool.false_eq_true, ite_true, ite_false, reduceIte, updM_same, updM_updM, ixN_0, ixN_1, ixN_2, ixN_3, ixN_m1, dJoin, dSplit, dUpper, diLst, diTup, diStr, dLc, dLcM, wipeD, dYes, List.length_singleton, drEq_str, drEq_int, drEq_bl, Bool.not_false, Bool.not_true, Option.bind_some, Bool.false_bne, Bool.true_bne, decide_true, decide_false]
    refine ⟨e, rfl, hok, read_ok hok (ne_ev hok ?_)⟩
    dsimp only
    refine ⟨e, rfl, hok, e, rfl, hok, ?_⟩
    simp only [dVar, dC, dOp, dTest, drI0, drI, dIsN, dNotN, isNonD, dAnd, dOr, dNot, dAndV, dOrV, dNotV, dIf, dChain, dNil, dCons, dTup, dLst, dLstM, dFrz, dIxC, seqOf, lstOf, ownOf, dNoPart, dPart, dSl, dCB, drLen, drAbs, drInt, drIntS, drStr, dr2I, drTuple, drList, drListM, drBls, drSum, dgName, dgNil, dgCons, dgTup, dgLst, dgSub, dNext, dSeq, dDrop, dRet, dRetN, dIfS, dAsg, dPar, dCall, dRaise, drPlus, drIxA, drSl, dBM, drAppend, drExtend, dIsi, tyD, startD, List.map, List.length_cons, List.length_nil, List.replicate, List.append_nil, List.nil_append, List.cons_append, List.set, List.getElem?_cons_zero, List.getElem?_cons_succ, Nat.reduceAdd, Nat.reduceSub, Nat.reduceLeDiff, true_and, and_true, if_true, if_false, Bool.false_eq_true, ite_true, ite_false, reduceIte, updM_same, updM_updM, ixN_0, ixN_1, ixN_2, ixN_3, ixN_m1, dJoin, dSplit, dUpper, diLst, diTup, diStr, dLc, dLcM, wipeD, dYes, List.length_singleton, drEq_str, drEq_int, drEq_bl, Bool.not_false, Bool.not_true, Option.bind_some, Bool.false_bne, Bool.true_bne, decide_true, decide_false]
    refine ⟨_, rfl⟩
  rintro ρ M' ⟨rfl, o, rfl⟩
  refine (hNX _ _).mpr ?_
  clear hR R hNX NX
  refine seqE fun NX hNX => ?_
  refine forE fun R hR => ?_
  simp only [dVar, dC, dOp, dTest, drI0, drI, dIsN, dNotN, isNonD, dAnd, dOr, dNot, dAndV, dOrV, dNotV, dIf, dChain, dNil, dCons, dTup, dLst, dLstM, dFrz, dIxC, seqOf, lstOf, ownOf, dNoPart, dPart, dSl, dCB, drLen, drAbs, drInt, drIntS, drStr, dr2I, drTuple, drList, drListM, drBls, drSum, dgName, dgNil, dgCons, dgTup, dgLst, dgSub, dNext, dSeq, dDrop, dRet, dRetN, dIfS, dAsg, dPar, dCall, dRaise, drPlus, drIxA, drSl, dBM, drAppend, drExtend, dIsi, tyD, startD, List.map, List.length_cons, List.length_nil, List.replicate, List.append_nil, List.nil_append, List.cons_append, List.set, List.getElem?_cons_zero, List.getElem?_cons_succ, Nat.reduceAdd, Nat.reduceSub, Nat.reduceLeDiff, true_and, and_true, if_true, if_false, Bool.false_eq_true, ite_true, ite_false, reduceIte, updM_same, updM_updM, ixN_0, ixN_1, ixN_2, ixN_3, ixN_m1, dJoin, dSplit, dUpper, diLst, diTup, diStr, dLc, dLcM, wipeD, dYes, List.length_singleton, drEq_str, drEq_int, drEq_bl, Bool.not_false, Bool.not_true, Option.bind_some, Bool.false_bne, Bool.true_bne, decide_true, decide_false, lstOf]
  refine ⟨by simp; omega, fun _ => ?_⟩
  refine hR _ _ _ ?_
  refine for_run (0 :: ns) D.int rfl (fun i ρ M' => ∃ o1 o2 o3 o4 o5 o6, ρ = [some (.scr (ns.map D.int)), o1, o2, o3, o4, o5, o6]) ⟨_, _, _, _, _, _, rfl⟩ (fun _ _ _ _ => trivial) ?_ ?_
  · rintro i c ρ M2 hc ⟨o1, o2, o3, o4, o5, o6, rfl⟩
    simp only [dVar, dC, dOp, dTest, drI0, drI, dIsN, dNotN, isNonD, dAnd, dOr, dNot, dAndV, dOrV, dNotV, dIf, dChain, dNil, dCons, dTup, dLst, dLstM, dFrz, dIxC, seqOf, lstOf, ownOf, dNoPart, dPart, dSl, dCB, drLen, drAbs, drInt, drIntS, drStr, dr2I, drTuple, drList, drListM, drBls, drSum, dgName, dgNil, dgCons, dgTup, dgLst, dgSub, dNext, dSeq, dDrop, dRet, dRetN, dIfS, dAsg, dPar, dCall, dRaise, drPlus, drIxA, drSl, dBM, drAppend, drExtend, dIsi, tyD, startD, List.map, List.length_cons, List.length_nil, List.replicate, List.append_nil, List.nil_append, List.cons_append, List.set, List.getElem?_cons_zero, List.getElem?_cons_succ, Nat.reduceAdd, Nat.reduceSub, Nat.reduceLeDiff, true_and, and_true, if_true, if_false, Bool.false_eq_true, ite_true, ite_false, reduceIte, updM_same, updM_updM, ixN_0, ixN_1, ixN_2, ixN_3, ixN_m1, dJoin, dSplit, dUpper, diLst, diTup, diStr, dLc, dLcM, wipeD, dYes, List.length_singleton, drEq_str, drEq_int, drEq_bl, Bool.not_false, Bool.not_true, Option.bind_some, Bool.false_bne, Bool.true_bne, decide_true, decide_false]
    refine ⟨c, rfl, fun p o hp hpool => ⟨p, 0, rfl, hpool, by decide, fun e o' hok hp2 => ⟨e, rfl, hok, ?_⟩⟩⟩
    refine ⟨e, rfl, hok, ?_⟩
    simp only [dVar, dC, dOp, dTest, drI0, drI, dIsN, dNotN, isNonD, dAnd, dOr, dNot, dAndV, dOrV, dNotV, dIf, dChain, dNil, dCons, dTup, dLst, dLstM, dFrz, dIxC, seqOf, lstOf, ownOf, dNoPart, dPart, dSl, dCB, drLen, drAbs, drInt, drIntS, drStr, dr2I, drTuple, drList, drListM, drBls, drSum, dgName, dgNil, dgCons, dgTup, dgLst, dgSub, dNext, dSeq, dDrop, dRet, dRetN, dIfS, dAsg, dPar, dCall, dRaise, drPlus, drIxA, drSl, dBM, drAppend, drExtend, dIsi, tyD, startD, List.map, List.length_cons, List.length_nil, List.replicate, List.append_nil, List.nil_append, List.cons_append, List.set, List.getElem?_cons_zero, List.getElem?_cons_succ, Nat.reduceAdd, Nat.reduceSub, Nat.reduceLeDiff, true_and, and_true, if_true, if_false, Bool.false_eq_true, ite_true, ite_false, reduceIte, updM_same, updM_updM, ixN_0, ixN_1, ixN_2, ixN_3, ixN_m1, dJoin, dSplit, dUpper, diLst, diTup, diStr, dLc, dLcM, wipeD, dYes, List.length_singleton, drEq_str, drEq_int, drEq_bl, Bool.not_false, Bool.not_true, Option.bind_some, Bool.false_bne, Bool.true_bne, decide_true, decide_false, bne_self_eq_false] at hp2 ⊢
    refine read_ok hok ?_
    refine ne_ev hok ?_
    simp only [dVar, dC, dOp, dTest, drI0, drI, dIsN, dNotN, isNonD, dAnd, dOr, dNot, dAndV, dOrV, dNotV, dIf, dChain, dNil, dCons, dTup, dLst, dLstM, dFrz, dIxC, seqOf, lstOf, ownOf, dNoPart, dPart, dSl, dCB, drLen, drAbs, drInt, drIntS, drStr, dr2I, drTuple, drList, drListM, drBls, drSum, dgName, dgNil, dgCons, dgTup, dgLst, dgSub, dNext, dSeq, dDrop, dRet, dRetN, dIfS, dAsg, dPar, dCall, dRaise, drPlus, drIxA, drSl, dBM, drAppend, drExtend, dIsi, tyD, startD, List.map, List.length_cons, List.length_nil, List.replicate, List.append_nil, List.nil_append, List.cons_append, List.set, List.getElem?_cons_zero, List.getElem?_cons_succ, Nat.reduceAdd, Nat.reduceSub, Nat.reduceLeDiff, true_and, and_true, if_true, if_false, Bool.false_eq_true, ite_true, ite_false, reduceIte, updM_same, updM_updM, ixN_0, ixN_1, ixN_2, ixN_3, ixN_m1, dJoin, dSplit, dUpper, diLst, diTup, diStr, dLc, dLcM, wipeD, dYes, List.length_singleton, drEq_str, drEq_int, drEq_bl, Bool.not_false, Bool.not_true, Option.bind_some, Bool.false_bne, Bool.true_bne, decide_true, decide_false]
    refine ⟨p, 6, _, rfl, hp2, by decide, by decide, by decide +kernel, fun r o3 h0 h1 hp3 => ?_⟩
    dsimp only
    refine item_of h0 ?_ fun d hd => ?_
    · exact h1
    have hodd : ∃ T, (∀ M, tyD M d = some T) ∧ kitB T "str" = some false := by
      simp only [List.mem_cons, List.not_mem_nil, or_false] at hd
      have ev : ∃ l, dEv e = .tup l := by cases e <;> exact ⟨_, rfl⟩
      rcases hd with rfl | rfl | rfl | rfl | rfl | rfl
      · exact ⟨"NoneType", fun _ => rfl, by decide +kernel⟩
      · exact ⟨"int", fun _ => rfl, by decide +kernel⟩
      · obtain ⟨l, hl⟩ := ev
        exact ⟨"tuple", fun _ => by rw [hl]; rfl, by decide +kernel⟩
      · exact ⟨"list", fun _ => rfl, by decide +kernel⟩
      · exact ⟨"tuple", fun _ => rfl, by decide +kernel⟩
      · exact ⟨"bool", fun _ => rfl, by decide +kernel⟩
    obtain ⟨T, hT, hT2⟩ := hodd
    refine ⟨e, p, _, rfl, hok, hp3, by decide, fun z o4 hz hp4 => ?_⟩
    simp only [dVar, dC, dOp, dTest, drI0, drI, dIsN, dNotN, isNonD, dAnd, dOr, dNot, dAndV, dOrV, dNotV, dIf, dChain, dNil, dCons, dTup, dLst, dLstM, dFrz, dIxC, seqOf, lstOf, ownOf, dNoPart, dPart, dSl, dCB, drLen, drAbs, drInt, drIntS, drStr, dr2I, drTuple, drList, drListM, drBls, drSum, dgName, dgNil, dgCons, dgTup, dgLst, dgSub, dNext, dSeq, dDrop, dRet, dRetN, dIfS, dAsg, dPar, dCall, dRaise, drPlus, drIxA, drSl, dBM, drAppend, drExtend, dIsi, tyD, startD, List.map, List.length_cons, List.length_nil, List.replicate, List.append_nil, List.nil_append, List.cons_append, List.set, List.getElem?_cons_zero, List.getElem?_cons_succ, Nat.reduceAdd, Nat.reduceSub, Nat.reduceLeDiff, true_and, and_true, if_true, if_false, Bool.false_eq_true, ite_true, ite_false, reduceIte, updM_same, updM_updM, ixN_0, ixN_1, ixN_2, ixN_3, ixN_m1, dJoin, dSplit, dUpper, diLst, diTup, diStr, dLc, dLcM, wipeD, dYes, List.length_singleton, drEq_str, drEq_int, drEq_bl, Bool.not_false, Bool.not_true, Option.bind_some, Bool.false_bne, Bool.true_bne, decide_true, decide_false]
    have last : ∀ M3 : MH, sp__law_refused K [d] M3 (fun d' M1 => match d' with
        | .bl k => if (!k) = true then Q (.bl false) M1 else ∃ o1 o2 o3 o4 o5 o6, [some (D.scr (ns.map D.int)), some (dEv e), some (D.int c), some (D.ref p), some (D.str e.txt), some d, some (D.str z)] = [some (.scr (ns.map D.int)), o1, o2, o3, o4, o5, o6]
        | _ => False) (fun cls fx M2 => E cls fx M2) := fun M3 => ⟨d, rfl, .inr ⟨T, hT M3, hT2⟩, fun a o ha => ⟨_, _, _, _, _, _, rfl⟩⟩
    by_cases hzf : z = ("fresh" : Str)
    · rw [decide_eq_true (show z = Str.ofString "fresh" from hzf)]
      simp only [dVar, dC, dOp, dTest, drI0, drI, dIsN, dNotN, isNonD, dAnd, dOr, dNot, dAndV, dOrV, dNotV, dIf, dChain, dNil, dCons, dTup, dLst, dLstM, dFrz, dIxC, seqOf, lstOf, ownOf, dNoPart, dPart, dSl, dCB, drLen, drAbs, drInt, drIntS, drStr, dr2I, drTuple, drList, drListM, drBls, drSum, dgName, dgNil, dgCons, dgTup, dgLst, dgSub, dNext, dSeq, dDrop, dRet, dRetN, dIfS, dAsg, dPar, dCall, dRaise, drPlus, drIxA, drSl, dBM, drAppend, drExtend, dIsi, tyD, startD, List.map, List.length_cons, List.length_nil, List.replicate, List.append_nil, List.nil_append, List.cons_append, List.set, List.getElem?_cons_zero, List.getElem?_cons_succ, Nat.reduceAdd, Nat.reduceSub, Nat.reduceLeDiff, true_and, and_true, if_true, if_false, Bool.false_eq_true, ite_true, ite_false, reduceIte, updM_same, updM_updM, ixN_0, ixN_1, ixN_2, ixN_3, ixN_m1, dJoin, dSplit, dUpper, diLst, diTup, diStr, dLc, dLcM, wipeD, dYes, List.length_singleton, drEq_str, drEq_int, drEq_bl, Bool.not_false, Bool.not_true, Option.bind_some, Bool.false_bne, Bool.true_bne, decide_true, decide_false]
      exact last _
    · rw [decide_eq_false (show ¬ z = Str.ofString "fresh" from hzf)]
      simp only [dVar, dC, dOp, dTest, drI0, drI, dIsN, dNotN, isNonD, dAnd, dOr, dNot, dAndV, dOrV, dNotV, dIf, dChain, dNil, dCons, dTup, dLst, dLstM, dFrz, dIxC, seqOf, lstOf, ownOf, dNoPart, dPart, dSl, dCB, drLen, drAbs, drInt, drIntS, drStr, dr2I, drTuple, drList, drListM, drBls, drSum, dgName, dgNil, dgCons, dgTup, dgLst, dgSub, dNext, dSeq, dDrop, dRet, dRetN, dIfS, dAsg, dPar, dCall, dRaise, drPlus, drIxA, drSl, dBM, drAppend, drExtend, dIsi, tyD, startD, List.map, List.length_cons, List.length_nil, List.replicate, List.append_nil, List.nil_append, List.cons_append, List.set, List.getElem?_cons_zero, List.getElem?_cons_succ, Nat.reduceAdd, Nat.reduceSub, Nat.reduceLeDiff, true_and, and_true, if_true, if_false, Bool.false_eq_true, ite_true, ite_false, reduceIte, updM_same, updM_updM, ixN_0, ixN_1, ixN_2, ixN_3, ixN_m1, dJoin, dSplit, dUpper, diLst, diTup, diStr, dLc, dLcM, wipeD, dYes, List.length_singleton, drEq_str, drEq_int, drEq_bl, Bool.not_false, Bool.not_true, Option.bind_some, Bool.false_bne, Bool.true_bne, decide_true, decide_false]
      refine ⟨_, rfl, .inl ⟨z, rfl, hz.1, hz.2.1, hz.2.2.resolve_left hzf⟩, fun a o ha => ?_⟩
      simp only [dVar, dC, dOp, dTest, drI0, drI, dIsN, dNotN, isNonD, dAnd, dOr, dNot, dAndV, dOrV, dNotV, dIf, dChain, dNil, dCons, dTup, dLst, dLstM, dFrz, dIxC, seqOf, lstOf, ownOf, dNoPart, dPart, dSl, dCB, drLen, drAbs, drInt, drIntS, drStr, dr2I, drTuple, drList, drListM, drBls, drSum, dgName, dgNil, dgCons, dgTup, dgLst, dgSub, dNext, dSeq, dDrop, dRet, dRetN, dIfS, dAsg, dPar, dCall, dRaise, drPlus, drIxA, drSl, dBM, drAppend, drExtend, dIsi, tyD, startD, List.map, List.length_cons, List.length_nil, List.replicate, List.append_nil, List.nil_append, List.cons_append, List.set, List.getElem?_cons_zero, List.getElem?_cons_succ, Nat.reduceAdd, Nat.reduceSub, Nat.reduceLeDiff, true_and, and_true, if_true, if_false, Bool.false_eq_true, ite_true, ite_false, reduceIte, updM_same, updM_updM, ixN_0, ixN_1, ixN_2, ixN_3, ixN_m1, dJoin, dSplit, dUpper, diLst, diTup, diStr, dLc, dLcM, wipeD, dYes, List.length_singleton, drEq_str, drEq_int, drEq_bl, Bool.not_false, Bool.not_true, Option.bind_some, Bool.false_bne, Bool.true_bne, decide_true, decide_false]
      exact last _
  rintro ρ M2 ⟨o1, o2, o3, o4, o5, o6, rfl⟩
  refine (hNX _ _).mpr ?_
  simp only [dVar, dC, dOp, dTest, drI0, drI, dIsN, dNotN, isNonD, dAnd, dOr, dNot, dAndV, dOrV, dNotV, dIf, dChain, dNil, dCons, dTup, dLst, dLstM, dFrz, dIxC, seqOf, lstOf, ownOf, dNoPart, dPart, dSl, dCB, drLen, drAbs, drInt, drIntS, drStr, dr2I, drTuple, drList, drListM, drBls, drSum, dgName, dgNil, dgCons, dgTup, dgLst, dgSub, dNext, dSeq, dDrop, dRet, dRetN, dIfS, dAsg, dPar, dCall, dRaise, drPlus, drIxA, drSl, dBM, drAppend, drExtend, dIsi, tyD, startD, List.map, List.length_cons, List.length_nil, List.replicate, List.append_nil, List.nil_append, List.cons_append, List.set, List.getElem?_cons_zero, List.getElem?_cons_succ, Nat.reduceAdd, Nat.reduceSub, Nat.reduceLeDiff, true_and, and_true, if_true, if_false, Bool.false_eq_true, ite_true, ite_false, reduceIte, updM_same, updM_updM, ixN_0, ixN_1, ixN_2, ixN_3, ixN_m1, dJoin, dSplit, dUpper, diLst, diTup, diStr, dLc, dLcM, wipeD, dYes, List.length_singleton, drEq_str, drEq_int, drEq_bl, Bool.not_false, Bool.not_true, Option.bind_some, Bool.false_bne, Bool.true_bne, decide_true, decide_false]
  exact k M2
end Lw

namespace Lw
open PySem L2 DL
section
variable {P : Program} {w : World} {K : PySem.W.Frag} {mg : Str → Option Value} {base : Heap}
theorem ok_event_text (T : Tx K mg) : FnOk P w K mg base (L2.CX P w) 1 (He.ga K "event_text") T.d_event_text ["event"] (LSp K (sp_event_text K)) :=
  fun_ok T.F_event_text sc_event_text (len_event_text K) (b_event_text (k := 0) T ) (sem_event_text K)
theorem ok_are_figures (T : Tx K mg) : FnOk P w K mg base (L2.CX P w) 1 (He.ga K "are_figures") T.d_are_figures ["text", "most"] (LSp K (sp_are_figures K)) :=
  fun_ok T.F_are_figures sc_are_figures (len_are_figures K) (b_are_figures (k := 0) T ) (sem_are_figures K)
theorem ok__law_pool (T : Tx K mg) : FnOk P w K mg base (L2.CX P w) 1 (He.ga K "_law_pool") T.d__law_pool ["cell"] (LSp K (sp__law_pool K)) :=
  fun_ok T.F__law_pool sc__law_pool (len__law_pool K) (b__law_pool (k := 0) T ) (sem__law_pool K)
theorem ok__law_next (T : Tx K mg) : FnOk P w K mg base (L2.CX P w) 1 (He.ga K "_law_next") T.d__law_next ["pool", "base"] (LSp K (sp__law_next K)) :=
  fun_ok T.F__law_next sc__law_next (len__law_next K) (b__law_next (k := 0) T ) (sem__law_next K)
theorem ok__law_figures (T : Tx K mg) : FnOk P w K mg base (L2.CX P w) 1 (He.ga K "_law_figures") T.d__law_figures ["number"] (LSp K (sp__law_figures K)) :=
  fun_ok T.F__law_figures sc__law_figures (len__law_figures K) (b__law_figures (k := 0) T ) (sem__law_figures K)
theorem ok_number_in (T : Tx K mg) : FnOk P w K mg base (L2.CX P w) 2 (He.ga K "number_in") T.d_number_in ["text", "most"] (LSp K (sp_number_in K)) :=
  fun_ok T.F_number_in sc_number_in (len_number_in K) (b_number_in (k := 1) T (G_are_figures := (ok_are_figures T).mono (by decide))) (sem_number_in K)
theorem ok__law_event (T : Tx K mg) : FnOk P w K mg base (L2.CX P w) 2 (He.ga K "_law_event") T.d__law_event ["pool"] (LSp K (sp__law_event K)) :=
  fun_ok T.F__law_event sc__law_event (len__law_event K) (b__law_event (k := 1) T (G__law_next := (ok__law_next T).mono (by decide))) (sem__law_event K)
theorem ok__law_event_text (T : Tx K mg) : FnOk P w K mg base (L2.CX P w) 2 (He.ga K "_law_event_text") T.d__law_event_text ["event"] (LSp K (sp__law_event_text K)) :=
  fun_ok T.F__law_event_text sc__law_event_text (len__law_event_text K) (b__law_event_text (k := 1) T (G__law_figures := (ok__law_figures T).mono (by decide))) (sem__law_event_text K)
theorem ok__law_amiss (T : Tx K mg) : FnOk P w K mg base (L2.CX P w) 2 (He.ga K "_law_amiss") T.d__law_amiss ["text", "pool"] (LSp K (sp__law_amiss K)) :=
  fun_ok T.F__law_amiss sc__law_amiss (len__law_amiss K) (b__law_amiss (k := 1) T (G__law_next := (ok__law_next T).mono (by decide))) (sem__law_amiss K)
theorem ok_read_event (T : Tx K mg) : FnOk P w K mg base (L2.CX P w) 3 (He.ga K "read_event") T.d_read_event ["text"] (LSp K (sp_read_event K)) :=
  fun_ok T.F_read_event sc_read_event (len_read_event K) (b_read_event (k := 2) T (G_number_in := (ok_number_in T).mono (by decide))) (sem_read_event K)
theorem ok__law_refused (T : Tx K mg) : FnOk P w K mg base (L2.CX P w) 4 (He.ga K "_law_refused") T.d__law_refused ["thing"] (LSp K (sp__law_refused K)) :=
  fun_ok T.F__law_refused sc__law_refused (len__law_refused K) (b__law_refused (k := 3) T (G_read_event := (ok_read_event T).mono (by decide))) (sem__law_refused K T.e_NoText)
theorem ok_law (T : Tx K mg) : FnOk P w K mg base (L2.CX P w) 5 (He.ga K "law") T.d_law ["script"] (LSp K (sp_law K)) :=
  fun_ok T.F_law sc_law (len_law K) (b_law (k := 4) T (G_read_event := (ok_read_event T).mono (by decide)) (G__law_event_text := (ok__law_event_text T).mono (by decide)) (G_event_text := (ok_event_text T).mono (by decide)) (G__law_pool := (ok__law_pool T).mono (by decide)) (G__law_event := (ok__law_event T).mono (by decide)) (G__law_next := (ok__law_next T).mono (by decide)) (G__law_amiss := (ok__law_amiss T).mono (by decide)) (G__law_refused := (ok__law_refused T).mono (by decide))) (sem_law K)
end
def loose0 : List Str := ["WeirError", "NoText", "FIGURES", "EVENT_FIGURES", "ONE_NUMBER", "ENDS", "event_text", "are_figures", "number_in", "read_event", "_law_pool", "_law_next", "_law_figures", "_law_event", "_law_event_text", "_law_amiss", "_law_refused"]
def looseAll : List Str := loose0
abbrev Rw : PySem.W.OpenRow := PySem.W.OpenLaw.row PySem.Challenge.rw_tryweir_k72_whole_events_written_and_rea
abbrev hk : PySem.W.Hook := He.hookX 5 fa fn [] [] ex
def ob (s : PySem.W.SharedT) : He.AlX := He.obsX 5 fa fn [] [] ex (HandSHeadRun.getT s)
theorem ob_eq (s : PySem.W.SharedT) : ob s = hk.obs s.abs := He.obsX_eq (HandSHeadRun.getT_eq s)
theorem run (w : World) : HandSHeadRun.RunEq Rw (PySem.W.view Rw.prog [20]) hk ob 4000 looseAll w := by
  intro os
  kernel_rfl
theorem facts {P : Program} {w : World} {K : PySem.W.Frag} {h : Heap} {mg : Str → Option Value} {f : Addr} (X : K.In h) (G : h.Ns mainGlobals mg) (hfa : mg ("law" : Str) = some (.ref f)) (c : He.SaysX fa fn [] [] ex w h K) :
    ∃ fd : FuncData, (∀ (s : Shared) (v : Value), BindsTo s fd ⟨[v], []⟩ [("script", v)]) ∧ ∀ base : Heap, K.In base → base.Ns mainGlobals mg → FnOk P w K mg base (L2.CX P w) 5 f fd ["script"] (LSp K (sp_law K)) := by
  obtain ⟨T⟩ := tx_of X G c.t.d c.more
  have e := hfa.symm.trans T.m_law
  cases e
  have b := FunD.bindsA (ps := ["script"]) T.F_law fun _ _ _ _ _ _ us hl => match us, hl with | [_], _ => rfl
  exact ⟨T.d_law, fun s v => b s [v] rfl, fun base _ _ => ok_law T⟩
end Lw
open PySem PySem.W PySem.Calls PyProof.Rows
theorem PySem.Challenge.cw_tryweir_k72_whole_events_written_and_rea_holds : PySem.Challenge.rw_tryweir_k72_whole_events_written_and_rea.Holds := by
  w_on; o_law
  refine HandSHeadRun.head_any (r := OpenLaw.row PySem.Challenge.rw_tryweir_k72_whole_events_written_and_rea) (q := view (OpenLaw.row PySem.Challenge.rw_tryweir_k72_whole_events_written_and_rea).prog [20]) (H := Lw.hk) (ob := Lw.ob) (M := 4000) (loose := Lw.looseAll) (d := HandSHeadRun.topDef (OpenLaw.row PySem.Challenge.rw_tryweir_k72_whole_events_written_and_rea).prog 20) (kwd := []) Lw.ob_eq
    (by kernel_rfl) (fun s => by kernel_rfl) Lw.run (by kernel_rfl) (by kernel_rfl) (by kernel_rfl) (by rfl) (by first | assumption | decide +kernel) (by decide +kernel) ⟨rfl, rfl, rfl, rfl, rfl, by decide +kernel⟩ ?hw ?hc
  case hw => w_witness2
  case hc =>
    refine DL.walk_bits (l := PySem.Challenge.rw_tryweir_k72_whole_events_written_and_rea) (n := 63) (k := 5) (x := "script") (CX := fun w => L2.CX (PySem.Challenge.rw_tryweir_k72_whole_events_written_and_rea).prog w) rfl (by decide) (by kernel_rfl) ⟨rfl, by decide, by decide⟩ ?F DL.no_leave
    intro w mg fa h Y G hmg0
    obtain ⟨K, KX, c⟩ := Y
    have hmg : mg ("law" : PySem.Str) = some (.ref fa) := by
      have e : (HandSHeadRun.topDef (OpenLaw.row PySem.Challenge.rw_tryweir_k72_whole_events_written_and_rea).prog 20).name = ("law" : PySem.Str) := by kernel_rfl
      rw [← e]
      exact hmg0
    obtain ⟨fd, hb, hF⟩ := Lw.facts (P := (PySem.Challenge.rw_tryweir_k72_whole_events_written_and_rea).prog) (w := w) KX G hmg c
    exact ⟨K, fd, _, KX, hb, fun H a ns hl hbits hS => DL.spLaw_of hl hbits hS, hF⟩

